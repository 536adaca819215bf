import PyProof.Rows.All
import Wide.All
import OpenK.AllK
import Wide.FinOn
import HandS.ForMost
import HandS.IsInst
import HandS.Wide
import HandS.Evl
import HandS.TupAny
import HandS.RaiseMore
import HandS.Style
import PyProof.StrLawsRepr
import HandS.Lambda
import HandS.TupMul
import HandS.SortInts
import HandS.WideBits
import HandS.More
import HandS.Zip
import HandS.Iter
import KE.GoesNew
import KE.GoesEnumKw
import HandS.SetFor
import HandS.Strs
import HandS.Conv
import HandS.HotCalls
import HandS.ExcIs
import HandS.EndTab
import KE.KNestM
import PyProof.ExcBaseAll.ValueError
import PySem.Challenge.RW_waterheads_k04_cases_known
set_option Elab.async false
set_option linter.all false
set_option maxRecDepth 100000
set_option maxHeartbeats 1000000
/-! Wh1: data, the relation to values over an abstract heap, the small language, its evaluation. -/
namespace Wh
open PySem L2 Evl

/-! ### data -/
def kD : Key → PyData
  | .inl i => .int i
  | .inr x => .str x
mutual
inductive Rp (K : PySem.W.Frag) (F : Hp) : V → PyData → Prop
  | non : Rp K F .non .none
  | bl (b : Bool) : Rp K F (.bl b) (.bool b)
  | int (i : Int) : Rp K F (.int i) (.int i)
  | str (x : Str) : Rp K F (.str x) (.str x)
  | lst {a : Addr} {xs : List V} {ds : List PyData} : SqL K F a xs → RpA K F xs ds → Rp K F (.ref a) (.list ds)
  | tup {a : Addr} {xs : List V} {ds : List PyData} : SqT K F a xs → RpA K F xs ds → Rp K F (.ref a) (.tuple ds)
  | dct {a : Addr} {kvs : List (Key × V)} {kds : List (PyData × PyData)} : F a = some (.dK kvs) → RpK K F kvs kds → Rp K F (.ref a) (.dict kds)
inductive RpA (K : PySem.W.Frag) (F : Hp) : List V → List PyData → Prop
  | nil : RpA K F [] []
  | cons {v : V} {vs : List V} {d : PyData} {ds : List PyData} : Rp K F v d → RpA K F vs ds → RpA K F (v :: vs) (d :: ds)
inductive RpK (K : PySem.W.Frag) (F : Hp) : List (Key × V) → List (PyData × PyData) → Prop
  | nil : RpK K F [] []
  | cons {k : Key} {v : V} {d : PyData} {kvs : List (Key × V)} {kds : List (PyData × PyData)} : Rp K F v d → RpK K F kvs kds → RpK K F ((k, v) :: kvs) ((kD k, d) :: kds)
end
section
variable {K : PySem.W.Frag} {F F' : Hp}
mutual
theorem Rp.mono (e : Ex F F') : ∀ {v : V} {d : PyData}, Rp K F v d → Rp K F' v d
  | _, _, .non => .non
  | _, _, .bl b => .bl b
  | _, _, .int i => .int i
  | _, _, .str x => .str x
  | _, _, .lst h a => .lst (ex_l e h) (RpA.mono e a)
  | _, _, .tup h a => .tup (ex_t e h) (RpA.mono e a)
  | _, _, .dct h a => .dct (e _ _ h) (RpK.mono e a)
theorem RpA.mono (e : Ex F F') : ∀ {vs : List V} {ds : List PyData}, RpA K F vs ds → RpA K F' vs ds
  | _, _, .nil => .nil
  | _, _, .cons h t => .cons (Rp.mono e h) (RpA.mono e t)
theorem RpK.mono (e : Ex F F') : ∀ {vs : List (Key × V)} {ds : List (PyData × PyData)}, RpK K F vs ds → RpK K F' vs ds
  | _, _, .nil => .nil
  | _, _, .cons h t => .cons (Rp.mono e h) (RpK.mono e t)
end
theorem RpA.len : ∀ {vs : List V} {ds : List PyData}, RpA K F vs ds → vs.length = ds.length
  | _, _, .nil => rfl
  | _, _, .cons _ t => by simp [RpA.len t]
theorem RpA.get : ∀ {vs : List V} {ds : List PyData} {i : Nat} {d : PyData}, RpA K F vs ds → ds[i]? = some d → ∃ v, vs[i]? = some v ∧ Rp K F v d
  | _, _, _, _, .nil, e => by simp at e
  | _, _, 0, _, .cons h _, e => by simp at e; subst e; exact ⟨_, rfl, h⟩
  | _, _, i + 1, d, .cons _ t, e => by
    obtain ⟨v, h1, h2⟩ := RpA.get (i := i) (d := d) t (by simpa using e)
    exact ⟨v, by simpa using h1, h2⟩
theorem RpA.getV : ∀ {vs : List V} {ds : List PyData} {i : Nat} {v : V}, RpA K F vs ds → vs[i]? = some v → ∃ d, ds[i]? = some d ∧ Rp K F v d
  | _, _, _, _, .nil, e => by simp at e
  | _, _, 0, _, .cons h _, e => by simp at e; subst e; exact ⟨_, rfl, h⟩
  | _, _, i + 1, v, .cons _ t, e => by
    obtain ⟨d, h1, h2⟩ := RpA.getV (i := i) (v := v) t (by simpa using e)
    exact ⟨d, by simpa using h1, h2⟩
theorem RpA.append : ∀ {vs ws : List V} {ds es : List PyData}, RpA K F vs ds → RpA K F ws es → RpA K F (vs ++ ws) (ds ++ es)
  | _, _, _, _, .nil, s => s
  | _, _, _, _, .cons h t, s => .cons h (RpA.append t s)
theorem RpA.take : ∀ {vs : List V} {ds : List PyData} (n : Nat), RpA K F vs ds → RpA K F (vs.take n) (ds.take n)
  | _, _, 0, _ => .nil
  | _, _, _ + 1, .nil => .nil
  | _, _, n + 1, .cons h t => .cons h (RpA.take n t)
theorem RpA.drop : ∀ {vs : List V} {ds : List PyData} (n : Nat), RpA K F vs ds → RpA K F (vs.drop n) (ds.drop n)
  | _, _, 0, r => r
  | _, _, _ + 1, .nil => .nil
  | _, _, n + 1, .cons _ t => RpA.drop n t
theorem RpA.set {x : V} {u : PyData} (r : Rp K F x u) : ∀ {xs : List V} {us : List PyData} (i : Nat), RpA K F xs us → RpA K F (xs.set i x) (us.set i u)
  | _, _, _, .nil => .nil
  | _, _, 0, .cons _ t => .cons r t
  | _, _, i + 1, .cons q t => .cons q (RpA.set r i t)
theorem RpA.one {v : V} {d : PyData} (h : Rp K F v d) : RpA K F [v] [d] := .cons h .nil
theorem RpA.inv1 {vs : List V} {d : PyData} (h : RpA K F vs [d]) : ∃ v, vs = [v] ∧ Rp K F v d := by
  cases h with
  | cons a b => cases b; exact ⟨_, rfl, a⟩
theorem RpA.inv2 {vs : List V} {d e : PyData} (h : RpA K F vs [d, e]) : ∃ v w, vs = [v, w] ∧ Rp K F v d ∧ Rp K F w e := by
  cases h with
  | cons a b =>
    obtain ⟨w, rfl, hw⟩ := b.inv1
    exact ⟨_, _, rfl, a, hw⟩
theorem RpA.ints : ∀ {vs : List V} {ns : List Int}, RpA K F vs (ns.map .int) → vs = ns.map V.int
  | _, [], h => by cases h; rfl
  | _, n :: ns, h => by
    cases h with
    | cons a b => cases a; rw [RpA.ints b]; rfl
theorem RpA.bools : ∀ {vs : List V} {bs : List Bool}, RpA K F vs (bs.map .bool) → vs = bs.map V.bl
  | _, [], h => by cases h; rfl
  | _, n :: ns, h => by
    cases h with
    | cons a b => cases a; rw [RpA.bools b]; rfl
theorem RpA.ofInts : ∀ (ns : List Int), RpA K F (ns.map V.int) (ns.map .int)
  | [] => .nil
  | n :: ns => .cons (.int n) (RpA.ofInts ns)
end

/-! ### the environment -/
/-- what a slot holds: data that does not change any more, a list of one's own, or the exception that is held -/
inductive Sv where
  | d (x : PyData)
  | own (b : Bool) (xs : List PyData)
  | x
abbrev En := List (Option Sv)

/-- the tables of code objects that lambdas are looked up in; where the exception lies that is held -/
class Tbl where
  T : List (Addr × Str)
  xa : Addr
/-- no table of code objects -/
def noT (o : HO) : Prop := ∀ ps, o ≠ .tbl ps
theorem tabs_keep {T : List (Addr × Str)} {H H' : Hp} (t : LamX.Tabs T H) (h : ∀ a o, H a = some o → (∀ vs, o ≠ .lst vs) → H' a = some o) : LamX.Tabs T H' := fun p hp => by
  obtain ⟨ps, h1, h2, h3⟩ := t p hp
  refine ⟨ps, h _ _ h1 (fun vs z => by cases z), h2, fun pos cv hc => ?_⟩
  obtain ⟨c, e1, e2⟩ := h3 pos cv hc
  exact ⟨c, e1, h _ _ e2 (fun vs z => by unfold LamX.CodeO at z; cases z)⟩
/-- what is known as data lies in the heap; the tables stand -/
structure Wl [Tbl] (F H : Hp) : Prop where
  ex : Ex F H
  tab : LamX.Tabs Tbl.T H
  nt : ∀ a o, F a = some o → noT o
section
variable [Tbl] {F H : Hp} {p : Addr} {o : HO}
theorem Wl.lay (w : Wl F H) (h : H p = none) (ho : noT o) : Wl (upd F p o) (upd H p o) := by
  refine ⟨fun a u ha => ?_, tabs_keep w.tab fun a u ha _ => ?_, fun a u ha => ?_⟩
  · by_cases hp : a = p
    · subst hp; rw [upd_same] at ha ⊢; exact ha
    · rw [upd_ne hp] at ha ⊢; exact w.ex a u ha
  · rw [upd_ne (ne_of_none ha h)]; exact ha
  · by_cases hp : a = p
    · subst hp; rw [upd_same] at ha; cases ha; exact ho
    · rw [upd_ne hp] at ha; exact w.nt a u ha
theorem Wl.layOff (w : Wl F H) (h : H p = none) : Wl F (upd H p o) := by
  refine ⟨fun a u ha => ?_, tabs_keep w.tab fun a u ha _ => ?_, w.nt⟩
  · have := w.ex a u ha
    rw [upd_ne (ne_of_none this h)]; exact this
  · rw [upd_ne (ne_of_none ha h)]; exact ha
theorem Wl.frz (w : Wl F H) (h : H p = some o) (ho : noT o) : Wl (upd F p o) H := by
  refine ⟨fun a u ha => ?_, w.tab, fun a u ha => ?_⟩
  · by_cases hp : a = p
    · subst hp; rw [upd_same] at ha; rw [h]; exact ha
    · rw [upd_ne hp] at ha; exact w.ex a u ha
  · by_cases hp : a = p
    · subst hp; rw [upd_same] at ha; cases ha; exact ho
    · rw [upd_ne hp] at ha; exact w.nt a u ha
theorem Wl.put (w : Wl F H) {vs ws : List V} (hf : F p = none) (h : H p = some (.lst vs)) : Wl F (upd H p (.lst ws)) := by
  refine ⟨fun a u ha => ?_, tabs_keep w.tab fun a u ha hn => ?_, w.nt⟩
  · rw [upd_ne (ne_of_none ha hf)]; exact w.ex a u ha
  · have : a ≠ p := fun z => by
      rw [z, h] at ha
      cases ha
      exact hn _ rfl
    rw [upd_ne this]; exact ha
end
structure Rep [Tbl] (K : PySem.W.Frag) (ρ : En) (σ : L2.St) (F H : Hp) : Prop where
  len : ρ.length = σ.length
  wl : Wl F H
  dat : ∀ (i : Nat) (x : PyData), ρ[i]? = some (some (Sv.d x)) → ∃ v, σ[i]? = some (some v) ∧ Rp K F v x
  own : ∀ (i : Nat) (b : Bool) (xs : List PyData), ρ[i]? = some (some (Sv.own b xs)) → ∃ (p : Addr) (vs : List V), σ[i]? = some (some (V.ref p)) ∧ F p = none ∧ H p = some (HO.lst vs) ∧ RpA K F vs xs
  dis : ∀ (i j : Nat) (b b' : Bool) (xs ys : List PyData) (p : Addr), ρ[i]? = some (some (Sv.own b xs)) → ρ[j]? = some (some (Sv.own b' ys)) → σ[i]? = some (some (V.ref p)) → σ[j]? = some (some (V.ref p)) → i = j
  xc : ∀ i : Nat, ρ[i]? = some (some Sv.x) → σ[i]? = some (some (V.ref Tbl.xa))
theorem Rep.ex [Tbl] {K : PySem.W.Frag} {ρ : En} {σ : L2.St} {F H : Hp} (r : Rep K ρ σ F H) : Ex F H := r.wl.ex

def Own (ρ : En) (σ : L2.St) (p : Addr) : Prop := ∃ (i : Nat) (b : Bool) (xs : List PyData), ρ[i]? = some (some (Sv.own b xs)) ∧ σ[i]? = some (some (V.ref p))

structure Stp (ρ : En) (σ : L2.St) (F H : Hp) (ρ' : En) (σ' : L2.St) (F' H' : Hp) : Prop where
  ext : Ex F F'
  new : ∀ a o, F' a = some o → F a = some o ∨ H a = none ∨ Own ρ σ a
  fr : ∀ a o, H a = some o → ¬ Own ρ σ a → noT o → H' a = some o
  own : ∀ a, Own ρ' σ' a → Own ρ σ a ∨ H a = none
  alive : ∀ a, H' a = none → H a = none
  pen : ∀ (i : Nat) (xs' : List PyData), ρ'[i]? = some (some (Sv.own true xs')) → σ'[i]? = σ[i]? ∧ ∃ xs, ρ[i]? = some (some (Sv.own true xs))
/-- an expression's step: no slot becomes one's own -/
structure StpE (ρ : En) (σ : L2.St) (F H : Hp) (ρ' : En) (F' H' : Hp) : Prop extends Stp ρ σ F H ρ' σ F' H' where
  str : ∀ a, Own ρ' σ a → Own ρ σ a

section
variable {ρ ρ1 ρ2 : En} {σ σ1 σ2 : L2.St} {F F1 F2 H H1 H2 : Hp}
theorem upd_none' {H : Hp} {a b : Addr} {o : HO} (e : upd H a o b = none) : H b = none := by
  unfold upd at e
  split at e
  · cases e
  · exact e
theorem Stp.refl : Stp ρ σ F H ρ σ F H := ⟨Ex.refl F, fun _ _ h => .inl h, fun _ _ h _ _ => h, fun _ h => .inl h, fun _ h => h, fun i xs h => ⟨rfl, xs, h⟩⟩
theorem Stp.trans (a : Stp ρ σ F H ρ1 σ1 F1 H1) (b : Stp ρ1 σ1 F1 H1 ρ2 σ2 F2 H2) : Stp ρ σ F H ρ2 σ2 F2 H2 := by
  have back : ∀ x, H1 x = none → H x = none ∨ Own ρ σ x := fun x h => .inl (a.alive x h)
  refine ⟨a.ext.trans b.ext, fun x o h => ?_, fun x o h no nt => ?_, fun x h => ?_, fun x h => a.alive x (b.alive x h), fun i xs h => ?_⟩
  · rcases b.new x o h with q | q | q
    · exact a.new x o q
    · exact .inr (back x q)
    · rcases a.own x q with z | z
      · exact .inr (.inr z)
      · exact .inr (.inl z)
  · refine b.fr x o (a.fr x o h no nt) (fun q => ?_) nt
    rcases a.own x q with z | z
    · exact no z
    · rw [h] at z; cases z
  · rcases b.own x h with q | q
    · exact a.own x q
    · exact (back x q).symm
  · obtain ⟨h1, ys, h2⟩ := b.pen i xs h
    obtain ⟨h3, zs, h4⟩ := a.pen i ys h2
    exact ⟨h1.trans h3, zs, h4⟩
theorem StpE.refl : StpE ρ σ F H ρ F H := ⟨Stp.refl, fun _ h => h⟩
theorem StpE.trans (a : StpE ρ σ F H ρ1 F1 H1) (b : StpE ρ1 σ F1 H1 ρ2 F2 H2) : StpE ρ σ F H ρ2 F2 H2 := ⟨a.toStp.trans b.toStp, fun x h => a.str x (b.str x h)⟩

/-- what is not one's own and was there is there; what is new is not in F -/
theorem Rep.own_some [Tbl] {K : PySem.W.Frag} (r : Rep K ρ σ F H) {p : Addr} (h : Own ρ σ p) : F p = none ∧ ∃ vs, H p = some (.lst vs) := by
  obtain ⟨i, b, xs, h1, h2⟩ := h
  obtain ⟨q, vs, e, hf, hh, _⟩ := r.own i b xs h1
  rw [h2] at e; cases e
  exact ⟨hf, vs, hh⟩
theorem Rep.none_own [Tbl] {K : PySem.W.Frag} (r : Rep K ρ σ F H) {p : Addr} (h : H p = none) : ¬ Own ρ σ p := fun o => by
  obtain ⟨_, vs, e⟩ := r.own_some o
  rw [h] at e; cases e
/-- an object laid anew: known as data -/
theorem Rep.lay [Tbl] {K : PySem.W.Frag} (r : Rep K ρ σ F H) {p : Addr} {o : HO} (h : H p = none) (ho : noT o := by intro ps z; cases z) : Rep K ρ σ (upd F p o) (upd H p o) := by
  have hF : F p = none := fresh_back r.ex h
  have e : Ex F (upd F p o) := Ex.new hF
  refine ⟨r.len, r.wl.lay h ho, fun i x hx => ?_, fun i b xs hx => ?_, r.dis, r.xc⟩
  · obtain ⟨v, h1, h2⟩ := r.dat i x hx
    exact ⟨v, h1, h2.mono e⟩
  · obtain ⟨q, vs, h1, h2, h3, h4⟩ := r.own i b xs hx
    have hq : q ≠ p := fun z => by rw [z, h] at h3; cases h3
    exact ⟨q, vs, h1, by rw [upd_ne hq]; exact h2, by rw [upd_ne hq]; exact h3, h4.mono e⟩
theorem StpE.lay [Tbl] {K : PySem.W.Frag} (r : Rep K ρ σ F H) {p : Addr} {o : HO} (h : H p = none) : StpE ρ σ F H ρ (upd F p o) (upd H p o) := by
  have hF : F p = none := fresh_back r.ex h
  refine ⟨⟨Ex.new hF, fun a u ha => ?_, fun a u ha _ _ => ?_, fun a h => .inl h, fun a h => upd_none' h, fun i xs h => ⟨rfl, xs, h⟩⟩, fun _ h => h⟩
  · by_cases hp : a = p
    · subst hp; exact .inr (.inl h)
    · rw [upd_ne hp] at ha; exact .inl ha
  · rw [upd_ne (ne_of_none ha h)]; exact ha
/-- .. laid anew, not known as data (a list that may still change) -/
theorem Rep.layOff [Tbl] {K : PySem.W.Frag} (r : Rep K ρ σ F H) {p : Addr} {o : HO} (h : H p = none) : Rep K ρ σ F (upd H p o) := by
  refine ⟨r.len, r.wl.layOff h, r.dat, fun i b xs hx => ?_, r.dis, r.xc⟩
  obtain ⟨q, vs, h1, h2, h3, h4⟩ := r.own i b xs hx
  exact ⟨q, vs, h1, h2, by rw [upd_ne (ne_of_none h3 h)]; exact h3, h4⟩
theorem StpE.layOff {p : Addr} {o : HO} (h : H p = none) : StpE ρ σ F H ρ F (upd H p o) :=
  ⟨⟨Ex.refl F, fun _ _ ha => .inl ha, fun a u ha _ _ => by rw [upd_ne (ne_of_none ha h)]; exact ha, fun a h => .inl h, fun a h => upd_none' h, fun i xs h => ⟨rfl, xs, h⟩⟩, fun _ h => h⟩
/-- a list that stood off is known as data from now on -/
theorem Rep.frz [Tbl] {K : PySem.W.Frag} (r : Rep K ρ σ F H) {p : Addr} {o : HO} (h : H p = some o) (hf : F p = none) (no : ¬ Own ρ σ p) (ho : noT o := by intro ps z; cases z) : Rep K ρ σ (upd F p o) H := by
  have e : Ex F (upd F p o) := Ex.new hf
  refine ⟨r.len, r.wl.frz h ho, fun i x hx => ?_, fun i b xs hx => ?_, r.dis, r.xc⟩
  · obtain ⟨v, h1, h2⟩ := r.dat i x hx
    exact ⟨v, h1, h2.mono e⟩
  · obtain ⟨q, vs, h1, h2, h3, h4⟩ := r.own i b xs hx
    have hq : q ≠ p := fun z => no ⟨i, b, xs, hx, by rw [← z]; exact h1⟩
    exact ⟨q, vs, h1, by rw [upd_ne hq]; exact h2, h3, h4.mono e⟩
end
end Wh

set_option Elab.async false
set_option linter.all false
set_option maxRecDepth 100000
set_option maxHeartbeats 1000000
/-! Wh2: the small language and its evaluation. -/
namespace Wh
open PySem L2 Evl

inductive BOp where
  | add | sub | mul | fdiv | mod | pow | shl | shr | band
  deriving DecidableEq
inductive COp where
  | eq | ne | lt | le | gt | ge | isN | notN | inn | nin
  deriving DecidableEq
inductive Ty where
  | int | bool | str | tuple | list | dict
  deriving DecidableEq
inductive B1 where
  | len | abs | int | all | any | repr | tuple | list | str | srt | isi (t : Ty)
  deriving DecidableEq
inductive B2 where
  | max | min | dvm
  deriving DecidableEq
inductive Tg where
  | name (i : Nat)
  | tup (ts : List Tg)
mutual
inductive Ep where
  | con (d : PyData)
  | var (i : Nat)
  | glob (x : Str)
  | bin (op : BOp) (a b : Ep)
  | neg (a : Ep)
  | cmp (op : COp) (a b : Ep)
  | chain (o1 o2 : COp) (a b c : Ep)
  | and (a b : Ep)
  | or (a b : Ep)
  | not (a : Ep)
  | ite (c : Tp) (a b : Ep)
  | tup (es : List Ep)
  | lst (es : List Ep)
  | repl (es : List Ep) (n : Ep)
  | dct0
  | dct1 (k v : Ep)
  | ix (a i : Ep)
  | oix (i : Nat) (a : Ep)
  | sl (a : Ep) (lo hi : Option Ep)
  | call (f : Str) (es : List Ep)
  | callp (f : Str) (i : Nat) (es : List Ep)
  | b1 (b : B1) (a : Ep)
  | b2 (b : B2) (a c : Ep)
  | gget (x : Str) (a : Ep)
  | cnt (a c : Ep)
  | idx (a c : Ep)
  | srs (a : Ep)
  | rev (a : Ep)
  | trg (a : Ep)
  | oin (neg : Bool) (a : Ep) (i : Nat)
  | olen (i : Nat)
  | callk (f : Str) (es : List Ep) (ix : List (Nat ⊕ PyData))
  | xcon (i : Nat) (d : PyData)
  | bad
  | said (x : Str) (ws : List (Str × PyData)) (f : Str) (es : List Ep)
  | comp (elt : Ep) (tg : Tg) (it : It') (cond : List Tp) (own : List Nat)
inductive Tp where
  | leaf (e : Ep)
  | and (a b : Tp)
  | or (a b : Tp)
  | not (a : Tp)
inductive It' where
  | seq (e : Ep)
  | rng1 (a : Ep)
  | rng2 (a b : Ep)
  | enum (a : Ep)
  | zip (a b : Ep)
end
inductive Sm where
  | set (i : Nat) (e : Ep)
  | seto (i : Nat) (e : Ep)
  | unp (ts : List Tg) (e : Ep)
  | par (is : List Nat) (es : List Ep)
  | paro (is : List Nat) (os : List Bool) (es : List Ep)
  | seti (i : Nat) (a e : Ep)
  | app (i : Nat) (e : Ep)
  | expr (e : Ep)
  | ret (e : Ep)
  | retN
  | ite (c : Tp) (a b : List Sm)
  | for_ (tg : Tg) (it : It') (body : List Sm)
  | wh (c : Tp) (body : List Sm)
  | pass | brk | cont | fail (x : Option Str)
inductive Fl where
  | next | brk | cont | ret (x : PyData)

structure Cfg where
  call : Str → Option (List PyData) → List PyData → Option (PyData × Option (List PyData))
  glob : Str → Option PyData
  wf : Nat
  exc : Str → List PyData → Option Str

/-! ### on data -/
def tyOf : PyData → String
  | .none => "NoneType"
  | .bool _ => "bool"
  | .int _ => "int"
  | .str _ => "str"
  | .list _ => "list"
  | .tuple _ => "tuple"
  | .dict _ => "dict"
def Ty.nm : Ty → String
  | .int => "int" | .bool => "bool" | .str => "str" | .tuple => "tuple" | .list => "list" | .dict => "dict"
def isi : Ty → PyData → Bool
  | .int, .int _ => true
  | .int, .bool _ => true
  | .bool, .bool _ => true
  | .str, .str _ => true
  | .tuple, .tuple _ => true
  | .list, .list _ => true
  | .dict, .dict _ => true
  | _, _ => false
def mulOk (i j : Int) : Bool := decide (i.natAbs.log2 + j.natAbs.log2 < 1000000)
def divOk (j : Int) : Bool := decide (j ≠ 0) && decide (j.natAbs.log2 < 9000)
def binD : BOp → PyData → PyData → Option PyData
  | .add, .int i, .int j => some (.int (i + j))
  | .sub, .int i, .int j => some (.int (i - j))
  | .mul, .int i, .int j => if mulOk i j then some (.int (i * j)) else none
  | .mul, .tuple xs, .int k => if !xs.isEmpty ∧ 2 ≤ k ∧ k ≤ 1000 ∧ xs.length ≤ 1000 then some (.tuple (List.replicate k.toNat xs).flatten) else none
  | .mul, .list xs, .int k => if 0 ≤ k ∧ k ≤ 1000 ∧ xs.length ≤ 1000 then some (.list (List.replicate k.toNat xs).flatten) else none
  | .fdiv, .int i, .int j => if divOk j then some (.int (i.fdiv j)) else none
  | .mod, .int i, .int j => if j = 0 then none else some (.int (i.fmod j))
  | .pow, .int i, .int j => if 0 ≤ j ∧ j ≤ 1000000 ∧ i.natAbs < 2 ^ 64 then some (.int (i ^ j.toNat)) else none
  | .shl, .int i, .int j => if 0 ≤ j ∧ j ≤ 1000000 ∧ i.natAbs < 2 ^ 64 then some (.int (i * 2 ^ j.toNat)) else none
  | .shr, .int i, .int j => if 0 ≤ j then some (.int (i / 2 ^ j.toNat)) else none
  | .band, .int i, .int j => some (.int (Builtin.bitAnd i j))
  | .add, .str x, .str y => if x.length + y.length ≤ sizeLine then some (.str (x ++ y)) else none
  | .add, .tuple xs, .tuple ys => if xs.length + ys.length ≤ sizeLine then some (.tuple (xs ++ ys)) else none
  | .add, .list xs, .list ys => if xs.length + ys.length ≤ sizeLine then some (.list (xs ++ ys)) else none
  | _, _, _ => none
def flat : PyData → Bool
  | .none => true
  | .bool _ => true
  | .int _ => true
  | .str _ => true
  | _ => false
def inD (x : PyData) (xs : List PyData) : Option Bool := if flat x && xs.all flat then some (xs.any fun y => PyData.eqv y x) else none
def eqD : PyData → PyData → Option Bool
  | .str x, .str y => some (x == y)
  | .tuple xs, .tuple [] => some xs.isEmpty
  | x, y => if SeqAt.shaped x && SeqAt.shaped y then some (PyData.eqv x y) else none
theorem eqD_or {x y : PyData} {z : Bool} (h : eqD x y = some z) : (∃ a b, x = .str a ∧ y = .str b ∧ z = (a == b)) ∨ (∃ xs, x = .tuple xs ∧ y = .tuple [] ∧ z = xs.isEmpty) ∨ (SeqAt.shaped x = true ∧ SeqAt.shaped y = true ∧ z = PyData.eqv x y) := by
  unfold eqD at h
  split at h
  · cases h; exact .inl ⟨_, _, rfl, rfl, rfl⟩
  · cases h; exact .inr (.inl ⟨_, rfl, rfl, rfl⟩)
  · split at h
    · rename_i hc
      rw [Bool.and_eq_true] at hc
      cases h
      exact .inr (.inr ⟨hc.1, hc.2, rfl⟩)
    · cases h
def cmpD : COp → PyData → PyData → Option Bool
  | .lt, .int i, .int j => some (decide (i < j))
  | .le, .int i, .int j => some (decide (i ≤ j))
  | .gt, .int i, .int j => some (decide (j < i))
  | .ge, .int i, .int j => some (decide (j ≤ i))
  | .eq, x, y => eqD x y
  | .ne, x, y => (eqD x y).map (!·)
  | .isN, .bool a, .bool b => some (decide (a = b))
  | .notN, .bool a, .bool b => some (!decide (a = b))
  | .isN, x, .none => some (match x with | .none => true | _ => false)
  | .notN, x, .none => some (match x with | .none => false | _ => true)
  | .inn, x, .list ys => inD x ys
  | .inn, x, .tuple ys => inD x ys
  | .nin, x, .list ys => (inD x ys).map (!·)
  | .nin, x, .tuple ys => (inD x ys).map (!·)
  | _, _, _ => none
def truD : PyData → Option Bool
  | .none => some false
  | .bool b => some b
  | .int i => some (i != 0)
  | .list xs => some (!xs.isEmpty)
  | .tuple xs => some (!xs.isEmpty)
  | _ => none
def bools : List PyData → Option (List Bool)
  | [] => some []
  | .bool b :: r => (bools r).map (b :: ·)
  | _ :: _ => none
def ixD : PyData → PyData → Option PyData
  | .list xs, .int i => atI xs i
  | .tuple xs, .int i => atI xs i
  | _, _ => none
def cutD (xs : List PyData) (lo hi : Option Int) : List PyData := (xs.drop (HT.sIx xs.length 0 lo)).take (HT.sIx xs.length xs.length hi - HT.sIx xs.length 0 lo)
def slD : PyData → Option Int → Option Int → Option PyData
  | .list xs, lo, hi => some (.list (cutD xs lo hi))
  | .tuple xs, lo, hi => some (.tuple (cutD xs lo hi))
  | _, _, _ => none
/-! what repr may show -/
mutual
def wt : PyData → Nat
  | .none => 4
  | .bool _ => 5
  | .int _ => 2000
  | .str x => 12 * x.length + 2
  | .list xs => 2 + wtA xs
  | .tuple xs => 3 + wtA xs
  | .dict kvs => 2 + wtK kvs
def wtA : List PyData → Nat
  | [] => 0
  | x :: xs => wt x + 2 + wtA xs
def wtK : List (PyData × PyData) → Nat
  | [] => 0
  | (k, v) :: xs => wt k + 2 + wt v + 2 + wtK xs
end
mutual
def noL : PyData → Bool
  | .list _ => false
  | .tuple xs => noLA xs
  | .dict kvs => noLK kvs
  | _ => true
def noLA : List PyData → Bool
  | [] => true
  | x :: xs => noL x && noLA xs
def noLK : List (PyData × PyData) → Bool
  | [] => true
  | (k, v) :: xs => noL k && noL v && noLK xs
end
mutual
def small : PyData → Bool
  | .int i => decide (i.natAbs < 2 ^ 1900)
  | .str x => x.cps.toList.all fun c => decide (c < 16 ^ 8)
  | .list xs => smallA xs
  | .tuple xs => smallA xs
  | .dict kvs => smallK kvs
  | _ => true
def smallA : List PyData → Bool
  | [] => true
  | x :: xs => small x && smallA xs
def smallK : List (PyData × PyData) → Bool
  | [] => true
  | (k, v) :: xs => small k && small v && smallK xs
end
def reprOk (d : PyData) : Bool := small d && decide (wt d ≤ sizeLine) && decide (d.depth ≤ 60) && (!d.hasDict || noL d)
def intsD : List PyData → Option (List Int)
  | [] => some []
  | .int i :: r => (intsD r).map (i :: ·)
  | _ :: _ => none
def insI (x : Int) : List Int → List Int
  | [] => [x]
  | y :: ys => if x ≤ y then x :: y :: ys else y :: insI x ys
def srtI : List Int → List Int
  | [] => []
  | x :: xs => insI x (srtI xs)
def insU (x : Int) : List Int → List Int
  | [] => [x]
  | y :: ys => if x < y then x :: y :: ys else if x = y then y :: ys else y :: insU x ys
def srtU : List Int → List Int
  | [] => []
  | x :: xs => insU x (srtU xs)
def srsL (xs : List PyData) : Option PyData := match intsD xs with
  | some ns => if ns.length < 64 then some (.list ((srtU ns).map .int)) else none
  | none => none
def srsD : PyData → Option PyData
  | .list xs => srsL xs
  | .tuple xs => srsL xs
  | _ => none
def revD : PyData → Option PyData
  | .list xs => some (.list xs.reverse)
  | .tuple xs => some (.tuple xs.reverse)
  | _ => none
def trgD : PyData → Option PyData
  | .int n => if 0 ≤ n ∧ n ≤ 10000 then some (.tuple ((List.range n.toNat).map fun (k : Nat) => .int (k : Int))) else none
  | _ => none
def b1D : B1 → PyData → Option PyData
  | .len, .list xs => some (.int xs.length)
  | .len, .tuple xs => some (.int xs.length)
  | .len, .str x => if x.length ≤ sizeLine then some (.int x.length) else none
  | .abs, .int i => some (.int (if i < 0 then -i else i))
  | .int, .int i => some (.int i)
  | .int, .bool b => some (.int (if b then 1 else 0))
  | .all, .list xs => (bools xs).map fun bs => .bool (bs.all id)
  | .any, .list xs => (bools xs).map fun bs => .bool (bs.any id)
  | .repr, x => if reprOk x then some (.str x.shown) else none
  | .tuple, .list xs => some (.tuple xs)
  | .tuple, .tuple xs => some (.tuple xs)
  | .list, .list xs => some (.list xs)
  | .list, .tuple xs => some (.list xs)
  | .str, .int i => if small (.int i) then some (.str (PyData.int i).shown) else none
  | .srt, .list xs => (intsD xs).map fun ns => .list ((srtI ns).map .int)
  | .isi t, x => some (.bool (isi t x))
  | _, _ => none
def b2D : B2 → PyData → PyData → Option PyData
  | .max, .int i, .int j => some (.int (if j > i then j else i))
  | .min, .int i, .int j => some (.int (if j < i then j else i))
  | .dvm, .int i, .int j => if 0 < j ∧ j.natAbs.log2 < 9000 then some (.tuple [.int (i / j), .int (i % j)]) else none
  | _, _, _ => none
def keyD : PyData → Option Key
  | .int i => some (.inl i)
  | .str x => some (.inr x)
  | _ => none
def keysD : List PyData → Option (List Key)
  | [] => some []
  | x :: xs => match keyD x, keysD xs with
    | some k, some ks => some (k :: ks)
    | _, _ => none

def cntD : PyData → PyData → Option PyData
  | .list xs, x => if flat x && xs.all flat then some (.int (xs.countP fun y => PyData.eqv y x)) else none
  | _, _ => none
def idxD : PyData → PyData → Option PyData
  | .list xs, x => if flat x && xs.all flat then (xs.findIdx? fun y => PyData.eqv y x).map fun j => .int (j : Nat) else none
  | _, _ => none
def globD : PyData → Option PyData
  | .dict _ => none
  | d => some d
def lookD : List (PyData × PyData) → Str → PyData
  | [], _ => .none
  | (.str y, v) :: r, x => if x = y then v else lookD r x
  | _ :: r, x => lookD r x
def pickD (xs : List PyData) : List (Nat ⊕ PyData) → Option (List PyData)
  | [] => some []
  | .inl j :: r => match xs[j]?, pickD xs r with
    | some x, some ys => some (x :: ys)
    | _, _ => none
  | .inr d :: r => (pickD xs r).map (d :: ·)
/-! ### evaluation -/
def bnd {α β : Type} (m : Option (α × En)) (f : α → En → Option (β × En)) : Option (β × En) := match m with
  | none => none
  | some (a, ρ) => f a ρ
def ret {α : Type} (o : Option α) (ρ : En) : Option (α × En) := match o with
  | none => none
  | some a => some (a, ρ)
theorem bnd_some {α β : Type} {a : α} {ρ : En} {f : α → En → Option (β × En)} : bnd (some (a, ρ)) f = f a ρ := rfl
theorem bnd_eq {α β : Type} {m : Option (α × En)} {f : α → En → Option (β × En)} {r : β × En} (h : bnd m f = some r) : ∃ a ρ, m = some (a, ρ) ∧ f a ρ = some r := by
  cases m with
  | none => cases h
  | some p => exact ⟨p.1, p.2, rfl, h⟩
theorem ret_eq {α : Type} {o : Option α} {ρ : En} {r : α × En} (h : ret o ρ = some r) : ∃ a, o = some a ∧ r = (a, ρ) := by
  cases o with
  | none => cases h
  | some a => cases h; exact ⟨a, rfl, rfl⟩
mutual
def bindT : Tg → PyData → En → Option En
  | .name i, x, ρ => if i < ρ.length then some (ρ.set i (some (.d x))) else none
  | .tup ts, .tuple xs, ρ => bindTs ts xs ρ
  | .tup _, _, _ => none
def bindTs : List Tg → List PyData → En → Option En
  | [], [], ρ => some ρ
  | t :: ts, x :: xs, ρ => match bindT t x ρ with
    | none => none
    | some ρ => bindTs ts xs ρ
  | _, _, _ => none
end
def wipeE (ρ : En) : List Nat → En
  | [] => ρ
  | v :: vs => (wipeE ρ vs).set v none
/-- the slots vs as they were in ρ -/
def backE (ρ : En) (ρ' : En) : List Nat → En
  | [] => ρ'
  | v :: vs => (backE ρ ρ' vs).set v ((ρ[v]?).getD none)
def notOwn (ρ : En) (v : Nat) : Bool := match ρ[v]? with
  | some (some (.own _ _)) => false
  | some _ => true
  | none => false
def forI (step : PyData → En → Option (Fl × En)) : List PyData → En → Option (Fl × En)
  | [], ρ => some (.next, ρ)
  | x :: xs, ρ => match step x ρ with
    | none => none
    | some (.next, ρ) => forI step xs ρ
    | some (.cont, ρ) => forI step xs ρ
    | some (.brk, ρ) => some (.next, ρ)
    | some (.ret v, ρ) => some (.ret v, ρ)
def cmpI (step : PyData → En → Option (Option PyData × En)) : List PyData → En → Option (List PyData × En)
  | [], ρ => some ([], ρ)
  | x :: xs, ρ => match step x ρ with
    | none => none
    | some (none, ρ) => cmpI step xs ρ
    | some (some y, ρ) => match cmpI step xs ρ with
      | none => none
      | some (ys, ρ) => some (y :: ys, ρ)
def whI (c : En → Option (Bool × En)) (b : En → Option (Fl × En)) : Nat → En → Option (Fl × En)
  | 0, _ => none
  | n + 1, ρ => match c ρ with
    | none => none
    | some (false, ρ) => some (.next, ρ)
    | some (true, ρ) => match b ρ with
      | none => none
      | some (.next, ρ) => whI c b n ρ
      | some (.cont, ρ) => whI c b n ρ
      | some (.brk, ρ) => some (.next, ρ)
      | some (.ret v, ρ) => some (.ret v, ρ)
def partD : Option PyData → Option (Option Int)
  | none => some none
  | some (.int i) => some (some i)
  | some _ => none
def enumD : Nat → List PyData → List PyData
  | _, [] => []
  | n, x :: xs => .tuple [.int n, x] :: enumD (n + 1) xs
def zipD : List PyData → List PyData → List PyData
  | x :: xs, y :: ys => .tuple [x, y] :: zipD xs ys
  | _, _ => []
def zipK : PyData → PyData → Option (List PyData)
  | .list xs, .list ys => some (zipD xs ys)
  | .tuple xs, .tuple ys => some (zipD xs ys)
  | .list xs, .tuple ys => some (zipD xs ys)
  | .tuple xs, .list ys => some (zipD xs ys)
  | _, _ => none
def seqD : PyData → Option (List PyData)
  | .list xs => some xs
  | .tuple xs => some xs
  | _ => none
def rngD (lo hi : Int) : List PyData := (List.range (hi - lo).toNat).map fun (k : Nat) => .int (lo + (k : Int))
def smallI (i : Int) : Bool := decide (-(2 ^ 62) ≤ i) && decide (i < 2 ^ 62)

mutual
def ev (c : Cfg) : Ep → En → Option (PyData × En)
  | .con d, ρ => some (d, ρ)
  | .var i, ρ => match ρ[i]? with
    | some (some (.d x)) => some (x, ρ)
    | some (some (.own _ xs)) => some (.list xs, ρ.set i (some (.d (.list xs))))
    | _ => none
  | .glob x, ρ => match c.glob x with
    | some d => ret (globD d) ρ
    | none => none
  | .bin op a b, ρ => bnd (ev c a ρ) fun x ρ => bnd (ev c b ρ) fun y ρ => ret (binD op x y) ρ
  | .neg a, ρ => bnd (ev c a ρ) fun x ρ => match x with
    | .int i => some (.int (-i), ρ)
    | _ => none
  | .cmp op a b, ρ => bnd (ev c a ρ) fun x ρ => bnd (ev c b ρ) fun y ρ => bnd (ret (cmpD op x y) ρ) fun r ρ => some (.bool r, ρ)
  | .chain o1 o2 a b d, ρ => bnd (ev c a ρ) fun x ρ => bnd (ev c b ρ) fun y ρ => bnd (ret (cmpD o1 x y) ρ) fun r ρ => match r with
    | false => some (.bool false, ρ)
    | true => bnd (ev c d ρ) fun z ρ => bnd (ret (cmpD o2 y z) ρ) fun r ρ => some (.bool r, ρ)
  | .and a b, ρ => bnd (ev c a ρ) fun x ρ => match x with
    | .bool true => ev c b ρ
    | .bool false => some (.bool false, ρ)
    | _ => none
  | .or a b, ρ => bnd (ev c a ρ) fun x ρ => match x with
    | .bool true => some (.bool true, ρ)
    | .bool false => ev c b ρ
    | _ => none
  | .not a, ρ => bnd (ev c a ρ) fun x ρ => match x with
    | .bool b => some (.bool (!b), ρ)
    | _ => none
  | .ite t a b, ρ => bnd (evT c t ρ) fun r ρ => match r with
    | true => ev c a ρ
    | false => ev c b ρ
  | .tup es, ρ => if es.length ≤ sizeLine then bnd (evs c es ρ) fun xs ρ => some (.tuple xs, ρ) else none
  | .lst es, ρ => if es.length ≤ sizeLine then bnd (evs c es ρ) fun xs ρ => some (.list xs, ρ) else none
  | .repl es n, ρ => if es.length ≤ sizeLine then bnd (evs c es ρ) fun xs ρ => bnd (ev c n ρ) fun y ρ => match y with
      | .int k => if -(2 ^ 63) ≤ k ∧ k < 2 ^ 63 ∧ xs.length * k.toNat ≤ sizeLine then some (.list (List.replicate k.toNat xs).flatten, ρ) else none
      | _ => none
    else none
  | .dct0, ρ => some (.dict [], ρ)
  | .dct1 k v, ρ => bnd (ev c k ρ) fun x ρ => bnd (ev c v ρ) fun y ρ => match keyD x with
    | some _ => some (.dict [(x, y)], ρ)
    | none => none
  | .ix a i, ρ => bnd (ev c a ρ) fun x ρ => bnd (ev c i ρ) fun y ρ => ret (ixD x y) ρ
  | .oix i a, ρ => match ρ[i]? with
    | some (some _) => bnd (ev c a ρ) fun y ρ => match ρ[i]? with
      | some (some (.own _ xs)) => ret (ixD (.list xs) y) ρ
      | some (some (.d x)) => ret (ixD x y) ρ
      | _ => none
    | _ => none
  | .sl a lo hi, ρ => bnd (ev c a ρ) fun x ρ => bnd (evO c lo ρ) fun l ρ => bnd (evO c hi ρ) fun h ρ => match partD l, partD h with
    | some l, some h => ret (slD x l h) ρ
    | _, _ => none
  | .call f es, ρ => bnd (evs c es ρ) fun xs ρ => match c.call f none xs with
    | some (x, none) => some (x, ρ)
    | _ => none
  | .callp f i es, ρ => match ρ[i]? with
    | some (some _) => bnd (evs c es ρ) fun xs ρ => match ρ[i]? with
      | some (some (.own b p)) => match c.call f (some p) xs with
        | some (x, some q) => some (x, ρ.set i (some (.own b q)))
        | _ => none
      | _ => none
    | _ => none
  | .b1 b a, ρ => bnd (ev c a ρ) fun x ρ => ret (b1D b x) ρ
  | .gget x a, ρ => bnd (ev c a ρ) fun y ρ => match c.glob x, y with
    | some (.dict kvs), .str z => some (lookD kvs z, ρ)
    | _, _ => none
  | .cnt a d, ρ => bnd (ev c a ρ) fun x ρ => bnd (ev c d ρ) fun y ρ => ret (cntD x y) ρ
  | .idx a d, ρ => bnd (ev c a ρ) fun x ρ => bnd (ev c d ρ) fun y ρ => ret (idxD x y) ρ
  | .srs a, ρ => bnd (ev c a ρ) fun x ρ => ret (srsD x) ρ
  | .rev a, ρ => bnd (ev c a ρ) fun x ρ => ret (revD x) ρ
  | .trg a, ρ => bnd (ev c a ρ) fun x ρ => ret (trgD x) ρ
  | .oin neg a i, ρ => bnd (ev c a ρ) fun x ρ => match ρ[i]? with
    | some (some (.own _ xs)) => bnd (ret (inD x xs) ρ) fun r ρ => some (.bool (if neg then !r else r), ρ)
    | some (some (.d y)) => bnd (ret (cmpD (if neg then .nin else .inn) x y) ρ) fun r ρ => some (.bool r, ρ)
    | _ => none
  | .olen i, ρ => match ρ[i]? with
    | some (some (.own _ xs)) => some (.int xs.length, ρ)
    | some (some (.d y)) => ret (b1D .len y) ρ
    | _ => none
  | .callk f es ix, ρ => bnd (evs c es ρ) fun xs ρ => match pickD xs ix with
    | some ys => match c.call f none ys with
      | some (x, none) => some (x, ρ)
      | _ => none
    | none => none
  | .bad, _ => none
  | .xcon i d, ρ => match ρ[i]? with
    | some (some .x) => some (d, ρ)
    | _ => none
  | .said _ ws f es, ρ => bnd (evs c es ρ) fun xs ρ => match c.call f none xs with
    | some (x, none) => some (.tuple [.str "told", x], ρ)
    | _ => match c.exc f xs with
      | some e => match ws.lookup e with
        | some w => some (w, ρ)
        | none => none
      | none => none
  | .b2 b a d, ρ => bnd (ev c a ρ) fun x ρ => bnd (ev c d ρ) fun y ρ => ret (b2D b x y) ρ
  | .comp e tg it cond own, ρ => if own.all (notOwn ρ) then bnd (evI c it ρ) fun xs ρ1 => if own.all (notOwn ρ1) ∧ xs.length ≤ 100000 then
      bnd (cmpI (fun x ρ2 => match bindT tg x (wipeE ρ2 own) with
        | none => none
        | some ρ3 => bnd (evTs c cond ρ3) fun r ρ4 => match r with
          | false => some (none, backE ρ1 ρ4 own)
          | true => bnd (ev c e ρ4) fun y ρ5 => some (some y, backE ρ1 ρ5 own)) xs ρ1) fun ys ρ6 => some (.list ys, ρ6)
      else none
    else none
termination_by structural e => e
def evs (c : Cfg) : List Ep → En → Option (List PyData × En)
  | [], ρ => some ([], ρ)
  | e :: es, ρ => bnd (ev c e ρ) fun x ρ => bnd (evs c es ρ) fun xs ρ => some (x :: xs, ρ)
def evO (c : Cfg) : Option Ep → En → Option (Option PyData × En)
  | none, ρ => some (none, ρ)
  | some e, ρ => bnd (ev c e ρ) fun x ρ => some (some x, ρ)
def evT (c : Cfg) : Tp → En → Option (Bool × En)
  | .and a b, ρ => bnd (evT c a ρ) fun r ρ => match r with
    | true => evT c b ρ
    | false => some (false, ρ)
  | .or a b, ρ => bnd (evT c a ρ) fun r ρ => match r with
    | true => some (true, ρ)
    | false => evT c b ρ
  | .not a, ρ => bnd (evT c a ρ) fun r ρ => some (!r, ρ)
  | .leaf e, ρ => bnd (ev c e ρ) fun x ρ => ret (truD x) ρ
def evTs (c : Cfg) : List Tp → En → Option (Bool × En)
  | [], ρ => some (true, ρ)
  | [e], ρ => evT c e ρ
  | _ :: _ :: _, _ => none
def evI (c : Cfg) : It' → En → Option (List PyData × En)
  | .seq e, ρ => bnd (ev c e ρ) fun x ρ => ret (seqD x) ρ
  | .rng1 a, ρ => bnd (ev c a ρ) fun x ρ => match x with
    | .int n => if smallI n then some (rngD 0 n, ρ) else none
    | _ => none
  | .rng2 a b, ρ => bnd (ev c a ρ) fun x ρ => bnd (ev c b ρ) fun y ρ => match x, y with
    | .int i, .int j => if smallI i && smallI j then some (rngD i j, ρ) else none
    | _, _ => none
  | .enum a, ρ => bnd (ev c a ρ) fun x ρ => bnd (ret (seqD x) ρ) fun xs ρ => some (enumD 0 xs, ρ)
  | .zip a b, ρ => bnd (ev c a ρ) fun x ρ => bnd (ev c b ρ) fun y ρ => ret (zipK x y) ρ
end
def setAll : List Nat → List PyData → En → Option En
  | [], [], ρ => some ρ
  | i :: is, x :: xs, ρ => if i < ρ.length then setAll is xs (ρ.set i (some (.d x))) else none
  | _, _, _ => none
def setAllO : List Nat → List Bool → List PyData → En → Option En
  | [], [], [], ρ => some ρ
  | i :: is, true :: os, x :: xs, ρ => match x with
    | .list ys => if i < ρ.length then setAllO is os xs (ρ.set i (some (.own false ys))) else none
    | _ => none
  | i :: is, false :: os, x :: xs, ρ => if i < ρ.length then setAllO is os xs (ρ.set i (some (.d x))) else none
  | _, _, _, _ => none
mutual
def ex (c : Cfg) : Sm → En → Option (Fl × En)
  | .set i e, ρ => bnd (ev c e ρ) fun x ρ => if i < ρ.length then some (.next, ρ.set i (some (.d x))) else none
  | .seto i e, ρ => bnd (ev c e ρ) fun x ρ => match x with
    | .list xs => if i < ρ.length then some (.next, ρ.set i (some (.own false xs))) else none
    | _ => none
  | .unp ts e, ρ => bnd (ev c e ρ) fun x ρ => match bindT (.tup ts) x ρ with
    | none => none
    | some ρ => some (.next, ρ)
  | .par is es, ρ => bnd (evs c es ρ) fun xs ρ => match setAll is xs ρ with
    | none => none
    | some ρ => some (.next, ρ)
  | .paro is os es, ρ => bnd (evs c es ρ) fun xs ρ => match setAllO is os xs ρ with
    | none => none
    | some ρ => some (.next, ρ)
  | .seti i a e, ρ => bnd (ev c e ρ) fun x ρ => match ρ[i]? with
    | some (some _) => bnd (ev c a ρ) fun y ρ => match ρ[i]?, y with
      | some (some (.own b xs)), .int k => match ixN xs.length k with
        | some j => some (.next, ρ.set i (some (.own b (xs.set j x))))
        | none => none
      | _, _ => none
    | _ => none
  | .app i e, ρ => match ρ[i]? with
    | some (some (.own _ _)) => bnd (ev c e ρ) fun x ρ => match ρ[i]? with
      | some (some (.own b xs)) => if xs.length < sizeLine then some (.next, ρ.set i (some (.own b (xs ++ [x])))) else none
      | _ => none
    | _ => none
  | .expr e, ρ => bnd (ev c e ρ) fun _ ρ => some (.next, ρ)
  | .ret e, ρ => bnd (ev c e ρ) fun x ρ => some (.ret x, ρ)
  | .retN, ρ => some (.ret .none, ρ)
  | .ite t a b, ρ => bnd (evT c t ρ) fun r ρ => match r with
    | true => exs c a ρ
    | false => exs c b ρ
  | .for_ tg it body, ρ => bnd (evI c it ρ) fun xs ρ => forI (fun x ρ => match bindT tg x ρ with
      | none => none
      | some ρ => exs c body ρ) xs ρ
  | .wh t body, ρ => whI (evT c t) (exs c body) c.wf ρ
  | .pass, ρ => some (.next, ρ)
  | .brk, ρ => some (.brk, ρ)
  | .cont, ρ => some (.cont, ρ)
  | .fail _, _ => none
def exs (c : Cfg) : List Sm → En → Option (Fl × En)
  | [], ρ => some (.next, ρ)
  | s :: ss, ρ => bnd (ex c s ρ) fun f ρ => match f with
    | .next => exs c ss ρ
    | f => some (f, ρ)
end
mutual
/-- which class a statement raises -/
def exR (c : Cfg) : Sm → En → Option Str
  | .fail x, _ => x
  | .ite t a b, ρ => match evT c t ρ with
    | some (true, ρ) => exRs c a ρ
    | some (false, ρ) => exRs c b ρ
    | none => none
  | .expr e, ρ => exC c e ρ
  | .set _ e, ρ => exC c e ρ
  | .unp _ e, ρ => exC c e ρ
  | .ret e, ρ => exC c e ρ
  | _, _ => none
def exRs (c : Cfg) : List Sm → En → Option Str
  | [], _ => none
  | s :: ss, ρ => match ex c s ρ with
    | some (.next, ρ) => exRs c ss ρ
    | some _ => none
    | none => exR c s ρ
/-- .. a call of a def -/
def exC (c : Cfg) : Ep → En → Option Str
  | .call f (e :: es), ρ => match evs c (e :: es) ρ with
    | some (xs, _) => c.exc f xs
    | none => none
  | _, _ => none
end
/-- a call's shape: how many values stand first, the keywords' names, what each parameter takes -/
structure Kw where
  n : Nat
  ks : List Str
  ix : List (Nat ⊕ PyData)
structure Fn where
  pen : Bool
  fr : Bool
  np : Nat
  ns : Nat
  body : List Sm
  kw : List Kw := []
def startE (f : Fn) (p : Option (List PyData)) (xs : List PyData) : En :=
  (match p with | none => [] | some q => [some (.own true q)]) ++ xs.map (fun x => some (.d x)) ++ List.replicate (f.ns - f.np) none
/-- the borrowed list as it is in the end -/
def penOf (ρ : En) : Option (List PyData) := match ρ[0]? with
  | some (some (Sv.own true q)) => some q
  | _ => none
def endF (f : Fn) (x : PyData) (ρ : En) : Option (PyData × Option (List PyData)) :=
  if f.pen then (penOf ρ).map fun q => (x, some q) else if f.fr then (match x with | .list _ => some (x, none) | _ => none) else some (x, none)
def runF (c : Cfg) (f : Fn) (p : Option (List PyData)) (xs : List PyData) : Option (PyData × Option (List PyData)) :=
  if (p.isSome == f.pen) && !(f.pen && f.fr) && (xs.length + (if f.pen then 1 else 0) == f.np) && decide (f.np ≤ f.ns) then
    match exs c f.body (startE f p xs) with
    | some (Fl.ret x, ρ) => endF f x ρ
    | some (Fl.next, ρ) => endF f .none ρ
    | _ => none
  else none
def runX (c : Cfg) (f : Fn) (xs : List PyData) : Option Str :=
  if !f.pen && (xs.length == f.np) && decide (f.np ≤ f.ns) then exRs c f.body (startE f none xs) else none
def semI (g : Str → Option PyData) (wf : Nat) (tab : List (Str × Fn)) : Nat → (Str → Option (List PyData) → List PyData → Option (PyData × Option (List PyData))) × (Str → List PyData → Option Str)
  | 0 => (fun _ _ _ => none, fun _ _ => none)
  | k + 1 => (fun x p xs => match tab.lookup x with
    | none => none
    | some f => runF ⟨(semI g wf tab k).1, g, wf, (semI g wf tab k).2⟩ f p xs, fun x xs => match tab.lookup x with
    | none => none
    | some f => runX ⟨(semI g wf tab k).1, g, wf, (semI g wf tab k).2⟩ f xs)
def callI (g : Str → Option PyData) (wf : Nat) (tab : List (Str × Fn)) (k : Nat) : Str → Option (List PyData) → List PyData → Option (PyData × Option (List PyData)) := (semI g wf tab k).1
def excI (g : Str → Option PyData) (wf : Nat) (tab : List (Str × Fn)) (k : Nat) : Str → List PyData → Option Str := (semI g wf tab k).2
end Wh

set_option Elab.async false
set_option linter.all false
set_option maxRecDepth 100000
set_option maxHeartbeats 1000000
/-! Wh3: readings of evaluators, operators on values. -/
namespace Wh
open PySem PySem.Spec PyProof.Rows L2 Evl
variable [Tbl]

/-! ### readings of evaluators -/
def tE (K : PySem.W.Frag) (f : En → Option (PyData × En)) : TE := fun σ H Q => ∃ ρ F x ρ', Rep K ρ σ F H ∧ f ρ = some (x, ρ') ∧ ∀ v F' H', Rep K ρ' σ F' H' → StpE ρ σ F H ρ' F' H' → Rp K F' v x → Q v H'
def tEL (K : PySem.W.Frag) (f : En → Option (PyData × En)) : TE := fun σ H Q => ∃ ρ F xs ρ', Rep K ρ σ F H ∧ f ρ = some (.list xs, ρ') ∧
  ∀ p vs F' H', Rep K ρ' σ F' H' → StpE ρ σ F H ρ' F' H' → H p = none → F' p = none → H' p = some (.lst vs) → RpA K F' vs xs → Q (.ref p) H'
def tT (K : PySem.W.Frag) (f : En → Option (Bool × En)) : TT := fun σ H Q => ∃ ρ F x ρ', Rep K ρ σ F H ∧ f ρ = some (x, ρ') ∧ ∀ F' H', Rep K ρ' σ F' H' → StpE ρ σ F H ρ' F' H' → Q x H'
def tA (K : PySem.W.Frag) (f : En → Option (List PyData × En)) : TA := fun σ H Q => ∃ ρ F x ρ', Rep K ρ σ F H ∧ f ρ = some (x, ρ') ∧ ∀ vs F' H', Rep K ρ' σ F' H' → StpE ρ σ F H ρ' F' H' → RpA K F' vs x → Q vs H'
def tO (K : PySem.W.Frag) (f : En → Option (Option PyData × En)) : TO := fun σ H Q => ∃ ρ F x i ρ', Rep K ρ σ F H ∧ f ρ = some (x, ρ') ∧ partD x = some i ∧ ∀ F' H', Rep K ρ' σ F' H' → StpE ρ σ F H ρ' F' H' → Q i H'

section
variable {X : Cx} {e a b : Expr} {t t' : TE} {u u' : TT}
theorem _root_.L2.PE.wk (h : PE X e t) (w : ∀ σ H Q, t' σ H Q → t σ H Q) : PE X e t' := ⟨fun pins s σ H Q I q => h.run pins s σ H Q I (w _ _ _ q)⟩
theorem _root_.L2.PT.wk (h : PT X e u) (w : ∀ σ H Q, u' σ H Q → u σ H Q) : PT X e u' := ⟨fun pins s σ H Q I q => h.run pins s σ H Q I (w _ _ _ q)⟩
theorem _root_.L2.PW.wk (h : PW X e u) (w : ∀ σ H Q, u' σ H Q → u σ H Q) : PW X e u' := ⟨fun wh pins s σ H Q I q => h.run wh pins s σ H Q I (w _ _ _ q)⟩
theorem _root_.L2.PA.wk {es : List Expr} {t t' : TA} (h : PA X es t) (w : ∀ σ H Q, t' σ H Q → t σ H Q) : PA X es t' := ⟨fun pos pins s σ H Q I q => h.run pos pins s σ H Q I (w _ _ _ q)⟩
theorem _root_.L2.PO.wk {es : Option Expr} {t t' : TO} (h : PO X es t) (w : ∀ σ H Q, t' σ H Q → t σ H Q) : PO X es t' := ⟨fun pins s σ H Q I q => h.run pins s σ H Q I (w _ _ _ q)⟩
theorem _root_.L2.PSs.wk {es : List Stmt} {t t' : TS} (h : PSs X es t) (w : ∀ D σ H, t' D σ H → t D σ H) : PSs X es t' := ⟨fun pins s σ H D I q => h.run pins s σ H D I (w _ _ _ q)⟩
theorem _root_.L2.PS.wk {es : Stmt} {t t' : TS} (h : PS X es t) (w : ∀ D σ H, t' D σ H → t D σ H) : PS X es t' := ⟨fun pins s σ H D I q => h.run pins s σ H D I (w _ _ _ q)⟩
theorem _root_.L2.PG.wk {es : Expr} {t t' : TG} (h : PG X es t) (w : ∀ v σ H Q, t' v σ H Q → t v σ H Q) : PG X es t' := ⟨fun pins s σ H v u Q I r q => h.run pins s σ H v u Q I r (w _ _ _ _ q)⟩
theorem _root_.L2.PI.wk {tg es : Expr} {t t' : TI} (h : PI X tg es t) (w : ∀ σ H Q, t' σ H Q → t σ H Q) : PI X tg es t' := ⟨fun pins s σ H R I q => h.run pins s σ H R I (w _ _ _ q)⟩
end

/-! ### operators on values -/
def RB (K : PySem.W.Frag) (r : R2) (f : PyData → PyData → Option PyData) : Prop := ∀ {ρ : En} {σ : L2.St} {F H : Hp} {vx vy : V} {x y z : PyData} {Q : VK}, Rep K ρ σ F H → Rp K F vx x → Rp K F vy y → f x y = some z →
  (∀ v F' H', Rep K ρ σ F' H' → StpE ρ σ F H ρ F' H' → Rp K F' v z → Q v H') → r vx vy H Q
def RU1 (K : PySem.W.Frag) (r : List V → Hp → VK → Prop) (f : PyData → Option PyData) : Prop := ∀ {ρ : En} {σ : L2.St} {F H : Hp} {vx : V} {x z : PyData} {Q : VK}, Rep K ρ σ F H → Rp K F vx x → f x = some z →
  (∀ v F' H', Rep K ρ σ F' H' → StpE ρ σ F H ρ F' H' → Rp K F' v z → Q v H') → r [vx] H Q
def RU2 (K : PySem.W.Frag) (r : List V → Hp → VK → Prop) (f : PyData → PyData → Option PyData) : Prop := ∀ {ρ : En} {σ : L2.St} {F H : Hp} {vx vy : V} {x y z : PyData} {Q : VK}, Rep K ρ σ F H → Rp K F vx x → Rp K F vy y → f x y = some z →
  (∀ v F' H', Rep K ρ σ F' H' → StpE ρ σ F H ρ F' H' → Rp K F' v z → Q v H') → r [vx, vy] H Q
section
variable {K : PySem.W.Frag} {ρ : En} {σ : L2.St} {F H : Hp} {Q : VK}
/-- nothing laid -/
theorem keepQ {v : V} {z : PyData} (rep : Rep K ρ σ F H) (q : ∀ v F' H', Rep K ρ σ F' H' → StpE ρ σ F H ρ F' H' → Rp K F' v z → Q v H') (h : Rp K F v z) : Q v H := q v F H rep StpE.refl h
/-- a tuple, a list laid as data -/
theorem layT {p : Addr} {vs : List V} {zs : List PyData} (rep : Rep K ρ σ F H) (q : ∀ v F' H', Rep K ρ σ F' H' → StpE ρ σ F H ρ F' H' → Rp K F' v (.tuple zs) → Q v H') (hp : H p = none) (h : RpA K F vs zs) : Q (.ref p) (upd H p (.tup vs)) :=
  q _ _ _ (rep.lay hp) (StpE.lay rep hp) (.tup (SqT.of upd_same) (h.mono (Ex.new (fresh_back rep.ex hp))))
theorem layL {p : Addr} {vs : List V} {zs : List PyData} (rep : Rep K ρ σ F H) (q : ∀ v F' H', Rep K ρ σ F' H' → StpE ρ σ F H ρ F' H' → Rp K F' v (.list zs) → Q v H') (hp : H p = none) (h : RpA K F vs zs) : Q (.ref p) (upd H p (.lst vs)) :=
  q _ _ _ (rep.lay hp) (StpE.lay rep hp) (.lst (SqL.of upd_same) (h.mono (Ex.new (fresh_back rep.ex hp))))
theorem Rep.exL (rep : Rep K ρ σ F H) {a : Addr} {xs : List V} (h : SqL K F a xs) : SqL K H a xs := ex_l rep.ex h
theorem Rep.exT (rep : Rep K ρ σ F H) {a : Addr} {xs : List V} (h : SqT K F a xs) : SqT K H a xs := ex_t rep.ex h
end

theorem int_rmul_list (a : Int) (t : Tok) (l : Addr) (items : Array Value) (n : Nat) (dd : Option Addr) (sl : Array (Option Value)) :
    Meets (Builtin.«int.__rmul__» ⟨[.int a t, .ref l], []⟩) (fun _ R s => s.heap.get? l = some { cls := .type "list", dict := dd, data := .seq items n, slots := sl } ∧ R (.ok (.ret Value.notImplemented)) s) :=
  .of_wp fun prog w A R s h => by obtain ⟨hp, g, d, tk, os⟩ := s; obtain ⟨hl, h⟩ := h; wp_walk using wpAny_loadPart' hl; exact ⟨_, rfl, h⟩
theorem list_mulW (l : Addr) (items : Array Value) (n : Nat) (dd : Option Addr) (sl : Array (Option Value)) (x : Int) (u : Tok) (hc0 : ¬(!Builtin.List.listFitsIndex x) = true) (hc1 : ¬items.size * x.toNat > (2 ^ 63 - 1) / 8) (hc2 : ¬Builtin.List.listTooLong (items.size * x.toNat) = true) (hsz : (List.foldl (fun x1 x2 => x1 ++ x2) #[] (List.replicate (if items.isEmpty = true then 0 else x.toNat) items)).size ≤ sizeLine) :
    Meets (Builtin.«list.__mul__» ⟨[.ref l, .int x u], []⟩) (fun _ R s => s.heap.get? l = some { cls := .type "list", dict := dd, data := .seq items n, slots := sl } ∧
      R (.ok (.ret (Value.ref s.heap.objs.size))) { s with heap := s.heap.push { cls := Value.type "list", data := Data.seq (List.foldl (fun x1 x2 => x1 ++ x2) #[] (List.replicate (if items.isEmpty = true then 0 else x.toNat) items)) }, toks := s.toks }) :=
  .of_wp fun prog w A R s h => by
    obtain ⟨hp, g, d, tk, os⟩ := s
    obtain ⟨hl, h⟩ := h
    have f1 := AutoSeq1.idx_int
    wp_walk using wpAny_loadPart' hl
    repeat (first
      | (refine wpAny_ite_false (decide_eq_false hc0) ?_; wp_walk using wpAny_loadPart' hl)
      | (refine wpAny_ite_false (decide_eq_false hc1) ?_; wp_walk using wpAny_loadPart' hl)
      | (refine wpAny_ite_false (decide_eq_false hc2) ?_; wp_walk using wpAny_loadPart' hl)
      | (refine wpAny_ite_false (decide_eq_false (Nat.not_lt.mpr hsz)) ?_; wp_walk using wpAny_loadPart' hl))
    exact ⟨_, rfl, h⟩
section
variable {X : Cx}
def rRepL (K : PySem.W.Frag) : R2 := fun x y H Q => ∃ l k xs, x = .ref l ∧ y = .int k ∧ SqL K H l xs ∧ -(2 ^ 63) ≤ k ∧ k < 2 ^ 63 ∧ xs.length * k.toNat ≤ sizeLine ∧
  ∀ p, H p = none → Q (.ref p) (upd H p (.lst (List.replicate k.toNat xs).flatten))
theorem op_repL : OpR X (binaryOp .Mult) (rRepL X.K) := by
  intro pins s σ H x y v u Q I rx ry h
  obtain ⟨l, k, xs, rfl, rfl, hH, h1, h2, hz, q⟩ := h
  cases rx
  obtain ⟨t, rfl⟩ := ry
  obtain ⟨its, r, ⟨⟨cls, dd, data, sl⟩, n, ho, hc, hd0, hd⟩, z⟩ := I.list hH
  have hl := r.length
  simp only at hc hd
  subst hc hd
  have hlen : its.toArray.size * k.toNat ≤ sizeLine := by rw [List.size_toArray, ← hl]; exact hz
  have hcap : ¬ its.toArray.size * k.toNat > (2 ^ 63 - 1) / 8 := by
    have : (sizeLine : Nat) ≤ (2 ^ 63 - 1) / 8 := by decide
    omega
  have hfit : ¬ (!Builtin.List.listFitsIndex k) = true := by
    rw [fitsIndex_both h1 h2]
    exact Bool.false_ne_true
  have hlong : ¬ Builtin.List.listTooLong (its.toArray.size * k.toNat) = true := by
    rw [notLongL hlen]
    exact Bool.false_ne_true
  have hnew : List.foldl (fun x1 x2 => x1 ++ x2) #[] (List.replicate (if its.toArray.isEmpty = true then 0 else k.toNat) its.toArray) = (List.replicate k.toNat its).flatten.toArray := by
    have f0 : ∀ m : Nat, List.foldl (fun x1 x2 => x1 ++ x2) #[] (List.replicate m its.toArray) = (List.replicate m its).flatten.toArray := fun m => by
      have := foldl_rep its m []
      rw [List.nil_append] at this
      exact this
    rw [f0]
    cases its with
    | nil => simp
    | cons a r' => rw [if_neg (by simp)]
  have hsz : (List.foldl (fun x1 x2 => x1 ++ x2) #[] (List.replicate (if its.toArray.isEmpty = true then 0 else k.toNat) its.toArray)).size ≤ sizeLine := by
    rw [hnew, List.size_toArray, PyProof.Rows.lm_len_rep_flat, Nat.mul_comm]
    rw [List.size_toArray] at hlen
    exact hlen
  refine wpAny_binaryOp_repeat_ref (T := "list") (U := "int") (by decide) ⟨_, ho, rfl⟩ (fun s' => typeIs_int s' k t) noFill_list_mul F.fills_int_mul F.slot_int_rmul repeat_list F.slot_int_index.lookup
    (call_meets F.slot_int_rmul (typeIs_int s k t) F.entry_int_rmul (F.args_int_rmul_2 _ _) (int_rmul_list k t l its.toArray n dd sl)
      ⟨ho, rfl, ⟨_, ho, rfl⟩, call_meets F.slot_list_mul ⟨_, ho, rfl⟩ F.entry_list_mul (F.args_list_mul_2 _ _) (list_mulW l its.toArray n dd sl k t hfit hcap hlong hsz) ⟨ho, ?_⟩⟩)
  rw [hnew]
  exact ⟨.ref _, _, I.lnew (t' := s.toks) (r.rep k.toNat) (by rw [PyProof.Rows.lm_len_rep_flat, Nat.mul_comm]; exact hz), rfl, q _ I.fresh⟩
end
section
variable {X : Cx}
/-! list + list, either one tracked, frozen or written -/
def rCatL (K : PySem.W.Frag) : R2 := fun x y H Q => ∃ l b xs zs, x = .ref l ∧ y = .ref b ∧ SqL K H l xs ∧ SqL K H b zs ∧ xs.length + zs.length ≤ sizeLine ∧ ∀ p, H p = none → Q (.ref p) (upd H p (.lst (xs ++ zs)))
theorem op_catL : OpR X (binaryOp .Add) (rCatL X.K) := by
  intro pins s σ H x y v u Q I rx ry h
  obtain ⟨l, b, xs, zs, rfl, rfl, hH, hB, hz, q⟩ := h
  cases rx
  cases ry
  obtain ⟨its, r, ⟨⟨cls, dd, data, sl⟩, n, ho, hc, hd0, hd⟩, z⟩ := I.list hH
  obtain ⟨its2, r2, ⟨⟨cls2, dd2, data2, sl2⟩, n2, ho2, hc2, hd20, hd2⟩, z2⟩ := I.list hB
  have hl := r.length
  have hl2 := r2.length
  simp only at hc hd hc2 hd2
  subst hc hd hc2 hd2
  refine concat_meets ⟨_, ho, rfl⟩ ⟨_, ho2, rfl⟩ noFill_list_add seq_list_add PySem.F.slot_list_add PySem.F.entry_list_add (PySem.F.args_list_add_2 _ _) (list_addW l b its.toArray its2.toArray n n2 dd dd2 sl sl2 (by rw [List.size_toArray, List.size_toArray]; omega)) ⟨ho, ho2, ?_⟩
  have ea : its.toArray ++ its2.toArray = (its ++ its2).toArray := by simp
  rw [ea]
  exact ⟨.ref _, _, I.lnew (t' := s.toks) (r.append r2) (by rw [List.length_append]; omega), rfl, q _ I.fresh⟩
theorem op_fdivA : OpR X (binaryOp .FloorDiv) (rI (fun _ j => j ≠ 0 ∧ j.natAbs.log2 < 9000) fun i j => .int (i.fdiv j)) := opI fun i j _ _ _ _ _ hc q =>
  floordiv_int hc.1 q (.inl (PyProof.noPylong_of_log2 hc.2))

abbrev rAddA (K : PySem.W.Frag) : R2 := fun x y H Q => rI0 (fun i j => .int (i + j)) x y H Q ∨ ((∃ i j, x = .str i ∧ y = .str j ∧ i.length + j.length ≤ sizeLine ∧ Q (.str (i ++ j)) H) ∨ (rCatA K x y H Q ∨ rCatL K x y H Q))
theorem op_addA : OpR X (binaryOp .Add) (rAddA X.K) := op_add.or (op_add_str.or (op_catA.or op_catL))
theorem rb_add {K : PySem.W.Frag} : RB K (rAddA K) (binD .add) := by
  intro ρ σ F H vx vy x y z Q rep hx hy h q
  cases hx <;> cases hy <;> first | (simp only [binD] at h; done) | skip
  all_goals simp only [binD] at h
  all_goals first | (cases h; done) | skip
  · cases h
    exact .inl ⟨_, _, rfl, rfl, keepQ rep q (.int _)⟩
  · split at h
    · cases h
      exact .inr (.inl ⟨_, _, rfl, rfl, by assumption, keepQ rep q (.str _)⟩)
    · cases h
  · rename_i a xs ds h1 h2 b ys es h3 h4
    split at h
    · rename_i hz
      cases h
      refine .inr (.inr (.inr ⟨a, b, xs, ys, rfl, rfl, rep.exL h1, rep.exL h3, by rw [h2.len, h4.len]; exact hz, fun p hp => layL rep q hp (h2.append h4)⟩))
    · cases h
  · rename_i a xs ds h1 h2 b ys es h3 h4
    split at h
    · rename_i hz
      cases h
      refine .inr (.inr (.inl ⟨a, b, xs, ys, rfl, rfl, rep.exT h1, rep.exT h3, by rw [h2.len, h4.len]; exact hz, fun e => ?_, fun _ e => ?_, fun _ _ p hp => layT rep q hp (h2.append h4)⟩))
      · subst e
        cases h2
        exact keepQ rep q (.tup h3 h4)
      · subst e
        cases h4
        rw [List.append_nil] at q
        exact keepQ rep q (.tup h1 h2)
    · cases h
theorem rb_I {K : PySem.W.Frag} {f : PyData → PyData → Option PyData} {C : Int → Int → Prop} {g : Int → Int → Int} (hf : ∀ x y z, f x y = some z → ∃ i j, x = .int i ∧ y = .int j ∧ C i j ∧ z = .int (g i j)) : RB K (rI C fun i j => .int (g i j)) f := by
  intro ρ σ F H vx vy x y z Q rep hx hy h q
  obtain ⟨i, j, rfl, rfl, hc, rfl⟩ := hf x y z h
  cases hx
  cases hy
  exact ⟨i, j, rfl, rfl, hc, keepQ rep q (.int _)⟩
theorem rb_I0 {K : PySem.W.Frag} {f : PyData → PyData → Option PyData} {g : Int → Int → Int} (hf : ∀ x y z, f x y = some z → ∃ i j, x = .int i ∧ y = .int j ∧ z = .int (g i j)) : RB K (rI0 fun i j => .int (g i j)) f := by
  intro ρ σ F H vx vy x y z Q rep hx hy h q
  obtain ⟨i, j, rfl, rfl, rfl⟩ := hf x y z h
  cases hx
  cases hy
  exact ⟨i, j, rfl, rfl, keepQ rep q (.int _)⟩
theorem rb_sub {K : PySem.W.Frag} : RB K (rI0 fun i j => .int (i - j)) (binD .sub) := rb_I0 fun x y z h => by
  cases x <;> cases y <;> simp only [binD] at h <;> first | (cases h; exact ⟨_, _, rfl, rfl, rfl⟩) | cases h
theorem rb_band {K : PySem.W.Frag} : RB K (rI0 fun i j => .int (Builtin.bitAnd i j)) (binD .band) := rb_I0 fun x y z h => by
  cases x <;> cases y <;> simp only [binD] at h <;> first | (cases h; exact ⟨_, _, rfl, rfl, rfl⟩) | cases h
def rMulA (K : PySem.W.Frag) : R2 := fun x y H Q => rI CMulW (fun i j => .int (i * j)) x y H Q ∨ (rRepT K x y H Q ∨ rRepL K x y H Q)
theorem RpA.rep {K : PySem.W.Frag} {F : Hp} {vs : List V} {ds : List PyData} (h : RpA K F vs ds) : ∀ n : Nat, RpA K F (List.replicate n vs).flatten (List.replicate n ds).flatten
  | 0 => .nil
  | n + 1 => by
    rw [List.replicate_succ, List.replicate_succ, List.flatten_cons, List.flatten_cons]
    exact h.append (RpA.rep h n)
theorem rb_mul {K : PySem.W.Frag} : RB K (rMulA K) (binD .mul) := by
  intro ρ σ F H vx vy x y z Q rep hx hy h q
  cases hx <;> cases hy <;> first | (simp only [binD] at h; done) | skip
  all_goals simp only [binD] at h
  all_goals first | (cases h; done) | skip
  · split at h
    · rename_i hm
      cases h
      rw [mulOk, decide_eq_true_eq] at hm
      exact .inl ⟨_, _, rfl, rfl, hm, keepQ rep q (.int _)⟩
    · cases h
  · rename_i a xs ds h1 h2 k
    split at h
    · rename_i hm
      cases h
      obtain ⟨m1, m2, m3⟩ := hm
      have hl := h2.len
      have hz : xs.length * k.toNat ≤ sizeLine := by
        have : xs.length * k.toNat ≤ 1000 * 1000 := Nat.mul_le_mul (by omega) (by omega)
        have : (1000 * 1000 : Nat) ≤ sizeLine := by decide
        omega
      exact .inr (.inr ⟨a, k, xs, rfl, rfl, rep.exL h1, by omega, by omega, hz, fun p hp => layL rep q hp (h2.rep _)⟩)
    · cases h
  · rename_i a xs ds h1 h2 k
    split at h
    · rename_i hm
      cases h
      obtain ⟨m1, m2, m3, m4⟩ := hm
      have hl := h2.len
      refine .inr <| .inl ⟨a, k, xs, rfl, rfl, rep.exT h1, fun e => ?_, m2, m3, by omega, fun p hp => layT rep q hp (h2.rep _)⟩
      subst e
      cases h2
      cases m1
    · cases h
theorem rb_fdiv {K : PySem.W.Frag} : RB K (rI (fun _ j => j ≠ 0 ∧ j.natAbs.log2 < 9000) fun i j => .int (i.fdiv j)) (binD .fdiv) := rb_I fun x y z h => by
  cases x <;> cases y <;> simp only [binD] at h <;> first | (cases h; done) | skip
  split at h
  · rename_i hm
    cases h
    rw [divOk, Bool.and_eq_true, decide_eq_true_eq, decide_eq_true_eq] at hm
    exact ⟨_, _, rfl, rfl, hm, rfl⟩
  · cases h
theorem rb_mod {K : PySem.W.Frag} : RB K (rI (fun _ j => j ≠ 0) fun i j => .int (i.fmod j)) (binD .mod) := rb_I fun x y z h => by
  cases x <;> cases y <;> simp only [binD] at h <;> first | (cases h; done) | skip
  split at h
  · cases h
  · cases h
    exact ⟨_, _, rfl, rfl, by assumption, rfl⟩
theorem rb_pow {K : PySem.W.Frag} : RB K (rI CPow fun i j => .int (i ^ j.toNat)) (binD .pow) := rb_I fun x y z h => by
  cases x <;> cases y <;> simp only [binD] at h <;> first | (cases h; done) | skip
  split at h
  · cases h
    exact ⟨_, _, rfl, rfl, by assumption, rfl⟩
  · cases h
theorem rb_shl {K : PySem.W.Frag} : RB K (rI CPow fun i j => .int (i * 2 ^ j.toNat)) (binD .shl) := rb_I fun x y z h => by
  cases x <;> cases y <;> simp only [binD] at h <;> first | (cases h; done) | skip
  split at h
  · cases h
    exact ⟨_, _, rfl, rfl, by assumption, rfl⟩
  · cases h
theorem rb_shr {K : PySem.W.Frag} : RB K (rI (fun _ j => 0 ≤ j) fun i j => .int (i / 2 ^ j.toNat)) (binD .shr) := rb_I fun x y z h => by
  cases x <;> cases y <;> simp only [binD] at h <;> first | (cases h; done) | skip
  split at h
  · cases h
    exact ⟨_, _, rfl, rfl, by assumption, rfl⟩
  · cases h
/-- the operator of the text -/
def opOf : Operator → Option BOp
  | .Add => some .add | .Sub => some .sub | .Mult => some .mul | .FloorDiv => some .fdiv | .Mod => some .mod | .Pow => some .pow | .LShift => some .shl | .RShift => some .shr | .BitAnd => some .band
  | _ => none
theorem op_any {o : Operator} {b : BOp} (h : opOf o = some b) : ∃ r, OpR X (binaryOp o) r ∧ RB X.K r (binD b) := by
  cases o <;> cases h
  · exact ⟨_, op_addA, rb_add⟩
  · exact ⟨_, op_sub, rb_sub⟩
  · exact ⟨_, op_mulW.or (op_repT.or op_repL), rb_mul⟩
  · exact ⟨_, op_modN, rb_mod⟩
  · exact ⟨_, op_pow, rb_pow⟩
  · exact ⟨_, op_shl, rb_shl⟩
  · exact ⟨_, op_shr, rb_shr⟩
  · exact ⟨_, op_and, rb_band⟩
  · exact ⟨_, op_fdivA, rb_fdiv⟩
end
end Wh

set_option Elab.async false
set_option linter.all false
set_option maxRecDepth 100000
set_option maxHeartbeats 1000000
/-! Wh4: comparisons, built-ins, repr, on values. -/
namespace Wh
open PySem PySem.Spec PyProof.Rows L2 Evl
variable [Tbl]

section
variable {K : PySem.W.Frag} {F : Hp}
mutual
theorem Rp.dp : ∀ {v : V} {d : PyData}, Rp K F v d → d.hasDict = false → Dp K F v d
  | _, _, .non, _ => .non
  | _, _, .bl b, _ => .bl b
  | _, _, .int i, _ => .int i
  | _, _, .str x, _ => .str x
  | _, _, .lst h a, e => .lst h (RpA.dp a (by simpa only [PyData.hasDict] using e))
  | _, _, .tup h a, e => .tup h (RpA.dp a (by simpa only [PyData.hasDict] using e))
  | _, _, .dct _ _, e => by simp only [PyData.hasDict] at e; cases e
theorem RpA.dp : ∀ {vs : List V} {ds : List PyData}, RpA K F vs ds → PyData.hasDictAll ds = false → DpAll K F vs ds
  | _, _, .nil, _ => .nil
  | _, _, .cons h t, e => by
    simp only [PyData.hasDictAll, Bool.or_eq_false_iff] at e
    exact .cons (Rp.dp h e.1) (RpA.dp t e.2)
end
theorem shaped_noDict {d : PyData} (h : SeqAt.shaped d = true) : d.hasDict = false := PyData.hasDict_of_canLay d (SeqAt.canLay_of_shaped h)
theorem Rp.flatV {v : V} {d : PyData} (h : Rp K F v d) (e : flat d = true) : L2.flatV v = true := by
  cases h <;> first | rfl | cases e
theorem Rp.eqV {v w : V} {d e : PyData} (h : Rp K F v d) (h' : Rp K F w e) (f : flat d = true) (f' : flat e = true) : L2.eqV v w = PyData.eqv d e := by
  cases h <;> first | (cases f; done) | skip
  all_goals (cases h' <;> first | (cases f'; done) | (simp only [L2.eqV, PyData.eqv]))
theorem RpA.flatA : ∀ {vs : List V} {ds : List PyData}, RpA K F vs ds → ds.all flat = true → vs.all L2.flatV = true
  | _, _, .nil, _ => rfl
  | _, _, .cons h t, e => by
    simp only [List.all_cons, Bool.and_eq_true] at e ⊢
    exact ⟨h.flatV e.1, RpA.flatA t e.2⟩
theorem RpA.inV {x : V} {d : PyData} (hx : Rp K F x d) (fx : flat d = true) : ∀ {vs : List V} {ds : List PyData}, RpA K F vs ds → ds.all flat = true → L2.inV x vs = ds.any fun y => PyData.eqv y d
  | _, _, .nil, _ => rfl
  | _, _, .cons h t, e => by
    simp only [List.all_cons, Bool.and_eq_true] at e
    have ih := RpA.inV hx fx t e.2
    show (L2.eqV _ x || L2.inV x _) = _
    rw [ih, h.eqV hx e.1 fx]
    rfl
end

/-! ### comparisons -/
def cmpOf : CmpOp → Option COp
  | .Eq => some .eq | .NotEq => some .ne | .Lt => some .lt | .LtE => some .le | .Gt => some .gt | .GtE => some .ge | .Is => some .isN | .IsNot => some .notN | .In => some .inn | .NotIn => some .nin
def RBc (K : PySem.W.Frag) (r : R2) (f : PyData → PyData → Option Bool) : Prop := ∀ {ρ : En} {σ : L2.St} {F H : Hp} {vx vy : V} {x y : PyData} {z : Bool} {Q : VK}, Rep K ρ σ F H → Rp K F vx x → Rp K F vy y → f x y = some z → Q (.bl z) H → r vx vy H Q
section
variable {X : Cx}
theorem rbc_I {K : PySem.W.Frag} {f : PyData → PyData → Option Bool} {g : Int → Int → Bool} (hf : ∀ x y z, f x y = some z → ∃ i j, x = .int i ∧ y = .int j ∧ z = g i j) : RBc K (rI0 fun i j => .bl (g i j)) f := by
  intro ρ σ F H vx vy x y z Q rep hx hy h q
  obtain ⟨i, j, rfl, rfl, rfl⟩ := hf x y z h
  cases hx
  cases hy
  exact ⟨i, j, rfl, rfl, q⟩
theorem rbc_in {K : PySem.W.Frag} {neg : Bool} {op : COp} (hop : op = if neg then .nin else .inn) : RBc K (rIn K neg) (cmpD op) := by
  intro ρ σ F H vx vy x y z Q rep hx hy h q
  have key : ∀ ys, inD x ys = some (if neg then !z else z) → flat x = true ∧ ys.all flat = true ∧ (ys.any fun y => PyData.eqv y x) = (if neg then !z else z) := fun ys h => by
    unfold inD at h
    split at h
    · rename_i hc
      rw [Bool.and_eq_true] at hc
      exact ⟨hc.1, hc.2, Option.some.inj h⟩
    · cases h
  have fin : ∀ (a : Addr) (xs : List V) (ys : List PyData), (SqL K F a xs ∨ SqT K F a xs) → RpA K F xs ys → vy = .ref a → inD x ys = some (if neg then !z else z) → rIn K neg vx vy H Q := fun a xs ys hs ha e hi => by
    obtain ⟨f1, f2, f3⟩ := key ys hi
    refine ⟨a, xs, e, hs.elim (fun z => .inl (rep.exL z)) fun z => .inr (rep.exT z), hx.flatV f1, ha.flatA f2, ?_⟩
    rw [RpA.inV hx f1 ha f2, f3]
    cases neg <;> simpa using q
  subst hop
  cases hy with
  | lst h1 h2 =>
    refine fin _ _ _ (.inl h1) h2 rfl ?_
    cases neg
    · exact h
    · simp only [cmpD, if_true] at h
      obtain ⟨b, h3, h4⟩ := Option.map_eq_some_iff.mp h
      rw [h3, ← h4]; simp
  | tup h1 h2 =>
    refine fin _ _ _ (.inr h1) h2 rfl ?_
    cases neg
    · exact h
    · simp only [cmpD, if_true] at h
      obtain ⟨b, h3, h4⟩ := Option.map_eq_some_iff.mp h
      rw [h3, ← h4]; simp
  | _ => cases neg <;> (simp only [cmpD] at h; first | cases h | (split at h <;> cases h))
/-- a tuple, whatever it holds, against the empty one -/
def rEmp (K : PySem.W.Frag) (f : Bool → Bool) : R2 := fun x y H Q => ∃ a b xs, x = .ref a ∧ y = .ref b ∧ SqT K H a xs ∧ SqT K H b [] ∧ Q (.bl (f xs.isEmpty)) H
theorem emp_rd {ρ : En} {σ : L2.St} {F H : Hp} {vx vy : V} {xs : List PyData} {f : Bool → Bool} {Q : VK} {K : PySem.W.Frag} (rep : Rep K ρ σ F H) (hx : Rp K F vx (.tuple xs)) (hy : Rp K F vy (.tuple [])) (q : Q (.bl (f xs.isEmpty)) H) : rEmp K f vx vy H Q := by
  cases hx with
  | tup h1 h2 =>
    cases hy with
    | tup h3 h4 =>
      cases h4
      refine ⟨_, _, _, rfl, rfl, rep.exT h1, rep.exT h3, ?_⟩
      have hl := h2.len
      cases xs with
      | nil => cases h2; exact q
      | cons _ _ => cases h2; exact q
theorem op_eqE (hu : X.A.units < cLine) : OpR X (compareOp .Eq) (rEmp X.K fun b => b) := by
  intro pins s σ H x y v u Q I rx ry h
  obtain ⟨a, b, xs, rfl, rfl, h1, h2, q⟩ := h
  cases rx
  cases ry
  obtain ⟨its, r1, p1, _⟩ := I.tuple h1
  obtain ⟨its2, r2, p2, _⟩ := I.tuple h2
  cases r2
  refine SeqAt.eq_tupleAt (e := fun _ => true) p1 p2 hu (fun j _ hj => absurd hj (by simp)) ⟨.bl xs.isEmpty, H, I, ?_, q⟩
  show Value.bool _ = Value.bool _
  cases r1 <;> simp
theorem op_neE (hu : X.A.units < cLine) : OpR X (compareOp .NotEq) (rEmp X.K fun b => !b) := by
  intro pins s σ H x y v u Q I rx ry h
  obtain ⟨a, b, xs, rfl, rfl, h1, h2, q⟩ := h
  cases rx
  cases ry
  obtain ⟨its, r1, p1, _⟩ := I.tuple h1
  obtain ⟨its2, r2, p2, _⟩ := I.tuple h2
  cases r2
  refine SeqAt.RcNeAt.tuples (e := fun _ => true) p1 p2 hu (fun j _ hj => absurd hj (by simp)) X.prog X.w X.xe _ ⟨.bl (!xs.isEmpty), H, I, ?_, q⟩
  show Value.bool _ = Value.bool _
  cases r1 <;> simp
theorem cmp_any {o : CmpOp} {c : COp} (hu : X.A.units + 64 < cLine) (h : cmpOf o = some c) : ∃ r, OpR X (compareOp o) r ∧ RBc X.K r (cmpD c) := by
  cases o <;> cases h
  · refine ⟨_, op_eq.or ((op_eqE (by omega)).or (op_eqD hu)), fun {ρ σ F H vx vy x y z Q} rep hx hy h q => ?_⟩
    simp only [cmpD] at h
    rcases eqD_or h with ⟨a, b, rfl, rfl, rfl⟩ | ⟨xs, rfl, rfl, rfl⟩ | ⟨h1, h2, rfl⟩
    · cases hx
      cases hy
      exact .inl ⟨rfl, by rw [dec_str]; exact q⟩
    · exact .inr (.inl (emp_rd rep hx hy q))
    · exact .inr <| .inr ⟨x, y, (hx.mono rep.ex).dp (shaped_noDict h1), (hy.mono rep.ex).dp (shaped_noDict h2), h1, h2, q⟩
  · refine ⟨_, op_ne.or ((op_neE (by omega)).or (op_neD hu)), fun {ρ σ F H vx vy x y z Q} rep hx hy h q => ?_⟩
    simp only [cmpD] at h
    obtain ⟨z', h', rfl⟩ := Option.map_eq_some_iff.mp h
    rcases eqD_or h' with ⟨a, b, rfl, rfl, rfl⟩ | ⟨xs, rfl, rfl, rfl⟩ | ⟨h1, h2, rfl⟩
    · cases hx
      cases hy
      exact .inl ⟨rfl, by rw [dec_str]; exact q⟩
    · exact .inr (.inl (emp_rd rep hx hy q))
    · exact .inr <| .inr ⟨x, y, (hx.mono rep.ex).dp (shaped_noDict h1), (hy.mono rep.ex).dp (shaped_noDict h2), h1, h2, q⟩
  · exact ⟨_, op_lt, rbc_I fun x y z h => by cases x <;> cases y <;> simp only [cmpD] at h <;> first | (cases h; exact ⟨_, _, rfl, rfl, rfl⟩) | cases h⟩
  · exact ⟨_, op_le, rbc_I fun x y z h => by cases x <;> cases y <;> simp only [cmpD] at h <;> first | (cases h; exact ⟨_, _, rfl, rfl, rfl⟩) | cases h⟩
  · exact ⟨_, op_gt, rbc_I fun x y z h => by cases x <;> cases y <;> simp only [cmpD] at h <;> first | (cases h; exact ⟨_, _, rfl, rfl, rfl⟩) | cases h⟩
  · exact ⟨_, op_ge, rbc_I fun x y z h => by cases x <;> cases y <;> simp only [cmpD] at h <;> first | (cases h; exact ⟨_, _, rfl, rfl, rfl⟩) | cases h⟩
  · refine ⟨_, op_isN.or op_isBl, fun {ρ σ F H vx vy x y z Q} rep hx hy h q => ?_⟩
    cases hy
    case non =>
      refine .inl ⟨rfl, ?_⟩
      cases hx <;> (simp only [cmpD] at h; cases h; simpa using q)
    case bl b =>
      cases hx <;> simp only [cmpD] at h <;> first | (cases h; done) | skip
      cases h
      exact .inr ⟨_, _, rfl, rfl, q⟩
    all_goals (cases hx <;> simp only [cmpD] at h <;> cases h)
  · refine ⟨_, op_notN.or op_notBl, fun {ρ σ F H vx vy x y z Q} rep hx hy h q => ?_⟩
    cases hy
    case non =>
      refine .inl ⟨rfl, ?_⟩
      cases hx <;> (simp only [cmpD] at h; cases h; simpa using q)
    case bl b =>
      cases hx <;> simp only [cmpD] at h <;> first | (cases h; done) | skip
      cases h
      exact .inr ⟨_, _, rfl, rfl, q⟩
    all_goals (cases hx <;> simp only [cmpD] at h <;> cases h)
  · exact ⟨_, op_in_seq, rbc_in (neg := false) rfl⟩
  · exact ⟨_, op_notIn_seq, rbc_in (neg := true) rfl⟩
end

/-! ### reading data off the heap -/
section
variable {X : Cx} {pins : List (Addr × Obj)} {σ : L2.St} {H : Hp} {s : Shared}
theorem keys_read {h : Heap} : ∀ {es : List DictEntry} {vs : List (Key × Value)}, Pairs (mixKind X.prog X.w) es vs → ReadsAll h (es.map (·.key)) (vs.map fun p => kD p.1) []
  | _, _, .nil => .nil
  | _, _, .cons (e := e) (kv := kv) h1 _ t => by
    have ih := keys_read (h := h) t
    have r : Reads h e.key (kD kv.1) [] := by
      rcases keyIs_shape (k := kv.1) (v := e.key) h1 with ⟨i, tk, e1, e2⟩ | ⟨x, tk, e1, e2⟩
      · rw [e1, e2]; exact .int i tk
      · rw [e1, e2]; exact .str x tk
    exact ReadsAll.cons r ih
theorem pairs_vals {knd : PySem.KeyKind X.prog X.w Key} : ∀ {es : List DictEntry} {vs : List (Key × Value)}, Pairs knd es vs → es.map (·.val) = vs.map (·.2)
  | _, _, .nil => rfl
  | _, _, .cons _ h2 t => by
    simp only [List.map_cons]
    rw [pairs_vals t, h2]
mutual
theorem Rp.reads (I : Inv X pins σ H s) : ∀ (d : PyData) (v : V) (u : Value), Rp X.K H v d → RelV v u → ∃ as, Reads s.heap u d as ∧ (noL d = true → sysModules ∉ as)
  | .none, _, _, h, r => by
    cases h
    cases r
    exact ⟨_, Reads.none, fun _ => by simp⟩
  | .bool b, _, _, h, r => by
    cases h
    cases r
    exact ⟨_, Reads.bool b, fun _ => by simp⟩
  | .int i, _, _, h, r => by
    cases h
    obtain ⟨t, rfl⟩ := r
    exact ⟨_, Reads.int i t, fun _ => by simp⟩
  | .str x, _, _, h, r => by
    cases h
    obtain ⟨t, rfl⟩ := r
    exact ⟨_, Reads.str x t, fun _ => by simp⟩
  | .list ds, _, _, h, r => by
    cases h with
    | lst hs ha =>
      cases r
      obtain ⟨its, rv, ⟨o, n, ho, hc, _, hd⟩, _⟩ := I.list hs
      obtain ⟨as, hr, _⟩ := Rp.readsAll I ds _ its ha rv
      exact ⟨_, Reads.list ho hc hd hr, fun z => by simp [noL] at z⟩
  | .tuple ds, _, _, h, r => by
    cases h with
    | tup hs ha =>
      cases r
      obtain ⟨its, rv, ⟨o, ho, hc, n, hd⟩, _⟩ := I.tuple hs
      obtain ⟨as, hr, hn⟩ := Rp.readsAll I ds _ its ha rv
      exact ⟨_, Reads.tuple ho hc hd hr, fun z => hn (by simpa [noL] using z)⟩
  | .dict kds, _, _, h, r => by
    cases h with
    | dct hs ha =>
      rename_i a kvs
      cases r
      obtain ⟨_, hsys, vs, kv, o, es, ep, ho, hx, hd, _, hp, _⟩ := I.hok a _ hs
      obtain ⟨as, h1, h2, h3⟩ := Rp.readsKv I kds kvs vs ha kv
      have hk := keys_read (h := s.heap) hp
      rw [h3] at hk
      have hv := pairs_vals hp
      refine ⟨_, Reads.dict ho hx.1 hd hk (by rw [hv]; exact h1), fun z => ?_⟩
      have h2' := h2 (by simpa [noL] using z)
      simp only [List.append_nil, List.cons_append, List.nil_append, List.mem_cons, not_or]
      exact ⟨fun e => by rw [← e] at hsys; simp at hsys, h2'⟩
theorem Rp.readsAll (I : Inv X pins σ H s) : ∀ (ds : List PyData) (vs : List V) (us : List Value), RpA X.K H vs ds → Vals vs us → ∃ as, ReadsAll s.heap us ds as ∧ (noLA ds = true → sysModules ∉ as)
  | [], _, _, h, r => by
    cases h
    cases r
    exact ⟨_, ReadsAll.nil, fun _ => by simp⟩
  | d :: ds, _, _, h, r => by
    cases h with
    | cons h1 h2 =>
      cases r with
      | cons r1 r2 =>
        obtain ⟨as, q1, n1⟩ := Rp.reads I d _ _ h1 r1
        obtain ⟨bs, q2, n2⟩ := Rp.readsAll I ds _ _ h2 r2
        refine ⟨_, ReadsAll.cons q1 q2, fun z => ?_⟩
        simp only [noLA, Bool.and_eq_true] at z
        simp only [List.mem_append, not_or]
        exact ⟨n1 z.1, n2 z.2⟩
theorem Rp.readsKv (I : Inv X pins σ H s) : ∀ (kds : List (PyData × PyData)) (kvs : List (Key × V)) (vs : List (Key × Value)), RpK X.K H kvs kds → KV kvs vs →
    ∃ as, ReadsAll s.heap (vs.map (·.2)) (kds.map (·.2)) as ∧ (noLK kds = true → sysModules ∉ as) ∧ (vs.map fun p => kD p.1) = kds.map (·.1)
  | [], _, _, h, r => by
    cases h
    cases r
    exact ⟨_, ReadsAll.nil, fun _ => by simp, rfl⟩
  | (k, d) :: ds, _, _, h, r => by
    cases h with
    | cons h1 h2 =>
      cases r with
      | cons r1 r2 =>
        obtain ⟨e1, r1⟩ := r1
        obtain ⟨as, q1, n1⟩ := Rp.reads I d _ _ h1 r1
        obtain ⟨bs, q2, n2, e2⟩ := Rp.readsKv I ds _ _ h2 r2
        refine ⟨_, ReadsAll.cons q1 q2, fun z => ?_, ?_⟩
        · simp only [noLK, Bool.and_eq_true] at z
          simp only [List.mem_append, not_or]
          exact ⟨n1 z.1.2, n2 z.2⟩
        · simp only [List.map_cons]
          rw [e2, ← e1]
end
end
end Wh

set_option Elab.async false
set_option linter.all false
set_option maxRecDepth 100000
set_option maxHeartbeats 1000000
set_option exponentiation.threshold 5000
/-! Wh5: repr, built-ins, indices, slices, on values. -/
namespace Wh
open PySem PySem.Spec PyProof.Rows L2 Evl

/-! ### how long a shown thing is -/
theorem Str.len_app (a b : Str) : (a ++ b).length = a.length + b.length := Str.length_append a b
def lens : List Str → Nat
  | [] => 0
  | t :: ts => t.length + 2 + lens ts
theorem join_le : ∀ ts : List Str, (Str.join ", " ts).length ≤ lens ts
  | [] => Nat.zero_le _
  | [t] => by show t.length ≤ t.length + 2 + 0; omega
  | t :: u :: ts => by
    have ih := join_le (u :: ts)
    show (t ++ (", " : Str) ++ Str.join ", " (u :: ts)).length ≤ t.length + 2 + lens (u :: ts)
    rw [Str.len_app, Str.len_app]
    have : ((", " : Str)).length = 2 := rfl
    omega
theorem log_of {i : Int} (h : i.natAbs < 2 ^ 1900) : i.natAbs.log2 < 1920 := by
  by_cases h0 : i.natAbs = 0
  · rw [h0]; decide +kernel
  · have h2 := (Nat.log2_lt h0).mpr h
    omega
mutual
theorem shown_le : ∀ d : PyData, small d = true → d.shown.length ≤ wt d
  | .none, _ => by rw [PyData.shown_none]; decide +kernel
  | .bool b, _ => by rw [PyData.shown_bool]; cases b <;> decide +kernel
  | .int i, h => by
    rw [PyData.shown_int]
    have h' : i.natAbs < 2 ^ 1900 := by simpa [small] using h
    have h2 := int_text_len_1921 (log_of h')
    show _ ≤ 2000
    omega
  | .str x, h => by
    rw [PyData.shown_str]
    have h' : ∀ c ∈ x.cps.toList, c < 16 ^ 8 := by
      intro c hc
      have := List.all_eq_true.mp (by simpa only [small] using h) c hc
      exact of_decide_eq_true this
    have h2 := PySem.StrLaws.reprText_len x h'
    show _ ≤ 12 * x.length + 2
    omega
  | .list xs, h => by
    have ih := shownAll_le xs (by simpa [small] using h)
    rw [PyData.shown_list, Str.len_app, Str.len_app]
    have e1 : (("[" : Str)).length = 1 := rfl
    have e2 : (("]" : Str)).length = 1 := rfl
    have := join_le (PyData.shownAll xs)
    show _ ≤ 2 + wtA xs
    omega
  | .tuple xs, h => by
    have ih := shownAll_le xs (by simpa [small] using h)
    rw [PyData.shown_tuple, Str.len_app, Str.len_app]
    have e1 : (("(" : Str)).length = 1 := rfl
    have e2 : (Str.ofString (if (xs.length == 1) = true then ",)" else ")")).length ≤ 2 := by split <;> decide +kernel
    have := join_le (PyData.shownAll xs)
    show _ ≤ 3 + wtA xs
    omega
  | .dict kvs, h => by
    have ih := shownKv_le kvs (by simpa [small] using h)
    rw [PyData.shown_dict, Str.len_app, Str.len_app]
    have e1 : (("{" : Str)).length = 1 := rfl
    have e2 : (("}" : Str)).length = 1 := rfl
    have := join_le (PyData.shownKv kvs)
    show _ ≤ 2 + wtK kvs
    omega
theorem shownAll_le : ∀ xs : List PyData, smallA xs = true → lens (PyData.shownAll xs) ≤ wtA xs
  | [], _ => by rw [PyData.shownAll_nil]; exact Nat.zero_le _
  | x :: xs, h => by
    simp only [smallA, Bool.and_eq_true] at h
    rw [PyData.shownAll_cons]
    have h1 := shown_le x h.1
    have h2 := shownAll_le xs h.2
    show x.shown.length + 2 + lens (PyData.shownAll xs) ≤ wt x + 2 + wtA xs
    omega
theorem shownKv_le : ∀ xs : List (PyData × PyData), smallK xs = true → lens (PyData.shownKv xs) ≤ wtK xs
  | [], _ => by rw [PyData.shownKv_nil]; exact Nat.zero_le _
  | (k, v) :: xs, h => by
    simp only [smallK, Bool.and_eq_true] at h
    rw [PyData.shownKv_cons]
    have h1 := shown_le k h.1.1
    have h3 := shown_le v h.1.2
    have h2 := shownKv_le xs h.2
    show (k.shown ++ ": " ++ v.shown).length + 2 + lens (PyData.shownKv xs) ≤ wt k + 2 + wt v + 2 + wtK xs
    rw [Str.len_app, Str.len_app]
    have : ((": " : Str)).length = 2 := rfl
    omega
end
mutual
theorem showable_of : ∀ d : PyData, small d = true → d.showable = true
  | .none, _ => by simp only [PyData.showable]
  | .bool _, _ => by simp only [PyData.showable]
  | .str _, _ => by simp only [PyData.showable]
  | .int i, h => by
    simp only [PyData.showable]
    exact decide_eq_true (log_of (by simpa [small] using h))
  | .list xs, h => by simp only [PyData.showable]; exact showableA_of xs (by simpa [small] using h)
  | .tuple xs, h => by simp only [PyData.showable]; exact showableA_of xs (by simpa [small] using h)
  | .dict kvs, h => by simp only [PyData.showable]; exact showableK_of kvs (by simpa [small] using h)
theorem showableA_of : ∀ d : List PyData, smallA d = true → PyData.showableAll d = true
  | [], _ => by simp only [PyData.showableAll]
  | x :: xs, h => by
    simp only [smallA, Bool.and_eq_true] at h
    simp only [PyData.showableAll, Bool.and_eq_true]
    exact ⟨showable_of x h.1, showableA_of xs h.2⟩
theorem showableK_of : ∀ d : List (PyData × PyData), smallK d = true → PyData.showableKv d = true
  | [], _ => by simp only [PyData.showableKv]
  | (k, v) :: xs, h => by
    simp only [smallK, Bool.and_eq_true] at h
    simp only [PyData.showableKv, Bool.and_eq_true]
    exact ⟨⟨showable_of k h.1.1, showable_of v h.1.2⟩, showableK_of xs h.2⟩
end

section
variable {X : Cx}
/-! ### repr -/
def rRepr (K : PySem.W.Frag) : List V → Hp → VK → Prop := fun xs H Q => ∃ v d, xs = [v] ∧ Rp K H v d ∧ reprOk d = true ∧ Q (.str d.shown) H
theorem call_repr [Tbl] (hg : X.A.guards = some []) (hu : X.A.units + 64 < cLine) : CallR X (.builtin "repr") (rRepr X.K) := by
  intro pins s σ H xs us Q I r h
  obtain ⟨v, d, rfl, hd, hok, q⟩ := h
  obtain ⟨u, rfl, ru⟩ := vals1 r
  unfold reprOk at hok
  simp only [Bool.and_eq_true, decide_eq_true_eq] at hok
  obtain ⟨⟨⟨h1, h2⟩, h3⟩, h4⟩ := hok
  have hsz : d.shown.length ≤ sizeLine := Nat.le_trans (shown_le d h1) h2
  have hs := showable_of d h1
  cases hd with
  | non => cases ru; exact PySem.P.repr_of_none ⟨.str _, H, I.tok _, ⟨_, rfl⟩, q⟩
  | bl b => cases ru; rw [PyData.shown_bool] at q; exact PySem.P.repr_of_bool ⟨.str _, H, I.tok _, ⟨_, rfl⟩, q⟩
  | int i => obtain ⟨t, rfl⟩ := ru; rw [PyData.shown_int] at q; exact PySem.P.repr_of_int (log_of (by simpa [small] using h1)) ⟨.str _, H, I.tok _, ⟨_, rfl⟩, q⟩
  | str x => obtain ⟨t, rfl⟩ := ru; rw [PyData.shown_str] at q hsz; exact PySem.P.repr_of_str ⟨.str _, H, I.tok _, ⟨_, rfl⟩, q⟩ hsz
  | lst a b =>
    obtain ⟨as, rd, hn⟩ := Rp.reads I _ _ _ (.lst a b) ru
    cases ru
    refine repr_of_reads' rd hs (fun z => hn ?_) hg (by omega) (fun _ _ e => e) (fun h' u tk hk => ⟨.str _, H, I.kept hk, ⟨_, rfl⟩, q⟩) hsz
    rw [z] at h4; simpa using h4
  | tup a b =>
    obtain ⟨as, rd, hn⟩ := Rp.reads I _ _ _ (.tup a b) ru
    cases ru
    refine repr_of_reads' rd hs (fun z => hn ?_) hg (by omega) (fun _ _ e => e) (fun h' u tk hk => ⟨.str _, H, I.kept hk, ⟨_, rfl⟩, q⟩) hsz
    rw [z] at h4; simpa using h4
  | dct a b =>
    obtain ⟨as, rd, hn⟩ := Rp.reads I _ _ _ (.dct a b) ru
    cases ru
    refine repr_of_reads' rd hs (fun z => hn ?_) hg (by omega) (fun _ _ e => e) (fun h' u tk hk => ⟨.str _, H, I.kept hk, ⟨_, rfl⟩, q⟩) hsz
    rw [z] at h4; simpa using h4

/-! ### built-ins of one argument -/
theorem bools_eq : ∀ {xs : List PyData} {bs : List Bool}, bools xs = some bs → xs = bs.map .bool
  | [], _, h => by cases h; rfl
  | x :: xs, bs, h => by
    cases x <;> simp only [bools] at h <;> first | (cases h; done) | skip
    obtain ⟨cs, h1, h2⟩ := Option.map_eq_some_iff.mp h
    subst h2
    rw [bools_eq h1]; rfl
theorem ints_eq : ∀ {xs : List PyData} {ns : List Int}, intsD xs = some ns → xs = ns.map .int
  | [], _, h => by cases h; rfl
  | x :: xs, bs, h => by
    cases x <;> simp only [intsD] at h <;> first | (cases h; done) | skip
    obtain ⟨cs, h1, h2⟩ := Option.map_eq_some_iff.mp h
    subst h2
    rw [ints_eq h1]; rfl
theorem intsD_map (ns : List Int) : intsD (ns.map .int) = some ns := by
  induction ns with
  | nil => rfl
  | cons n ns ih => simp only [List.map_cons, intsD, ih]; rfl
theorem insI_perm (x : Int) : ∀ l : List Int, (insI x l).Perm (x :: l)
  | [] => List.Perm.refl _
  | y :: ys => by
    unfold insI
    split
    · exact List.Perm.refl _
    · exact ((insI_perm x ys).cons y).trans (List.Perm.swap ..)
theorem srtI_perm : ∀ l : List Int, (srtI l).Perm l
  | [] => List.Perm.refl _
  | x :: xs => (insI_perm x _).trans ((srtI_perm xs).cons x)
theorem insI_srt (x : Int) : ∀ l : List Int, l.Pairwise (· ≤ ·) → (insI x l).Pairwise (· ≤ ·)
  | [], _ => by simp [insI]
  | y :: ys, h => by
    unfold insI
    obtain ⟨h1, h2⟩ := List.pairwise_cons.mp h
    split
    · rename_i hle
      refine List.pairwise_cons.mpr ⟨fun z hz => ?_, h⟩
      rcases List.mem_cons.mp hz with rfl | hz
      · exact hle
      · have := h1 z hz; omega
    · refine List.pairwise_cons.mpr ⟨fun z hz => ?_, insI_srt x ys h2⟩
      rcases List.mem_cons.mp ((insI_perm x ys).mem_iff.mp hz) with rfl | hz
      · omega
      · exact h1 z hz
theorem srtI_srt : ∀ l : List Int, (srtI l).Pairwise (· ≤ ·)
  | [] => List.Pairwise.nil
  | x :: xs => insI_srt x _ (srtI_srt xs)
theorem sorted_uniq : ∀ {l l' : List Int}, l.Perm l' → l.Pairwise (· ≤ ·) → l'.Pairwise (· ≤ ·) → l = l'
  | [], _, p, _, _ => (List.nil_perm.mp p).symm
  | x :: xs, [], p, _, _ => by have := p.length_eq; simp at this
  | x :: xs, y :: ys, p, h, h' => by
    obtain ⟨a1, a2⟩ := List.pairwise_cons.mp h
    obtain ⟨b1, b2⟩ := List.pairwise_cons.mp h'
    have hx : x ∈ y :: ys := p.mem_iff.mp List.mem_cons_self
    have hy : y ∈ x :: xs := p.mem_iff.mpr List.mem_cons_self
    have e : x = y := by
      rcases List.mem_cons.mp hx with e | hx
      · exact e
      · rcases List.mem_cons.mp hy with e | hy
        · exact e.symm
        · have := a1 y hy
          have := b1 x hx
          omega
    subst e
    rw [sorted_uniq ((List.perm_cons x).mp p) a2 b2]
theorem srtI_uniq {ns ns' : List Int} (p : ns'.Perm ns) (h : ns'.Pairwise (· ≤ ·)) : ns' = srtI ns := sorted_uniq (p.trans (srtI_perm ns).symm) h (srtI_srt ns)
theorem insU_mem (x : Int) : ∀ (l : List Int) (z : Int), z ∈ insU x l ↔ z = x ∨ z ∈ l
  | [], z => by simp [insU]
  | y :: ys, z => by
    unfold insU
    split
    · simp
    · split
      · rename_i h
        subst h
        simp
      · have ih := insU_mem x ys z
        simp only [List.mem_cons, ih]
        constructor
        · rintro (h | h | h) <;> simp [h]
        · rintro (h | h | h) <;> simp [h]
theorem srtU_mem : ∀ (l : List Int) (z : Int), z ∈ srtU l ↔ z ∈ l
  | [], z => by simp [srtU]
  | x :: xs, z => by
    show z ∈ insU x (srtU xs) ↔ _
    rw [insU_mem, srtU_mem xs z, List.mem_cons]
theorem insU_srt (x : Int) : ∀ l : List Int, l.Pairwise (· < ·) → (insU x l).Pairwise (· < ·)
  | [], _ => by simp [insU]
  | y :: ys, h => by
    unfold insU
    obtain ⟨h1, h2⟩ := List.pairwise_cons.mp h
    split
    · rename_i hle
      refine List.pairwise_cons.mpr ⟨fun z hz => ?_, h⟩
      rcases List.mem_cons.mp hz with rfl | hz
      · exact hle
      · have := h1 z hz; omega
    · split
      · exact h
      · refine List.pairwise_cons.mpr ⟨fun z hz => ?_, insU_srt x ys h2⟩
        rcases (insU_mem x ys z).mp hz with rfl | hz
        · omega
        · exact h1 z hz
theorem srtU_srt : ∀ l : List Int, (srtU l).Pairwise (· < ·)
  | [] => List.Pairwise.nil
  | x :: xs => insU_srt x _ (srtU_srt xs)
theorem strict_uniq : ∀ {l l' : List Int}, l.Pairwise (· < ·) → l'.Pairwise (· < ·) → (∀ z, z ∈ l ↔ z ∈ l') → l = l'
  | [], [], _, _, _ => rfl
  | [], y :: ys, _, _, h => absurd ((h y).mpr List.mem_cons_self) (by simp)
  | x :: xs, [], _, _, h => absurd ((h x).mp List.mem_cons_self) (by simp)
  | x :: xs, y :: ys, h1, h2, h => by
    obtain ⟨a1, a2⟩ := List.pairwise_cons.mp h1
    obtain ⟨b1, b2⟩ := List.pairwise_cons.mp h2
    have hx := (h x).mp List.mem_cons_self
    have hy := (h y).mpr List.mem_cons_self
    have e : x = y := by
      rcases List.mem_cons.mp hx with e | hx
      · exact e
      · rcases List.mem_cons.mp hy with e | hy
        · exact e.symm
        · have := a1 y hy
          have := b1 x hx
          omega
    subst e
    rw [strict_uniq a2 b2 fun z => ?_]
    constructor
    · intro hz
      rcases List.mem_cons.mp ((h z).mp (List.mem_cons_of_mem _ hz)) with e | q
      · have := a1 z hz; omega
      · exact q
    · intro hz
      rcases List.mem_cons.mp ((h z).mpr (List.mem_cons_of_mem _ hz)) with e | q
      · have := b1 z hz; omega
      · exact q
/-- a built-in's name and what it is -/
inductive BKind where
  | fn (n : String) | ty (n : String)
def B1.kind : B1 → BKind
  | .len => .fn "len" | .abs => .fn "abs" | .int => .ty "int" | .all => .fn "all" | .any => .fn "any" | .repr => .fn "repr" | .tuple => .ty "tuple" | .list => .ty "list" | .str => .ty "str" | .srt => .fn "sorted" | .isi _ => .fn "isinstance"
def BKind.val : BKind → Value
  | .fn n => .builtin n
  | .ty n => .type n
def B1.nm : B1 → String := fun b => match b.kind with | .fn n => n | .ty n => n
variable [Tbl]
theorem b1_any {b : B1} (hc : X.calm = true) (hg : X.A.guards = some []) (hu : X.A.units + 64 < cLine) (hb : ∀ t, b ≠ .isi t) : ∃ r, CallR X b.kind.val r ∧ RU1 X.K r (b1D b) := by
  cases b with
  | len =>
    refine ⟨_, call_len_seq.or call_len_str, fun {ρ σ F H vx x z Q} rep hx h q => ?_⟩
    cases hx <;> simp only [b1D] at h <;> first | (cases h; done) | skip
    · split at h
      · cases h
        exact .inr ⟨_, rfl, by assumption, keepQ rep q (.int _)⟩
      · cases h
    · rename_i a vs ds h1 h2
      cases h
      exact .inl ⟨a, vs, rfl, .inl (rep.exL h1), by rw [h2.len]; exact keepQ rep q (.int _)⟩
    · rename_i a vs ds h1 h2
      cases h
      exact .inl ⟨a, vs, rfl, .inr (rep.exT h1), by rw [h2.len]; exact keepQ rep q (.int _)⟩
  | abs =>
    refine ⟨_, call_abs, fun {ρ σ F H vx x z Q} rep hx h q => ?_⟩
    cases hx <;> simp only [b1D] at h <;> first | (cases h; done) | skip
    cases h
    exact ⟨_, rfl, keepQ rep q (.int _)⟩
  | int =>
    refine ⟨_, call_int1, fun {ρ σ F H vx x z Q} rep hx h q => ?_⟩
    cases hx <;> simp only [b1D] at h <;> first | (cases h; done) | skip
    · cases h
      exact .inr ⟨_, rfl, keepQ rep q (.int _)⟩
    · cases h
      exact .inl ⟨_, rfl, keepQ rep q (.int _)⟩
  | all =>
    refine ⟨_, cr_all hc, fun {ρ σ F H vx x z Q} rep hx h q => ?_⟩
    cases hx <;> simp only [b1D] at h <;> first | (cases h; done) | skip
    rename_i a vs ds h1 h2
    obtain ⟨bs, h3, h4⟩ := Option.map_eq_some_iff.mp h
    subst h4
    rw [bools_eq h3] at h2
    rw [h2.bools] at h1
    exact ⟨a, bs, rfl, rep.exL h1, keepQ rep q (.bl _)⟩
  | any =>
    refine ⟨_, cr_any hc, fun {ρ σ F H vx x z Q} rep hx h q => ?_⟩
    cases hx <;> simp only [b1D] at h <;> first | (cases h; done) | skip
    rename_i a vs ds h1 h2
    obtain ⟨bs, h3, h4⟩ := Option.map_eq_some_iff.mp h
    subst h4
    rw [bools_eq h3] at h2
    rw [h2.bools] at h1
    exact ⟨a, bs, rfl, rep.exL h1, keepQ rep q (.bl _)⟩
  | repr =>
    refine ⟨_, call_repr hg hu, fun {ρ σ F H vx x z Q} rep hx h q => ?_⟩
    simp only [b1D] at h
    split at h
    · cases h
      exact ⟨vx, x, rfl, hx.mono rep.ex, by assumption, keepQ rep q (.str _)⟩
    · cases h
  | tuple =>
    refine ⟨_, call_tuple_of, fun {ρ σ F H vx x z Q} rep hx h q => ?_⟩
    cases hx <;> simp only [b1D] at h <;> first | (cases h; done) | skip
    · rename_i a vs ds h1 h2
      cases h
      exact ⟨a, vs, rfl, .inl ⟨rep.exL h1, fun l hl => layT rep q hl h2⟩⟩
    · rename_i a vs ds h1 h2
      cases h
      exact ⟨a, vs, rfl, .inr ⟨rep.exT h1, keepQ rep q (.tup h1 h2)⟩⟩
  | list =>
    refine ⟨_, call_list_of, fun {ρ σ F H vx x z Q} rep hx h q => ?_⟩
    cases hx <;> simp only [b1D] at h <;> first | (cases h; done) | skip
    · rename_i a vs ds h1 h2
      cases h
      exact ⟨a, vs, rfl, .inl (rep.exL h1), fun l hl => layL rep q hl h2⟩
    · rename_i a vs ds h1 h2
      cases h
      exact ⟨a, vs, rfl, .inr (rep.exT h1), fun l hl => layL rep q hl h2⟩
  | str =>
    refine ⟨_, call_str_int, fun {ρ σ F H vx x z Q} rep hx h q => ?_⟩
    cases hx <;> simp only [b1D] at h <;> first | (cases h; done) | skip
    split at h
    · rename_i i hs
      cases h
      refine ⟨i, rfl, log_of (by simpa [small] using hs), ?_⟩
      have := keepQ rep q (.str _)
      rw [PyData.shown_int] at this
      exact this
    · cases h
  | srt =>
    refine ⟨_, cr_sortedI, fun {ρ σ F H vx x z Q} rep hx h q => ?_⟩
    cases hx <;> simp only [b1D] at h <;> first | (cases h; done) | skip
    rename_i a vs ds h1 h2
    obtain ⟨ns, h3, rfl⟩ := Option.map_eq_some_iff.mp h
    rw [ints_eq h3] at h2
    rw [h2.ints] at h1
    refine ⟨a, ns, rfl, rep.exL h1, fun ns' p hp hs hl => ?_⟩
    rw [srtI_uniq hp hs]
    exact layL rep q hl (RpA.ofInts _)
  | isi t => exact absurd rfl (hb t)
def B2.nm : B2 → String
  | .max => "max" | .min => "min" | .dvm => "divmod"
theorem b2_any {b : B2} (hc : X.calm = true) : ∃ r, CallR X (.builtin b.nm) r ∧ RU2 X.K r (b2D b) := by
  cases b with
  | max =>
    refine ⟨_, call_max2 hc, fun {ρ σ F H vx vy x y z Q} rep hx hy h q => ?_⟩
    cases hx <;> cases hy <;> simp only [b2D] at h <;> first | (cases h; done) | skip
    cases h
    exact ⟨_, _, rfl, keepQ rep q (.int _)⟩
  | min =>
    refine ⟨_, call_min2 hc, fun {ρ σ F H vx vy x y z Q} rep hx hy h q => ?_⟩
    cases hx <;> cases hy <;> simp only [b2D] at h <;> first | (cases h; done) | skip
    cases h
    exact ⟨_, _, rfl, keepQ rep q (.int _)⟩
  | dvm =>
    refine ⟨_, call_divmodW, fun {ρ σ F H vx vy x y z Q} rep hx hy h q => ?_⟩
    cases hx <;> cases hy <;> simp only [b2D] at h <;> first | (cases h; done) | skip
    split at h
    · rename_i hj
      cases h
      exact ⟨_, _, rfl, ⟨hj.1, PyProof.noPylong_of_log2 hj.2⟩, fun p hp => layT rep q hp (.cons (.int _) (.cons (.int _) .nil))⟩
    · cases h

/-! ### isinstance -/
theorem rp_ty {K : PySem.W.Frag} {F H : Hp} (e : Ex F H) {v : V} {d : PyData} (h : Rp K F v d) : TyX K H v (.type (tyOf d)) := by
  cases h with
  | non => exact .base .non
  | bl b => exact .base (.bl b)
  | int i => exact .base (.int i)
  | str x => exact .base (.str x)
  | lst h1 h2 =>
    rcases h1 with (h1 | ⟨o, h1⟩) | ⟨o, its, n, hk, hc, _⟩
    · exact .base (.lst (e _ _ h1))
    · exact .base (.frz (e _ _ h1))
    · exact .kList hk hc
  | tup h1 h2 =>
    rcases h1 with (h1 | ⟨o, h1⟩) | ⟨o, its, n, hk, hc, _⟩
    · exact .base (.tup (e _ _ h1))
    · exact .fTuple (e _ _ h1)
    · exact .kTuple hk hc
  | dct h1 h2 => exact .base (.dK (e _ _ h1))
theorem kit_isi (K : PySem.W.Frag) (t : Ty) (d : PyData) : PySem.W.kitOne K (.type (tyOf d)) (.type t.nm) = some (isi t d) := by
  refine kit_ty ?_
  cases t <;> cases d <;> (simp only [tyOf, Ty.nm, isi]; decide +kernel)

/-! ### indices, slices -/
theorem rb_ix {K : PySem.W.Frag} : RB K (fun x y H Q => rIxL K x y H Q ∨ rIxT K x y H Q) ixD := by
  intro ρ σ F H vx vy x y z Q rep hx hy h q
  have at_ : ∀ {vs : List V} {ds : List PyData} {i : Int}, RpA K F vs ds → atI ds i = some z → ∃ v, atI vs i = some v ∧ Rp K F v z := fun {vs ds i} ha hi => by
    unfold atI at hi ⊢
    rw [ha.len]
    cases hn : ixN ds.length i with
    | none => rw [hn] at hi; cases hi
    | some j =>
      rw [hn] at hi
      exact ha.get hi
  cases hx <;> cases hy <;> simp only [ixD] at h <;> first | (cases h; done) | skip
  · rename_i a vs ds h1 h2 i
    obtain ⟨v, h3, h4⟩ := at_ h2 h
    exact .inl ⟨a, vs, i, v, rfl, rfl, rep.exL h1, h3, keepQ rep q h4⟩
  · rename_i a vs ds h1 h2 i
    obtain ⟨v, h3, h4⟩ := at_ h2 h
    exact .inr ⟨a, vs, i, v, rfl, rfl, rep.exT h1, h3, keepQ rep q h4⟩
theorem ix_any : IxR X (fun x y H Q => rIxL X.K x y H Q ∨ rIxT X.K x y H Q) := ix_list.or ix_tup
def rSlAny (K : PySem.W.Frag) : V → Option Int → Option Int → Hp → VK → Prop := fun x lo hi H Q => rSlL K x lo hi H Q ∨ rSlA K x lo hi H Q
theorem sl_any : SlR X (rSlAny X.K) := sl_list.or sl_tupA
theorem cut_rp {K : PySem.W.Frag} {F : Hp} {vs : List V} {ds : List PyData} (h : RpA K F vs ds) (lo hi : Option Int) : RpA K F (cutV vs lo hi) (cutD ds lo hi) := by
  unfold cutV cutD
  rw [h.len]
  exact (h.drop _).take _
theorem sl_rb {K : PySem.W.Frag} {ρ : En} {σ : L2.St} {F H : Hp} {vx : V} {x z : PyData} {lo hi : Option Int} {Q : VK} (rep : Rep K ρ σ F H) (hx : Rp K F vx x) (h : slD x lo hi = some z)
    (q : ∀ v F' H', Rep K ρ σ F' H' → StpE ρ σ F H ρ F' H' → Rp K F' v z → Q v H') : rSlAny K vx lo hi H Q := by
  cases hx <;> simp only [slD] at h <;> first | (cases h; done) | skip
  · rename_i a vs ds h1 h2
    cases h
    exact .inl ⟨a, vs, rfl, rep.exL h1, fun p hp => layL rep q hp (cut_rp h2 lo hi)⟩
  · rename_i a vs ds h1 h2
    cases h
    refine .inr ⟨a, vs, rfl, rep.exT h1, fun hw => ?_, fun _ p hp => layT rep q hp (cut_rp h2 lo hi)⟩
    rw [h2.len] at hw
    have e : cutD ds lo hi = ds := by
      unfold cutD
      rw [hw.1, hw.2]
      simp
    rw [e] at q
    exact keepQ rep q (.tup h1 h2)
end
end Wh

set_option Elab.async false
set_option linter.all false
set_option maxRecDepth 100000
set_option maxHeartbeats 1000000
set_option exponentiation.threshold 5000
/-! Wh6: expressions. -/
namespace Wh
open PySem PySem.Spec PyProof.Rows L2 Evl
variable [Tbl]

section
variable {K : PySem.W.Frag} {ρ : En} {σ : L2.St} {F H : Hp} {i : Nat}
/-! ### slots -/
theorem get_set {α : Type} {l : List α} {i j : Nat} {x : α} : (l.set i x)[j]? = if i = j then (if i < l.length then some x else none) else l[j]? := by
  rw [List.getElem?_set]
theorem lt_of_get {α : Type} {l : List α} {i : Nat} {x : α} (h : l[i]? = some x) : i < l.length := (List.getElem?_eq_some_iff.mp h).1
theorem xc_set {a : Addr} (r : ∀ i : Nat, ρ[i]? = some (some Sv.x) → σ[i]? = some (some (V.ref a))) {s : Sv} (hs : s ≠ .x) (v : V) : ∀ j : Nat, (ρ.set i (some s))[j]? = some (some Sv.x) → (σ.set i (some v))[j]? = some (some (V.ref a)) := fun j h => by
  rw [get_set] at h ⊢
  by_cases e : i = j
  · rw [if_pos e] at h
    split at h
    · cases h; exact absurd rfl hs
    · cases h
  · rw [if_neg e] at h ⊢
    exact r j h
theorem xc_give {a : Addr} (r : ∀ i : Nat, ρ[i]? = some (some Sv.x) → σ[i]? = some (some (V.ref a))) {s : Sv} (hs : s ≠ .x) : ∀ j : Nat, (ρ.set i (some s))[j]? = some (some Sv.x) → σ[j]? = some (some (V.ref a)) := fun j h => by
  rw [get_set] at h
  by_cases e : i = j
  · rw [if_pos e] at h
    split at h
    · cases h; exact absurd rfl hs
    · cases h
  · rw [if_neg e] at h
    exact r j h
/-- a slot gets data (its value v) -/
theorem Rep.setD (r : Rep K ρ σ F H) {v : V} {x : PyData} (h : Rp K F v x) : Rep K (ρ.set i (some (.d x))) (σ.set i (some v)) F H := by
  refine ⟨by simp [r.len], r.wl, fun j y hy => ?_, fun j b xs hj => ?_, fun j k b b' xs ys p h1 h2 h3 h4 => ?_, xc_set r.xc (fun z => by cases z) v⟩
  · rw [get_set] at hy ⊢
    split at hy
    · rename_i e
      subst e
      split at hy
      · cases hy
        rename_i hl
        rw [if_pos rfl, if_pos (by rw [← r.len]; exact hl)]
        exact ⟨v, rfl, h⟩
      · cases hy
    · rename_i e
      rw [if_neg e]
      exact r.dat j y hy
  · rw [get_set] at hj ⊢
    split at hj
    · split at hj <;> cases hj
    · rename_i e
      rw [if_neg e]
      exact r.own j b xs hj
  · rw [get_set] at h1 h2 h3 h4
    split at h1
    · split at h1 <;> cases h1
    · split at h2
      · split at h2 <;> cases h2
      · rename_i e1 e2
        rw [if_neg e1] at h3
        rw [if_neg e2] at h4
        exact r.dis j k b b' xs ys p h1 h2 h3 h4
theorem own_setD {v : V} {x : PyData} {a : Addr} (h : Own (ρ.set i (some (.d x))) (σ.set i (some v)) a) : Own ρ σ a := by
  obtain ⟨j, b, xs, h1, h2⟩ := h
  rw [get_set] at h1 h2
  split at h1
  · split at h1 <;> cases h1
  · rename_i e
    rw [if_neg e] at h2
    exact ⟨j, b, xs, h1, h2⟩
theorem pen_setD {v : V} {x : PyData} (j : Nat) (ys : List PyData) (h : (ρ.set i (some (.d x)))[j]? = some (some (Sv.own true ys))) : (σ.set i (some v))[j]? = σ[j]? ∧ ∃ xs, ρ[j]? = some (some (Sv.own true xs)) := by
  rw [get_set] at h
  split at h
  · split at h <;> cases h
  · rename_i e
    exact ⟨by rw [get_set, if_neg e], ys, h⟩
theorem pen_give {x : PyData} (j : Nat) (ys : List PyData) (h : (ρ.set i (some (.d x)))[j]? = some (some (Sv.own true ys))) : σ[j]? = σ[j]? ∧ ∃ xs, ρ[j]? = some (some (Sv.own true xs)) := by
  rw [get_set] at h
  split at h
  · split at h <;> cases h
  · exact ⟨rfl, ys, h⟩
theorem Stp.setD {v : V} {x : PyData} : Stp ρ σ F H (ρ.set i (some (.d x))) (σ.set i (some v)) F H := ⟨Ex.refl F, fun _ _ h => .inl h, fun _ _ h _ _ => h, fun _ h => .inl (own_setD h), fun _ h => h, pen_setD⟩
/-- a slot of one's own is given up: data from now on -/
theorem Rep.give (r : Rep K ρ σ F H) {bb : Bool} {xs : List PyData} {p : Addr} {vs : List V} (h : ρ[i]? = some (some (.own bb xs))) (hp : σ[i]? = some (some (.ref p))) (hf : F p = none) (hh : H p = some (.lst vs)) (ha : RpA K F vs xs) :
    Rep K (ρ.set i (some (.d (.list xs)))) σ (upd F p (.lst vs)) H := by
  have e : Ex F (upd F p (.lst vs)) := Ex.new hf
  have rp : Rp K (upd F p (.lst vs)) (.ref p) (.list xs) := .lst (SqL.of upd_same) (ha.mono e)
  have hl := lt_of_get h
  refine ⟨by simp [r.len], r.wl.frz hh (fun ps z => by cases z), fun j y hy => ?_, fun j b ys hj => ?_, fun j k b b' ys zs q h1 h2 h3 h4 => ?_, xc_give r.xc (fun z => by cases z)⟩
  · rw [get_set] at hy
    split at hy
    · rename_i e'
      subst e'
      (try rw [if_pos hl] at hy)
      cases hy
      exact ⟨_, hp, rp⟩
    · obtain ⟨v, h1, h2⟩ := r.dat j y hy
      exact ⟨v, h1, h2.mono e⟩
  · rw [get_set] at hj
    split at hj
    · (try rw [if_pos hl] at hj); cases hj
    · rename_i e'
      obtain ⟨q, ws, h1, h2, h3, h4⟩ := r.own j b ys hj
      have hq : q ≠ p := fun z => e' (r.dis i j bb b xs ys p h hj hp (by rw [← z]; exact h1))
      exact ⟨q, ws, h1, by rw [upd_ne hq]; exact h2, h3, h4.mono e⟩
  · rw [get_set] at h1 h2
    split at h1
    · (try rw [if_pos hl] at h1); cases h1
    · split at h2
      · (try rw [if_pos hl] at h2); cases h2
      · exact r.dis j k b b' ys zs q h1 h2 h3 h4
theorem own_give {x : PyData} {a : Addr} (h : Own (ρ.set i (some (.d x))) σ a) : Own ρ σ a := by
  obtain ⟨j, b, xs, h1, h2⟩ := h
  rw [get_set] at h1
  split at h1
  · split at h1 <;> cases h1
  · exact ⟨j, b, xs, h1, h2⟩
theorem StpE.give {bb : Bool} {xs : List PyData} {p : Addr} {vs : List V} (h : ρ[i]? = some (some (.own bb xs))) (hp : σ[i]? = some (some (.ref p))) (hf : F p = none) : StpE ρ σ F H (ρ.set i (some (.d (.list xs)))) (upd F p (.lst vs)) H := by
  refine ⟨⟨Ex.new hf, fun a u hu => ?_, fun _ _ h _ _ => h, fun a h => .inl (own_give h), fun _ h => h, pen_give⟩, fun _ h => own_give h⟩
  by_cases hq : a = p
  · subst hq; exact .inr (.inr ⟨i, bb, xs, h, hp⟩)
  · rw [upd_ne hq] at hu; exact .inl hu
/-- a slot of one's own has another content -/
theorem Rep.putO (r : Rep K ρ σ F H) {bb : Bool} {xs ys : List PyData} {p : Addr} {ws : List V} (h : ρ[i]? = some (some (.own bb xs))) (hp : σ[i]? = some (some (.ref p))) (ha : RpA K F ws ys) :
    Rep K (ρ.set i (some (.own bb ys))) σ F (upd H p (.lst ws)) := by
  obtain ⟨q, vs, h1, h2, h3, h4⟩ := r.own i bb xs h
  rw [hp] at h1; cases h1
  have hl := lt_of_get h
  refine ⟨by simp [r.len], r.wl.put h2 h3, fun j y hy => ?_, fun j b zs hj => ?_, fun j k b b' ys' zs q h1 h2 h3 h4 => ?_, xc_give r.xc (fun z => by cases z)⟩
  · rw [get_set] at hy
    split at hy
    · (try rw [if_pos hl] at hy); cases hy
    · exact r.dat j y hy
  · rw [get_set] at hj
    split at hj
    · rename_i e'
      subst e'
      (try rw [if_pos hl] at hj)
      cases hj
      exact ⟨p, ws, hp, h2, upd_same, ha⟩
    · rename_i e'
      obtain ⟨q', ws', g1, g2, g3, g4⟩ := r.own j b zs hj
      have hq : q' ≠ p := fun z => e' (r.dis i j bb b xs zs p h hj hp (by rw [← z]; exact g1))
      exact ⟨q', ws', g1, g2, by rw [upd_ne hq]; exact g3, g4⟩
  · have back : ∀ (j : Nat) (b : Bool) (ys' : List PyData), (ρ.set i (some (.own bb ys)))[j]? = some (some (.own b ys')) → ∃ b zs, ρ[j]? = some (some (.own b zs)) := fun j b ys' hj => by
      rw [get_set] at hj
      split at hj
      · rename_i e'; subst e'; exact ⟨bb, xs, h⟩
      · exact ⟨b, ys', hj⟩
    obtain ⟨b1, z1, g1⟩ := back j b ys' h1
    obtain ⟨b2, z2, g2⟩ := back k b' zs h2
    exact r.dis j k b1 b2 z1 z2 q g1 g2 h3 h4
theorem own_putO {bb : Bool} {xs ys : List PyData} {a : Addr} (h : ρ[i]? = some (some (.own bb xs))) (o : Own (ρ.set i (some (.own bb ys))) σ a) : Own ρ σ a := by
  obtain ⟨j, b, zs, h1, h2⟩ := o
  rw [get_set] at h1
  split at h1
  · rename_i e; subst e; exact ⟨i, bb, xs, h, h2⟩
  · exact ⟨j, b, zs, h1, h2⟩
theorem pen_putO {bb : Bool} {xs ys : List PyData} (h : ρ[i]? = some (some (.own bb xs))) (j : Nat) (zs : List PyData) (hj : (ρ.set i (some (.own bb ys)))[j]? = some (some (Sv.own true zs))) : σ[j]? = σ[j]? ∧ ∃ xs, ρ[j]? = some (some (Sv.own true xs)) := by
  rw [get_set] at hj
  split at hj
  · rename_i e
    subst e
    split at hj
    · cases hj; exact ⟨rfl, xs, h⟩
    · cases hj
  · exact ⟨rfl, zs, hj⟩
theorem StpE.putO {bb : Bool} {xs ys : List PyData} {p : Addr} {ws : List V} (h : ρ[i]? = some (some (.own bb xs))) (hp : σ[i]? = some (some (.ref p))) : StpE ρ σ F H (ρ.set i (some (.own bb ys))) F (upd H p (.lst ws)) :=
  ⟨⟨Ex.refl F, fun _ _ h => .inl h, fun a u hu no _ => by
    rw [upd_ne (fun e => no (by rw [e]; exact ⟨i, bb, xs, h, hp⟩))]; exact hu, fun a o => .inl (own_putO h o), fun a h => upd_none' h, pen_putO h⟩, fun a o => own_putO h o⟩
/-- a slot gets a new list of one's own -/
theorem Rep.setO (r : Rep K ρ σ F H) {p : Addr} {vs : List V} {xs : List PyData} (hf : F p = none) (hh : H p = some (.lst vs)) (no : ¬ Own ρ σ p) (ha : RpA K F vs xs) : Rep K (ρ.set i (some (.own false xs))) (σ.set i (some (.ref p))) F H := by
  refine ⟨by simp [r.len], r.wl, fun j y hy => ?_, fun j b ys hj => ?_, fun j k b b' ys zs q h1 h2 h3 h4 => ?_, xc_set r.xc (fun z => by cases z) _⟩
  · rw [get_set] at hy ⊢
    split at hy
    · split at hy <;> cases hy
    · rename_i e
      rw [if_neg e]
      exact r.dat j y hy
  · rw [get_set] at hj ⊢
    split at hj
    · rename_i e
      subst e
      split at hj
      · cases hj
        rename_i hl
        rw [if_pos rfl, if_pos (by rw [← r.len]; exact hl)]
        exact ⟨p, vs, rfl, hf, hh, ha⟩
      · cases hj
    · rename_i e
      rw [if_neg e]
      exact r.own j b ys hj
  · rw [get_set] at h1 h2 h3 h4
    by_cases e1 : i = j
    · by_cases e2 : i = k
      · exact e1.symm.trans e2
      · rw [if_pos e1] at h3
        rw [if_neg e2] at h2 h4
        split at h3
        · cases h3
          exact absurd ⟨k, b', zs, h2, h4⟩ no
        · cases h3
    · rw [if_neg e1] at h1 h3
      by_cases e2 : i = k
      · rw [if_pos e2] at h4
        split at h4
        · cases h4
          exact absurd ⟨j, b, ys, h1, h3⟩ no
        · cases h4
      · rw [if_neg e2] at h2 h4
        exact r.dis j k b b' ys zs q h1 h2 h3 h4
end

/-! ### expressions -/
/-- what a module's name is, as data -/
def DatG (K : PySem.W.Frag) (mg : Str → Option Value) (x : Str) (d : PyData) : Prop := ∃ u v, mg x = some u ∧ RelV v u ∧ ∀ F, Rp K F v d
/-- a written dict with keys that are texts -/
def DctG (K : PySem.W.Frag) (w : World) (mg : Str → Option Value) (x : Str) (kvs : List (PyData × PyData)) : Prop := ∃ a es n, mg x = some (.ref a) ∧ KDict K w a es n ∧ ∀ z : Str, ∃ r, PySem.W.nsIn K a z = some r ∧ match r with
  | none => lookD kvs z = .none
  | some u => ∃ v, RelV v u ∧ ∀ F, Rp K F v (lookD kvs z)
def GlobOk (K : PySem.W.Frag) (w : World) (mg : Str → Option Value) (g : Str → Option PyData) : Prop := ∀ x d, g x = some d → match d with
  | .dict kvs => DctG K w mg x kvs
  | d => DatG K mg x d
section
variable {X : Cx} {c : Cfg} {pos : Pos} {a b : Expr} {fa fb : En → Option (PyData × En)}
theorem e_con {k : Const} {j : Nat} {d : PyData} (h : (match k with | .none => some PyData.none | .bool b => some (.bool b) | .int i => some (.int i) | .str x => some (.str x) | _ => none) = some d) :
    PE X (.Constant k j pos) (tE X.K fun ρ => some (d, ρ)) := by
  have fin : ∀ (v : V), (∀ F, Rp X.K F v d) → ∀ σ H Q, tE X.K (fun ρ => some (d, ρ)) σ H Q → tC v σ H Q := fun v hv σ H Q h => by
    obtain ⟨ρ, F, x, ρ', rep, e, q⟩ := h
    cases e
    exact q v F H rep StpE.refl (hv F)
  cases k <;> cases h
  · exact pe_non.wk (fin _ fun _ => .non)
  · exact pe_bl.wk (fin _ fun _ => .bl _)
  · exact pe_int.wk (fin _ fun _ => .int _)
  · exact pe_str.wk (fin _ fun _ => .str _)
theorem e_var {x : Str} {i : Nat} (hN : X.N[i]? = some x) (hv : Vis X.env.scope x) (hd : (x == ("__debug__" : Str)) = false) (hcd : (x == ("__classdict__" : Str)) = false) : PE X (.Name x pos) (tE X.K (ev c (.var i))) := by
  refine (pe_var hN hv hd hcd).wk fun σ H Q h => ?_
  obtain ⟨ρ, F, y, ρ', rep, e, q⟩ := h
  simp only [ev] at e
  split at e
  · rename_i z hz
    cases e
    obtain ⟨v, h1, h2⟩ := rep.dat i y hz
    exact ⟨v, h1, q v F H rep StpE.refl h2⟩
  · rename_i bb xs hz
    cases e
    obtain ⟨p, vs, h1, h2, h3, h4⟩ := rep.own i bb xs hz
    exact ⟨_, h1, q _ _ H (rep.give hz h1 h2 h3 h4) (StpE.give hz h1 h2) (.lst (SqL.of upd_same) (h4.mono (Ex.new h2)))⟩
  · cases e
theorem e_glob {x : Str} (hg : Gl X x) (hG : GlobOk X.K X.w X.mg c.glob) (hd : (x == ("__debug__" : Str)) = false) : PE X (.Name x pos) (tE X.K (ev c (.glob x))) := by
  refine ⟨fun pins s σ H Q I h => ?_⟩
  obtain ⟨ρ, F, y, ρ', rep, e, q⟩ := h
  simp only [ev] at e
  split at e
  · rename_i d h0
    obtain ⟨d', h1, h2⟩ := ret_eq e
    cases h2
    have hD : DatG X.K X.mg x d ∧ y = d := by
      have := hG x d h0
      cases d <;> simp only [globD] at h1 <;> cases h1 <;> exact ⟨this, rfl⟩
    obtain ⟨⟨u, v, hm, rv, rp⟩, rfl⟩ := hD
    exact (pe_glob hg hm rv hd).run pins s σ H Q I (q v F H rep StpE.refl (rp F))
  · cases e
/-- D.get(key), D a written dict -/
theorem e_gget {x : Str} {px apos cpos : Pos} (hg : Gl X x) (hG : GlobOk X.K X.w X.mg c.glob) (hd : (x == ("__debug__" : Str)) = false) (ha : PE X a (tE X.K fa)) (m : M1 X (.Name x px) "get" apos a cpos) :
    PE X (.Call (.Attribute (.Name x px) "get" apos) [a] [] cpos) (tE X.K fun ρ => bnd (fa ρ) fun y ρ => match c.glob x, y with
    | some (.dict kvs), .str z => some (lookD kvs z, ρ)
    | _, _ => none) := by
  refine ⟨fun pins s σ H Q I h => ?_⟩
  obtain ⟨ρ, F, y, ρ', rep, e, q⟩ := h
  obtain ⟨k, ρ1, e1, e⟩ := bnd_eq e
  split at e
  · rename_i kvs z h0
    cases e
    obtain ⟨d, es, n, hm, D, hl⟩ := hG x _ h0
    refine wpAny_Call_method m.base m.few m.line PySem.F.plainAttrs_dict PySem.F.slot_dict_get PySem.F.type_dict_get (thn ((pe_glob (v := .ref d) hg hm rfl hd).run pins s σ H (fun v H' => v = .ref d ∧ H' = H) I ⟨rfl, rfl⟩) fun u s1 ⟨v1, H1, I1, rx, ex1, ex2⟩ => ?_)
    subst ex1
    subst ex2
    obtain rfl : u = Value.ref d := rx
    refine ⟨kd_type D I1, fun b q => ?_, ?_⟩
    · cases q
      exact ⟨_, I1.kIn d _ D.at_, rfl⟩
    · rw [m.trees]
      refine Calls.callWith_builtin rfl (Calls.evalArgs_plain (Calls.spliced_cons (thn (ha.run pins s1 σ H1 (fun v H2 => ∃ F2, Rep X.K ρ' σ F2 H2 ∧ StpE ρ σ F H1 ρ' F2 H2 ∧ Rp X.K F2 v (.str z)) I1 ⟨ρ, F, _, ρ', rep, e1, fun v F2 H2 a1 a2 a3 => ⟨F2, a1, a2, a3⟩⟩) fun iv s2 ⟨y, H2, I2, ry, F2, rep2, st2, rp2⟩ => Calls.spliced_nil ?_)))
      cases rp2
      obtain ⟨t, rfl⟩ := (show ∃ t, iv = Value.str z t from ry)
      obtain ⟨r, hr, hv⟩ := hl z
      refine call_meetsIn PySem.F.slot_dict_get (kd_type D I2) PySem.F.entry_dict_get (PySem.F.args_dict_get_2 _ _) (meets_dict_get (strKind X.prog X.w) d (strKind_is X.prog X.w z t) D.low) ⟨_, PySem.W.mapOf_K (prog := X.prog) I2.kIn D.at_ D.lit, ?_⟩
      rw [PySem.W.find_K D.at_ hr]
      cases r with
      | none =>
        have hv : lookD kvs z = .none := hv
        rw [hv] at q
        exact ⟨.non, H2, I2.tok _, rfl, q _ F2 H2 rep2 st2 .non⟩
      | some u =>
        obtain ⟨v, rv, rp⟩ := hv
        exact ⟨v, H2, I2.tok _, rv, q v F2 H2 rep2 st2 (rp F2)⟩
  · cases e
theorem e_bin {o : Operator} {bo : BOp} (h : opOf o = some bo) (ha : PE X a (tE X.K fa)) (hb : PE X b (tE X.K fb)) :
    PE X (.BinOp a o b pos) (tE X.K fun ρ => bnd (fa ρ) fun x ρ => bnd (fb ρ) fun y ρ => ret (binD bo x y) ρ) := by
  obtain ⟨r, hr, rb⟩ := op_any (X := X) h
  refine (pe_op hr ha hb).wk fun σ H Q h => ?_
  obtain ⟨ρ, F, z, ρ', rep, e, q⟩ := h
  obtain ⟨x, ρ1, e1, e⟩ := bnd_eq e
  obtain ⟨y, ρ2, e2, e⟩ := bnd_eq e
  obtain ⟨z', e3, e⟩ := ret_eq e
  cases e
  refine ⟨ρ, F, x, ρ1, rep, e1, fun vx F1 H1 rep1 st1 rp1 => ⟨ρ1, F1, y, ρ', rep1, e2, fun vy F2 H2 rep2 st2 rp2 => ?_⟩⟩
  exact rb rep2 (rp1.mono st2.ext) rp2 e3 fun v F3 H3 rep3 st3 rp3 => q v F3 H3 rep3 ((st1.trans st2).trans st3) rp3
theorem e_neg (ha : PE X a (tE X.K fa)) : PE X (.UnaryOp .USub a pos) (tE X.K fun ρ => bnd (fa ρ) fun x ρ => match x with | .int i => some (.int (-i), ρ) | _ => none) := by
  refine (pe_un un_neg ha).wk fun σ H Q h => ?_
  obtain ⟨ρ, F, z, ρ', rep, e, q⟩ := h
  obtain ⟨x, ρ1, e1, e⟩ := bnd_eq e
  refine ⟨ρ, F, x, ρ1, rep, e1, fun vx F1 H1 rep1 st1 rp1 => ?_⟩
  cases x <;> simp only at e <;> first | (cases e; done) | skip
  cases e
  cases rp1
  exact ⟨_, rfl, q _ F1 H1 rep1 st1 (.int _)⟩
theorem e_cmp {o : CmpOp} {co : COp} (hu : X.A.units + 64 < cLine) (h : cmpOf o = some co) (hm : behindInMarks o b = false) (ha : PE X a (tE X.K fa)) (hb : PE X b (tE X.K fb)) :
    PE X (.Compare a [o] [b] pos) (tE X.K fun ρ => bnd (fa ρ) fun x ρ => bnd (fb ρ) fun y ρ => bnd (ret (cmpD co x y) ρ) fun r ρ => some (.bool r, ρ)) := by
  obtain ⟨r, hr, rb⟩ := cmp_any (X := X) hu h
  refine (pe_cmpR hr ha hb hm).wk fun σ H Q h => ?_
  obtain ⟨ρ, F, z, ρ', rep, e, q⟩ := h
  obtain ⟨x, ρ1, e1, e⟩ := bnd_eq e
  obtain ⟨y, ρ2, e2, e⟩ := bnd_eq e
  obtain ⟨z', ρ3, e3, e⟩ := bnd_eq e
  obtain ⟨z'', e4, e5⟩ := ret_eq e3
  cases e
  cases e5
  refine ⟨ρ, F, x, ρ1, rep, e1, fun vx F1 H1 rep1 st1 rp1 => ⟨ρ1, F1, y, ρ', rep1, e2, fun vy F2 H2 rep2 st2 rp2 => ?_⟩⟩
  exact rb rep2 (rp1.mono st2.ext) rp2 e4 (q _ F2 H2 rep2 (st1.trans st2) (.bl _))
theorem t_cmp {o : CmpOp} {co : COp} (hu : X.A.units + 64 < cLine) (h : cmpOf o = some co) (hm : behindInMarks o b = false) (ha : PE X a (tE X.K fa)) (hb : PE X b (tE X.K fb)) :
    PT X (.Compare a [o] [b] pos) (tT X.K fun ρ => bnd (bnd (fa ρ) fun x ρ => bnd (fb ρ) fun y ρ => bnd (ret (cmpD co x y) ρ) fun r ρ => some (.bool r, ρ)) fun x ρ => ret (truD x) ρ) := by
  obtain ⟨r, hr, rb⟩ := cmp_any (X := X) hu h
  refine (pt_cmpR hr ha hb hm).wk fun σ H Q h => ?_
  obtain ⟨ρ, F, z, ρ', rep, e, q⟩ := h
  obtain ⟨w, ρ0, e, e'⟩ := bnd_eq e
  obtain ⟨x, ρ1, e1, e⟩ := bnd_eq e
  obtain ⟨y, ρ2, e2, e⟩ := bnd_eq e
  obtain ⟨z', ρ3, e3, e⟩ := bnd_eq e
  obtain ⟨z'', e4, e5⟩ := ret_eq e3
  cases e
  cases e5
  obtain ⟨_, e6, e7⟩ := ret_eq e'
  cases e7
  cases e6
  refine ⟨ρ, F, x, ρ1, rep, e1, fun vx F1 H1 rep1 st1 rp1 => ⟨ρ1, F1, y, ρ', rep1, e2, fun vy F2 H2 rep2 st2 rp2 => ?_⟩⟩
  exact rb rep2 (rp1.mono st2.ext) rp2 e4 ⟨_, rfl, q F2 H2 rep2 (st1.trans st2)⟩
variable {d : Expr} {fd : En → Option (PyData × En)}
theorem e_chain {o o' : CmpOp} {co co' : COp} (hu : X.A.units + 64 < cLine) (h : cmpOf o = some co) (h' : cmpOf o' = some co') (hm : lastMarks [o, o'] [b, d] = false) (ha : PE X a (tE X.K fa)) (hb : PE X b (tE X.K fb)) (hd : PE X d (tE X.K fd)) :
    PE X (.Compare a [o, o'] [b, d] pos) (tE X.K fun ρ => bnd (fa ρ) fun x ρ => bnd (fb ρ) fun y ρ => bnd (ret (cmpD co x y) ρ) fun r ρ => match r with
      | false => some (.bool false, ρ)
      | true => bnd (fd ρ) fun z ρ => bnd (ret (cmpD co' y z) ρ) fun r ρ => some (.bool r, ρ)) := by
  obtain ⟨r, hr, rb⟩ := cmp_any (X := X) hu h
  obtain ⟨r', hr', rb'⟩ := cmp_any (X := X) hu h'
  refine (pe_chain hr hr' ha hb hd hm).wk fun σ H Q h => ?_
  obtain ⟨ρ, F, z, ρ', rep, e, q⟩ := h
  obtain ⟨x, ρ1, e1, e⟩ := bnd_eq e
  obtain ⟨y, ρ2, e2, e⟩ := bnd_eq e
  obtain ⟨z', ρ3, e3, e⟩ := bnd_eq e
  obtain ⟨z'', e4, e5⟩ := ret_eq e3
  cases e5
  refine ⟨ρ, F, x, ρ1, rep, e1, fun vx F1 H1 rep1 st1 rp1 => ⟨ρ1, F1, y, ρ2, rep1, e2, fun vy F2 H2 rep2 st2 rp2 => ?_⟩⟩
  refine rb rep2 (rp1.mono st2.ext) rp2 e4 ⟨_, rfl, ?_⟩
  cases z' with
  | false =>
    cases e
    exact q _ F2 H2 rep2 (st1.trans st2) (.bl _)
  | true =>
    obtain ⟨w, ρ4, e6, e⟩ := bnd_eq e
    obtain ⟨u, ρ5, e7, e⟩ := bnd_eq e
    obtain ⟨u', e8, e9⟩ := ret_eq e7
    cases e
    cases e9
    exact ⟨ρ2, F2, w, ρ', rep2, e6, fun vw F3 H3 rep3 st3 rp3 => rb' rep3 (rp2.mono st3.ext) rp3 e8 (q _ F3 H3 rep3 ((st1.trans st2).trans st3) (.bl _))⟩
theorem t_chain {o o' : CmpOp} {co co' : COp} (hu : X.A.units + 64 < cLine) (h : cmpOf o = some co) (h' : cmpOf o' = some co') (hm : lastMarks [o, o'] [b, d] = false) (ha : PE X a (tE X.K fa)) (hb : PE X b (tE X.K fb)) (hd : PE X d (tE X.K fd)) :
    PT X (.Compare a [o, o'] [b, d] pos) (tT X.K fun ρ => bnd (bnd (fa ρ) fun x ρ => bnd (fb ρ) fun y ρ => bnd (ret (cmpD co x y) ρ) fun r ρ => match r with
      | false => some (.bool false, ρ)
      | true => bnd (fd ρ) fun z ρ => bnd (ret (cmpD co' y z) ρ) fun r ρ => some (.bool r, ρ)) fun x ρ => ret (truD x) ρ) := by
  obtain ⟨r, hr, rb⟩ := cmp_any (X := X) hu h
  obtain ⟨r', hr', rb'⟩ := cmp_any (X := X) hu h'
  refine (pt_chain hr hr' ha hb hd hm).wk fun σ H Q h => ?_
  obtain ⟨ρ, F, z, ρ', rep, e, q⟩ := h
  obtain ⟨w0, ρ0, e, e'⟩ := bnd_eq e
  obtain ⟨x, ρ1, e1, e⟩ := bnd_eq e
  obtain ⟨y, ρ2, e2, e⟩ := bnd_eq e
  obtain ⟨z', ρ3, e3, e⟩ := bnd_eq e
  obtain ⟨z'', e4, e5⟩ := ret_eq e3
  cases e5
  refine ⟨ρ, F, x, ρ1, rep, e1, fun vx F1 H1 rep1 st1 rp1 => ⟨ρ1, F1, y, ρ2, rep1, e2, fun vy F2 H2 rep2 st2 rp2 => ?_⟩⟩
  refine rb rep2 (rp1.mono st2.ext) rp2 e4 ⟨_, rfl, ?_⟩
  cases z' with
  | false =>
    cases e
    obtain ⟨_, g1, g2⟩ := ret_eq e'
    cases g2
    cases g1
    exact ⟨false, rfl, q F2 H2 rep2 (st1.trans st2)⟩
  | true =>
    obtain ⟨w, ρ4, e6, e⟩ := bnd_eq e
    obtain ⟨u, ρ5, e7, e⟩ := bnd_eq e
    obtain ⟨u', e8, e9⟩ := ret_eq e7
    cases e
    cases e9
    obtain ⟨_, g1, g2⟩ := ret_eq e'
    cases g2
    cases g1
    exact ⟨ρ2, F2, w, ρ', rep2, e6, fun vw F3 H3 rep3 st3 rp3 => rb' rep3 (rp2.mono st3.ext) rp3 e8 ⟨_, rfl, q F3 H3 rep3 ((st1.trans st2).trans st3)⟩⟩
/-! and, or, not, if as values -/
variable {rest : List Expr}
theorem e_and (ha : PE X a (tE X.K fa)) (hb : PE X (.BoolOp .And (b :: rest) pos) (tE X.K fb)) : PE X (.BoolOp .And (a :: b :: rest) pos) (tE X.K fun ρ => bnd (fa ρ) fun x ρ => match x with
    | .bool true => fb ρ
    | .bool false => some (.bool false, ρ)
    | _ => none) := by
  refine (pe_and ha hb).wk fun σ H Q h => ?_
  obtain ⟨ρ, F, z, ρ', rep, e, q⟩ := h
  obtain ⟨x, ρ1, e1, e⟩ := bnd_eq e
  refine ⟨ρ, F, x, ρ1, rep, e1, fun vx F1 H1 rep1 st1 rp1 => ?_⟩
  have hb : ∃ r, x = .bool r := by
    cases x with
    | bool r => exact ⟨r, rfl⟩
    | _ => cases e
  obtain ⟨r, rfl⟩ := hb
  cases rp1
  refine ⟨_, rfl, ?_⟩
  cases r with
  | true =>
    rw [if_pos rfl]
    exact ⟨ρ1, F1, z, ρ', rep1, e, fun v F2 H2 rep2 st2 rp2 => q v F2 H2 rep2 (st1.trans st2) rp2⟩
  | false =>
    cases e
    rw [if_neg Bool.false_ne_true]
    exact q _ F1 H1 rep1 st1 (.bl _)
theorem e_or (ha : PE X a (tE X.K fa)) (hb : PE X (.BoolOp .Or (b :: rest) pos) (tE X.K fb)) : PE X (.BoolOp .Or (a :: b :: rest) pos) (tE X.K fun ρ => bnd (fa ρ) fun x ρ => match x with
    | .bool true => some (.bool true, ρ)
    | .bool false => fb ρ
    | _ => none) := by
  refine (pe_or ha hb).wk fun σ H Q h => ?_
  obtain ⟨ρ, F, z, ρ', rep, e, q⟩ := h
  obtain ⟨x, ρ1, e1, e⟩ := bnd_eq e
  refine ⟨ρ, F, x, ρ1, rep, e1, fun vx F1 H1 rep1 st1 rp1 => ?_⟩
  have hb : ∃ r, x = .bool r := by
    cases x with
    | bool r => exact ⟨r, rfl⟩
    | _ => cases e
  obtain ⟨r, rfl⟩ := hb
  cases rp1
  refine ⟨_, rfl, ?_⟩
  cases r with
  | true =>
    cases e
    rw [if_pos rfl]
    exact q _ F1 H1 rep1 st1 (.bl _)
  | false =>
    rw [if_neg Bool.false_ne_true]
    exact ⟨ρ1, F1, z, ρ', rep1, e, fun v F2 H2 rep2 st2 rp2 => q v F2 H2 rep2 (st1.trans st2) rp2⟩
theorem e_not (ha : PE X a (tE X.K fa)) : PE X (.UnaryOp .Not a pos) (tE X.K fun ρ => bnd (fa ρ) fun x ρ => match x with
    | .bool b => some (.bool (!b), ρ)
    | _ => none) := by
  refine (pe_not ha).wk fun σ H Q h => ?_
  obtain ⟨ρ, F, z, ρ', rep, e, q⟩ := h
  obtain ⟨x, ρ1, e1, e⟩ := bnd_eq e
  refine ⟨ρ, F, x, ρ1, rep, e1, fun vx F1 H1 rep1 st1 rp1 => ?_⟩
  cases x <;> simp only at e <;> first | (cases e; done) | skip
  cases rp1
  cases e
  exact ⟨_, rfl, q _ F1 H1 rep1 st1 (.bl _)⟩
variable {gt gu : En → Option (Bool × En)} {t : Expr}
theorem e_ite (ht : PT X t (tT X.K gt)) (ha : PE X a (tE X.K fa)) (hb : PE X b (tE X.K fb)) : PE X (.IfExp t a b pos) (tE X.K fun ρ => bnd (gt ρ) fun r ρ => match r with
    | true => fa ρ
    | false => fb ρ) := by
  refine (pe_ifExp ht ha hb).wk fun σ H Q h => ?_
  obtain ⟨ρ, F, z, ρ', rep, e, q⟩ := h
  obtain ⟨r, ρ1, e1, e⟩ := bnd_eq e
  refine ⟨ρ, F, r, ρ1, rep, e1, fun F1 H1 rep1 st1 => ?_⟩
  cases r with
  | true =>
    rw [if_pos rfl]
    exact ⟨ρ1, F1, z, ρ', rep1, e, fun v F2 H2 rep2 st2 rp2 => q v F2 H2 rep2 (st1.trans st2) rp2⟩
  | false =>
    rw [if_neg Bool.false_ne_true]
    exact ⟨ρ1, F1, z, ρ', rep1, e, fun v F2 H2 rep2 st2 rp2 => q v F2 H2 rep2 (st1.trans st2) rp2⟩
/-! tests -/
theorem t_and (ha : PT X a (tT X.K gt)) (hb : PW X (.BoolOp .And (b :: rest) pos) (tT X.K gu)) : PW X (.BoolOp .And (a :: b :: rest) pos) (tT X.K fun ρ => bnd (gt ρ) fun r ρ => match r with
    | true => gu ρ
    | false => some (false, ρ)) := by
  refine (pw_and ha hb).wk fun σ H Q h => ?_
  obtain ⟨ρ, F, z, ρ', rep, e, q⟩ := h
  obtain ⟨r, ρ1, e1, e⟩ := bnd_eq e
  refine ⟨ρ, F, r, ρ1, rep, e1, fun F1 H1 rep1 st1 => ?_⟩
  cases r with
  | true =>
    rw [if_pos rfl]
    exact ⟨ρ1, F1, z, ρ', rep1, e, fun F2 H2 rep2 st2 => q F2 H2 rep2 (st1.trans st2)⟩
  | false =>
    cases e
    rw [if_neg Bool.false_ne_true]
    exact q F1 H1 rep1 st1
theorem t_or (ha : PT X a (tT X.K gt)) (hb : PW X (.BoolOp .Or (b :: rest) pos) (tT X.K gu)) : PW X (.BoolOp .Or (a :: b :: rest) pos) (tT X.K fun ρ => bnd (gt ρ) fun r ρ => match r with
    | true => some (true, ρ)
    | false => gu ρ) := by
  refine (pw_or ha hb).wk fun σ H Q h => ?_
  obtain ⟨ρ, F, z, ρ', rep, e, q⟩ := h
  obtain ⟨r, ρ1, e1, e⟩ := bnd_eq e
  refine ⟨ρ, F, r, ρ1, rep, e1, fun F1 H1 rep1 st1 => ?_⟩
  cases r with
  | true =>
    cases e
    rw [if_pos rfl]
    exact q F1 H1 rep1 st1
  | false =>
    rw [if_neg Bool.false_ne_true]
    exact ⟨ρ1, F1, z, ρ', rep1, e, fun F2 H2 rep2 st2 => q F2 H2 rep2 (st1.trans st2)⟩
theorem t_not (ha : PT X a (tT X.K gt)) : PT X (.UnaryOp .Not a pos) (tT X.K fun ρ => bnd (gt ρ) fun r ρ => some (!r, ρ)) := by
  refine (pt_not ha).wk fun σ H Q h => ?_
  obtain ⟨ρ, F, z, ρ', rep, e, q⟩ := h
  obtain ⟨r, ρ1, e1, e⟩ := bnd_eq e
  cases e
  exact ⟨ρ, F, r, ρ', rep, e1, fun F1 H1 rep1 st1 => q F1 H1 rep1 st1⟩
theorem rp_tru {K : PySem.W.Frag} {F H : Hp} (e : Ex F H) {v : V} {x : PyData} {r : Bool} (h : Rp K F v x) (ht : truD x = some r) : TruV K v H r := by
  cases h <;> simp only [truD] at ht <;> first | (cases ht; rfl) | (cases ht; done) | skip
  · rename_i a vs ds h1 h2
    cases ht
    refine .inl ⟨vs, ex_l e h1, ?_⟩
    cases h2 <;> rfl
  · rename_i a vs ds h1 h2
    cases ht
    refine .inr (.inl ⟨vs, ex_t e h1, ?_⟩)
    cases h2 <;> rfl
theorem t_leaf (ha : PE X a (tE X.K fa)) (he : ∀ whole, isTrue a X.env whole = (do let v ← whole; standAt a.pos; holding [v] (truthy v))) : PT X a (tT X.K fun ρ => bnd (fa ρ) fun x ρ => ret (truD x) ρ) := by
  refine (pt_truth ha he).wk fun σ H Q h => ?_
  obtain ⟨ρ, F, z, ρ', rep, e, q⟩ := h
  obtain ⟨x, ρ1, e1, e⟩ := bnd_eq e
  obtain ⟨r, e2, e3⟩ := ret_eq e
  cases e3
  exact ⟨ρ, F, x, ρ', rep, e1, fun v F1 H1 rep1 st1 rp1 => ⟨z, rp_tru rep1.ex rp1 e2, q F1 H1 rep1 st1⟩⟩
/-! lists of arguments, displays -/
variable {es : List Expr} {fs : En → Option (List PyData × En)}
theorem a_nil : PA X [] (tA X.K fun ρ => some ([], ρ)) := pa_nil.wk fun σ H Q h => by
  obtain ⟨ρ, F, z, ρ', rep, e, q⟩ := h
  cases e
  exact q [] F H rep StpE.refl .nil
theorem a_cons (ha : PE X a (tE X.K fa)) (hr : PA X es (tA X.K fs)) (hs : starEach (a :: es) X.env = (false, eval a X.env) :: starEach es X.env) : PA X (a :: es) (tA X.K fun ρ => bnd (fa ρ) fun x ρ => bnd (fs ρ) fun xs ρ => some (x :: xs, ρ)) := by
  refine (pa_cons ha hr hs).wk fun σ H Q h => ?_
  obtain ⟨ρ, F, z, ρ', rep, e, q⟩ := h
  obtain ⟨x, ρ1, e1, e⟩ := bnd_eq e
  obtain ⟨xs, ρ2, e2, e⟩ := bnd_eq e
  cases e
  exact ⟨ρ, F, x, ρ1, rep, e1, fun v F1 H1 rep1 st1 rp1 => ⟨ρ1, F1, xs, ρ', rep1, e2, fun vs F2 H2 rep2 st2 rp2 => q (v :: vs) F2 H2 rep2 (st1.trans st2) (.cons (rp1.mono st2.ext) rp2)⟩⟩
end
end Wh

set_option Elab.async false
set_option linter.all false
set_option maxRecDepth 100000
set_option maxHeartbeats 1000000
set_option exponentiation.threshold 5000
/-! Wh7: displays, indices, built-ins, iterables, targets, comprehensions. -/
namespace Wh
open PySem PySem.Spec PyProof.Rows L2 Evl
variable [Tbl]

section
variable {X : Cx} {c : Cfg} {pos : Pos} {a b e : Expr} {fa fb f : En → Option (PyData × En)} {es : List Expr} {fs : En → Option (List PyData × En)}
theorem e_tup {k : Nat} (hr : PA X es (tA X.K fs)) (hl : ∀ ρ xs ρ', fs ρ = some (xs, ρ') → xs.length ≤ sizeLine) : PE X (.Tuple es k pos) (tE X.K fun ρ => bnd (fs ρ) fun xs ρ => some (.tuple xs, ρ)) := by
  refine (pe_tup hr).wk fun σ H Q h => ?_
  obtain ⟨ρ, F, z, ρ', rep, e, q⟩ := h
  obtain ⟨xs, ρ1, e1, e⟩ := bnd_eq e
  cases e
  refine ⟨ρ, F, xs, ρ', rep, e1, fun vs F1 H1 rep1 st1 rp1 => ⟨by rw [rp1.len]; exact hl _ _ _ e1, fun p hp => ?_⟩⟩
  exact layT rep1 (fun v F2 H2 rep2 st2 rp2 => q v F2 H2 rep2 (st1.trans st2) rp2) hp rp1
theorem l_lst (hr : PA X es (tA X.K fs)) (hl : ∀ ρ xs ρ', fs ρ = some (xs, ρ') → xs.length ≤ sizeLine) : PE X (.List es pos) (tEL X.K fun ρ => bnd (fs ρ) fun xs ρ => some (.list xs, ρ)) := by
  refine (pe_lst hr).wk fun σ H Q h => ?_
  obtain ⟨ρ, F, zs, ρ', rep, e, q⟩ := h
  obtain ⟨xs, ρ1, e1, e⟩ := bnd_eq e
  cases e
  refine ⟨ρ, F, zs, ρ', rep, e1, fun vs F1 H1 rep1 st1 rp1 => ⟨by rw [rp1.len]; exact hl _ _ _ e1, fun p hp => ?_⟩⟩
  exact q p vs F1 _ (rep1.layOff hp) (st1.trans (StpE.layOff hp)) (st1.alive p hp) (fresh_back rep1.ex hp) upd_same rp1
theorem l_repl (hr : PA X es (tA X.K fs)) (hl : ∀ ρ xs ρ', fs ρ = some (xs, ρ') → xs.length ≤ sizeLine) (hn : PE X b (tE X.K fb)) {p2 : Pos} :
    PE X (.BinOp (.List es p2) .Mult b pos) (tEL X.K fun ρ => bnd (fs ρ) fun xs ρ => bnd (fb ρ) fun y ρ => match y with
      | .int k => if -(2 ^ 63) ≤ k ∧ k < 2 ^ 63 ∧ xs.length * k.toNat ≤ sizeLine then some (.list (List.replicate k.toNat xs).flatten, ρ) else none
      | _ => none) := by
  refine (pe_op op_rep (pe_lst hr) hn).wk fun σ H Q h => ?_
  obtain ⟨ρ, F, zs, ρ', rep, e, q⟩ := h
  obtain ⟨xs, ρ1, e1, e⟩ := bnd_eq e
  obtain ⟨y, ρ2, e2, e⟩ := bnd_eq e
  have hy : ∃ k, y = .int k := by
    cases y with
    | int k => exact ⟨k, rfl⟩
    | _ => cases e
  obtain ⟨k, rfl⟩ := hy
  simp only at e
  split at e
  · rename_i hc
    cases e
    refine ⟨ρ, F, xs, ρ1, rep, e1, fun vs F1 H1 rep1 st1 rp1 => ⟨by rw [rp1.len]; exact hl _ _ _ e1, fun p hp => ?_⟩⟩
    refine ⟨ρ1, F1, .int k, ρ', rep1.layOff hp, e2, fun v F2 H2 rep2 st2 rp2 => ?_⟩
    cases rp2
    have hH2 : H2 p = some (.lst vs) := st2.fr p _ upd_same (rep1.none_own hp) (fun _ z => by cases z)
    refine ⟨p, k, vs, rfl, rfl, hH2, hc.1, hc.2.1, by rw [rp1.len]; exact hc.2.2, fun p' hp' => ?_⟩
    have st := (st1.trans (StpE.layOff hp)).trans st2
    refine q p' _ F2 _ (rep2.layOff hp') (st.trans (StpE.layOff hp')) (st.alive p' hp') (fresh_back rep2.ex hp') upd_same ?_
    have rp : RpA X.K F2 vs xs := rp1.mono st2.ext
    generalize k.toNat = n
    clear hc
    induction n with
    | zero => exact .nil
    | succ n ih =>
      rw [List.replicate_succ, List.replicate_succ, List.flatten_cons, List.flatten_cons]
      exact rp.append ih
  · cases e
/-- a new list that is not changed any more -/
theorem e_of_L (h : PE X e (tEL X.K f)) (hl : ∀ ρ x ρ', f ρ = some (x, ρ') → ∃ xs, x = .list xs) : PE X e (tE X.K f) := by
  refine h.wk fun σ H Q h => ?_
  obtain ⟨ρ, F, x, ρ', rep, e, q⟩ := h
  obtain ⟨xs, rfl⟩ := hl _ _ _ e
  refine ⟨ρ, F, xs, ρ', rep, e, fun p vs F1 H1 rep1 st1 h0 hf hh ha => ?_⟩
  have no : ¬ Own ρ' σ p := fun o => rep.none_own h0 (st1.str p o)
  refine q _ _ H1 (rep1.frz hh hf no) ⟨⟨st1.ext.trans (Ex.new hf), fun a o hu => ?_, st1.fr, st1.own, st1.alive, st1.pen⟩, st1.str⟩ (.lst (SqL.of upd_same) (ha.mono (Ex.new hf)))
  by_cases hq : a = p
  · subst hq; exact .inr (.inl h0)
  · rw [upd_ne hq] at hu; exact st1.new a o hu
theorem e_ix (ha : PE X a (tE X.K fa)) (hb : PE X b (tE X.K fb)) (hs : PlainIx b) : PE X (.Subscript a b pos) (tE X.K fun ρ => bnd (fa ρ) fun x ρ => bnd (fb ρ) fun y ρ => ret (ixD x y) ρ) := by
  refine (pe_ix ix_any ha hb hs).wk fun σ H Q h => ?_
  obtain ⟨ρ, F, z, ρ', rep, e, q⟩ := h
  obtain ⟨x, ρ1, e1, e⟩ := bnd_eq e
  obtain ⟨y, ρ2, e2, e⟩ := bnd_eq e
  obtain ⟨z', e3, e⟩ := ret_eq e
  cases e
  refine ⟨ρ, F, x, ρ1, rep, e1, fun vx F1 H1 rep1 st1 rp1 => ⟨ρ1, F1, y, ρ', rep1, e2, fun vy F2 H2 rep2 st2 rp2 => ?_⟩⟩
  exact rb_ix rep2 (rp1.mono st2.ext) rp2 e3 fun v F3 H3 rep3 st3 rp3 => q v F3 H3 rep3 ((st1.trans st2).trans st3) rp3
theorem Rep.at_ {K : PySem.W.Frag} {ρ : En} {σ : L2.St} {F H : Hp} {i : Nat} {s : Sv} (r : Rep K ρ σ F H) (h : ρ[i]? = some (some s)) : ∃ v, σ[i]? = some (some v) := by
  cases s with
  | d x => obtain ⟨v, h1, _⟩ := r.dat i x h; exact ⟨v, h1⟩
  | own b xs => obtain ⟨p, _, h1, _⟩ := r.own i b xs h; exact ⟨_, h1⟩
  | x => exact ⟨_, r.xc i h⟩
theorem at_rp {K : PySem.W.Frag} {F : Hp} {vs : List V} {ds : List PyData} {i : Int} {z : PyData} (ha : RpA K F vs ds) (hi : atI ds i = some z) : ∃ v, atI vs i = some v ∧ Rp K F v z := by
  unfold atI at hi ⊢
  rw [ha.len]
  cases hn : ixN ds.length i with
  | none => rw [hn] at hi; cases hi
  | some j =>
    rw [hn] at hi
    exact ha.get hi
/-- x[e], x a list of one's own (or data) that stays so -/
theorem e_oix {x : Str} {i : Nat} {px : Pos} (hN : X.N[i]? = some x) (hv : Vis X.env.scope x) (hd : (x == ("__debug__" : Str)) = false) (hcd : (x == ("__classdict__" : Str)) = false) (hb : PE X b (tE X.K fb)) (hs : PlainIx b) :
    PE X (.Subscript (.Name x px) b pos) (tE X.K fun ρ => match ρ[i]? with
    | some (some _) => bnd (fb ρ) fun y ρ => match ρ[i]? with
      | some (some (Sv.own _ xs)) => ret (ixD (.list xs) y) ρ
      | some (some (Sv.d x)) => ret (ixD x y) ρ
      | _ => none
    | _ => none) := by
  refine (pe_ix ix_any (pe_var hN hv hd hcd) hb hs).wk fun σ H Q h => ?_
  obtain ⟨ρ, F, z, ρ', rep, e, q⟩ := h
  simp only at e
  split at e
  · rename_i sv hsv
    obtain ⟨v, hv0⟩ := rep.at_ hsv
    obtain ⟨y, ρ1, e1, e⟩ := bnd_eq e
    refine ⟨v, hv0, ρ, F, y, ρ1, rep, e1, fun vy F1 H1 rep1 st1 rp1 => ?_⟩
    split at e
    · rename_i bb xs hx
      obtain ⟨z', e3, e⟩ := ret_eq e
      cases e
      obtain ⟨p, vs, h1, h2, h3, h4⟩ := rep1.own i bb xs hx
      rw [hv0] at h1; cases h1
      have hk : ∃ k, y = .int k := by
        cases y with
        | int k => exact ⟨k, rfl⟩
        | _ => cases e3
      obtain ⟨k, rfl⟩ := hk
      cases rp1
      obtain ⟨w, g1, g2⟩ := at_rp h4 e3
      exact .inl ⟨p, vs, k, w, rfl, rfl, SqL.of h3, g1, q w F1 H1 rep1 st1 g2⟩
    · rename_i x' hx
      obtain ⟨z', e3, e⟩ := ret_eq e
      cases e
      obtain ⟨w, h1, h2⟩ := rep1.dat i x' hx
      rw [hv0] at h1; cases h1
      exact rb_ix rep1 h2 rp1 e3 fun v F3 H3 rep3 st3 rp3 => q v F3 H3 rep3 (st1.trans st3) rp3
    · cases e
  · cases e
variable {lo hi : Option Expr} {fl fh : En → Option (Option PyData × En)}
theorem o_none : PO X none (tO X.K fun ρ => some (none, ρ)) := po_none.wk fun σ H Q h => by
  obtain ⟨ρ, F, x, i, ρ', rep, e, e2, q⟩ := h
  cases e
  cases e2
  exact q F H rep StpE.refl
theorem o_some (ha : PE X a (tE X.K fa)) : PO X (some a) (tO X.K fun ρ => bnd (fa ρ) fun x ρ => some (some x, ρ)) := (po_some ha).wk fun σ H Q h => by
  obtain ⟨ρ, F, x, i, ρ', rep, e, e2, q⟩ := h
  obtain ⟨y, ρ1, e1, e⟩ := bnd_eq e
  cases e
  refine ⟨ρ, F, y, ρ', rep, e1, fun v F1 H1 rep1 st1 rp1 => ?_⟩
  cases rp1 <;> simp only [partD] at e2 <;> first | (cases e2; done) | skip
  cases e2
  exact ⟨_, rfl, q F1 H1 rep1 st1⟩
theorem e_sl {p2 : Pos} (ha : PE X a (tE X.K fa)) (hl : PO X lo (tO X.K fl)) (hh : PO X hi (tO X.K fh)) : PE X (.Subscript a (.Slice lo hi none p2) pos) (tE X.K fun ρ => bnd (fa ρ) fun x ρ => bnd (fl ρ) fun l ρ => bnd (fh ρ) fun h ρ => match partD l, partD h with
    | some l, some h => ret (slD x l h) ρ
    | _, _ => none) := by
  refine (pe_slice sl_any ha hl hh).wk fun σ H Q h => ?_
  obtain ⟨ρ, F, z, ρ', rep, e, q⟩ := h
  obtain ⟨x, ρ1, e1, e⟩ := bnd_eq e
  obtain ⟨l, ρ2, e2, e⟩ := bnd_eq e
  obtain ⟨h, ρ3, e3, e⟩ := bnd_eq e
  split at e
  · rename_i l' h' p1 p2
    obtain ⟨z', e4, e⟩ := ret_eq e
    cases e
    refine ⟨ρ, F, x, ρ1, rep, e1, fun vx F1 H1 rep1 st1 rp1 => ⟨ρ1, F1, l, l', ρ2, rep1, e2, p1, fun F2 H2 rep2 st2 => ⟨ρ2, F2, h, h', ρ', rep2, e3, p2, fun F3 H3 rep3 st3 => ?_⟩⟩⟩
    exact sl_rb rep3 ((rp1.mono st2.ext).mono st3.ext) e4 fun v F4 H4 rep4 st4 rp4 => q v F4 H4 rep4 (((st1.trans st2).trans st3).trans st4) rp4
  · cases e
/-! built-ins by their names -/
theorem e_b1 {bb : B1} {p : Pos} (hc : X.calm = true) (hgd : X.A.guards = some []) (hu : X.A.units + 64 < cLine) (hb : ∀ t, bb ≠ .isi t) (hg : Gl X bb.nm) (hm : X.mg bb.nm = none) (ha : PE X a (tE X.K fa))
    (he : starEach [a] X.env = (false, eval a X.env) :: starEach [] X.env) : PE X (.Call (.Name bb.nm p) [a] [] pos) (tE X.K fun ρ => bnd (fa ρ) fun x ρ => ret (b1D bb x) ρ) := by
  obtain ⟨r, hr, rb⟩ := b1_any (X := X) (b := bb) hc hgd hu hb
  have fin : ∀ σ H Q, tE X.K (fun ρ => bnd (fa ρ) fun x ρ => ret (b1D bb x) ρ) σ H Q → tCB r (tCons (tE X.K fa) tNil) σ H Q := fun σ H Q h => by
    obtain ⟨ρ, F, z, ρ', rep, e, q⟩ := h
    obtain ⟨x, ρ1, e1, e⟩ := bnd_eq e
    obtain ⟨z', e3, e⟩ := ret_eq e
    cases e
    exact ⟨ρ, F, x, ρ', rep, e1, fun vx F1 H1 rep1 st1 rp1 => rb rep1 rp1 e3 fun v F2 H2 rep2 st2 rp2 => q v F2 H2 rep2 (st1.trans st2) rp2⟩
  cases bb with
  | isi t => exact absurd rfl (hb t)
  | len => exact (pe_callB (id := "len") hr hg hm (by decide +kernel) (pa_cons ha pa_nil he) (by decide +kernel) (by decide +kernel) he rfl).wk fin
  | abs => exact (pe_callB (id := "abs") hr hg hm (by decide +kernel) (pa_cons ha pa_nil he) (by decide +kernel) (by decide +kernel) he rfl).wk fin
  | all => exact (pe_callB (id := "all") hr hg hm (by decide +kernel) (pa_cons ha pa_nil he) (by decide +kernel) (by decide +kernel) he rfl).wk fin
  | any => exact (pe_callB (id := "any") hr hg hm (by decide +kernel) (pa_cons ha pa_nil he) (by decide +kernel) (by decide +kernel) he rfl).wk fin
  | repr => exact (pe_callB (id := "repr") hr hg hm (by decide +kernel) (pa_cons ha pa_nil he) (by decide +kernel) (by decide +kernel) he rfl).wk fin
  | int => exact (pe_callTy (T := "int") hr hg hm (by decide +kernel) (pa_cons ha pa_nil he) (by decide +kernel) (by decide +kernel) he rfl).wk fin
  | tuple => exact (pe_callTy (T := "tuple") hr hg hm (by decide +kernel) (pa_cons ha pa_nil he) (by decide +kernel) (by decide +kernel) he rfl).wk fin
  | str => exact (pe_callTy (T := "str") hr hg hm (by decide +kernel) (pa_cons ha pa_nil he) (by decide +kernel) (by decide +kernel) he rfl).wk fin
  | srt => exact (pe_callB (id := "sorted") hr hg hm (by decide +kernel) (pa_cons ha pa_nil he) (by decide +kernel) (by decide +kernel) he rfl).wk fin
  | list => exact (pe_callTy (T := "list") hr hg hm (by decide +kernel) (pa_cons ha pa_nil he) (by decide +kernel) (by decide +kernel) he rfl).wk fin
theorem e_isi {t : Ty} {p p2 : Pos} (hg : Gl X "isinstance") (hm : X.mg "isinstance" = none) (hgt : Gl X t.nm) (hmt : X.mg t.nm = none) (ha : PE X a (tE X.K fa))
    (he : starEach [a, .Name t.nm p2] X.env = (false, eval a X.env) :: starEach [.Name t.nm p2] X.env) : PE X (.Call (.Name "isinstance" p) [a, .Name t.nm p2] [] pos) (tE X.K fun ρ => bnd (fa ρ) fun x ρ => ret (b1D (.isi t) x) ρ) := by
  have hb : bootBuiltins t.nm = some (.type t.nm) := by cases t <;> decide +kernel
  have hT : PE X (.Name t.nm p2) (tC (.ty t.nm)) := pe_bltn (v := .ty t.nm) hgt hmt hb rfl (by cases t <;> decide +kernel) (by cases t <;> decide +kernel)
  refine (pe_callB (id := "isinstance") call_isi hg hm (by decide +kernel) (pa_cons ha (pa_cons hT pa_nil rfl) he) (by decide +kernel) (by decide +kernel) he rfl).wk fun σ H Q h => ?_
  obtain ⟨ρ, F, z, ρ', rep, e, q⟩ := h
  obtain ⟨x, ρ1, e1, e⟩ := bnd_eq e
  obtain ⟨z', e3, e⟩ := ret_eq e
  cases e
  cases e3
  exact ⟨ρ, F, x, ρ', rep, e1, fun vx F1 H1 rep1 st1 rp1 => ⟨vx, .ty t.nm, _, _, _, rfl, .ty _, rp_ty rep1.ex rp1, kit_isi X.K t x, q _ F1 H1 rep1 st1 (.bl _)⟩⟩
theorem e_b2 {bb : B2} {p : Pos} (hc : X.calm = true) (hg : Gl X bb.nm) (hm : X.mg bb.nm = none) (ha : PE X a (tE X.K fa)) (hb : PE X b (tE X.K fb))
    (he : starEach [a, b] X.env = (false, eval a X.env) :: starEach [b] X.env) (he2 : starEach [b] X.env = (false, eval b X.env) :: starEach [] X.env) (hpl : (backTo pos (starEach [b] X.env)).any (·.1) = false) :
    PE X (.Call (.Name bb.nm p) [a, b] [] pos) (tE X.K fun ρ => bnd (fa ρ) fun x ρ => bnd (fb ρ) fun y ρ => ret (b2D bb x y) ρ) := by
  obtain ⟨r, hr, rb⟩ := b2_any (X := X) (b := bb) hc
  have hbt : bootBuiltins bb.nm = some (.builtin bb.nm) := by cases bb <;> decide +kernel
  refine (pe_callB (id := bb.nm) hr hg hm hbt (pa_cons ha (pa_cons hb pa_nil he2) he) (by cases bb <;> decide +kernel) (by cases bb <;> decide +kernel) he hpl).wk fun σ H Q h => ?_
  obtain ⟨ρ, F, z, ρ', rep, e, q⟩ := h
  obtain ⟨x, ρ1, e1, e⟩ := bnd_eq e
  obtain ⟨y, ρ2, e2, e⟩ := bnd_eq e
  obtain ⟨z', e3, e⟩ := ret_eq e
  cases e
  exact ⟨ρ, F, x, ρ1, rep, e1, fun vx F1 H1 rep1 st1 rp1 => ⟨ρ1, F1, y, ρ', rep1, e2, fun vy F2 H2 rep2 st2 rp2 => rb rep2 (rp1.mono st2.ext) rp2 e3 fun v F3 H3 rep3 st3 rp3 => q v F3 H3 rep3 ((st1.trans st2).trans st3) rp3⟩⟩
end
/-! ### count, index -/
section
variable {X : Cx}
def rCntF (K : PySem.W.Frag) : V → List V → Hp → VK → Prop := fun x xs H Q => ∃ (a : Addr) (ys : List V) (y : V), x = V.ref a ∧ xs = [y] ∧ SqL K H a ys ∧ flatV y = true ∧ ys.all flatV = true ∧ Q (.int (ys.countP fun z => eqV z y : Nat)) H
theorem cnt_eqU {y : V} : ∀ {ys : List V} {us : List Value}, Vals ys us → ys.all flatV = true → us.countP (eqU y) = ys.countP fun z => eqV z y
  | _, _, .nil, _ => rfl
  | z :: zs, u :: us, .cons r t, f => by
    rw [List.all_cons, Bool.and_eq_true] at f
    rw [List.countP_cons, List.countP_cons, cnt_eqU t f.2, eqU_of r f.1]
theorem mt_cntF : MtR X "list.count" (rCntF X.K) := by
  intro pins s σ H x xs v us Q I rx rxs h
  obtain ⟨a, ys, y, rfl, rfl, hs, fy, fys, q⟩ := h
  cases rx
  obtain ⟨uy, rfl, ry⟩ := rxs.one
  obtain ⟨its, rv, ⟨⟨cls, dd, data, sl⟩, n, ho, hc, hdn, hd⟩, hlen⟩ := I.list hs
  simp only at hc hd
  subst hc hd
  refine call_meets PySem.F.slot_list_count ⟨_, ho, rfl⟩ PySem.F.entry_list_count (PySem.F.args_list_count_2 _ _)
    (SeqAt.list_countAt a its.toArray n dd sl uy (eqU y)) ⟨ho, fun u' hu' => mem_eqAt ry fy rv fys u' (by simpa using hu'), ?_⟩
  refine ⟨.int (ys.countP fun z => eqV z y : Nat), H, I.tok _, ⟨s.toks, ?_⟩, q⟩
  show Value.int ((its.toArray.toList.countP (eqU y) : Nat) : Int) s.toks = _
  rw [show its.toArray.toList = its from rfl, cnt_eqU rv fys]
end
section
variable {X : Cx} {a b : Expr} {fa fb : En → Option (PyData × En)}
theorem RpA.cnt {K : PySem.W.Frag} {F : Hp} {x : V} {d : PyData} (hx : Rp K F x d) (fx : flat d = true) : ∀ {vs : List V} {ds : List PyData}, RpA K F vs ds → ds.all flat = true → (vs.countP fun z => eqV z x) = ds.countP fun y => PyData.eqv y d
  | _, _, .nil, _ => rfl
  | _, _, .cons h t, f => by
    rw [List.all_cons, Bool.and_eq_true] at f
    rw [List.countP_cons, List.countP_cons, RpA.cnt hx fx t f.2, h.eqV hx f.1 fx]
theorem e_cnt {apos cpos : Pos} (ha : PE X a (tE X.K fa)) (hb : PE X b (tE X.K fb)) (hbase : attributeBase a "count" X.env (eval a X.env) = eval a X.env) (hs : starEach [b] X.env = (false, eval b X.env) :: starEach [] X.env) (hline : (apos.endLine == cpos.line) = true) :
    PE X (.Call (.Attribute a "count" apos) [b] [] cpos) (tE X.K fun ρ => bnd (fa ρ) fun x ρ => bnd (fb ρ) fun y ρ => ret (cntD x y) ρ) := by
  refine (pe_bm PySem.F.plainAttrs_list PySem.F.slot_list_count PySem.F.type_list_count mt_cntF ha (a_cons hb a_nil hs) hbase (by rw [hs]; rfl) hline hs rfl).wk fun σ H Q h => ?_
  obtain ⟨ρ, F, z, ρ', rep, e, q⟩ := h
  obtain ⟨x, ρ1, e1, e⟩ := bnd_eq e
  obtain ⟨y, ρ2, e2, e⟩ := bnd_eq e
  obtain ⟨z', e3, e⟩ := ret_eq e
  cases e
  cases x <;> simp only [cntD] at e3 <;> first | (cases e3; done) | skip
  rename_i xs
  split at e3
  · rename_i hc
    cases e3
    rw [Bool.and_eq_true] at hc
    refine ⟨ρ, F, _, ρ1, rep, e1, fun vx F1 H1 rep1 st1 rp1 => ?_⟩
    cases rp1 with
    | lst h1 h2 =>
      refine ⟨.inl ⟨rfl, _, rep1.exL h1⟩, ρ1, F1, [y], ρ', rep1, by simp only [e2, bnd], fun vs F2 H2 rep2 st2 rp2 => ?_⟩
      obtain ⟨v, rfl, rv⟩ := rp2.inv1
      have h2' := h2.mono st2.ext
      refine ⟨_, _, v, rfl, rfl, rep2.exL (ex_l st2.ext h1), rv.flatV hc.1, h2'.flatA hc.2, ?_⟩
      rw [h2'.cnt rv hc.1 hc.2]
      exact q _ F2 H2 rep2 (st1.trans st2) (.int _)
  · cases e3
theorem RpA.idx {K : PySem.W.Frag} {F : Hp} {x : V} {d : PyData} (hx : Rp K F x d) (fx : flat d = true) : ∀ {vs : List V} {ds : List PyData} {j : Nat}, RpA K F vs ds → ds.all flat = true → (ds.findIdx? fun y => PyData.eqv y d) = some j → (∃ z, vs[j]? = some z ∧ eqV z x = true) ∧ ∀ (m : Nat) (z' : V), m < j → vs[m]? = some z' → eqV z' x = false
  | _, _, _, .nil, _, e => by simp at e
  | v :: vs, y :: ds, j, .cons h t, f, e => by
    rw [List.all_cons, Bool.and_eq_true] at f
    rw [List.findIdx?_cons] at e
    have hq := h.eqV hx f.1 fx
    split at e
    · rename_i ht
      cases e
      exact ⟨⟨v, rfl, hq.trans ht⟩, fun m z' hm => absurd hm (Nat.not_lt_zero m)⟩
    · rename_i hf
      obtain ⟨j', e', rfl⟩ := Option.map_eq_some_iff.mp e
      obtain ⟨⟨z, h1, h2⟩, h3⟩ := RpA.idx hx fx t f.2 e'
      refine ⟨⟨z, by simpa using h1, h2⟩, fun m z' hm hz => ?_⟩
      cases m with
      | zero =>
        simp at hz
        subst hz
        rw [hq]
        simpa using hf
      | succ m => exact h3 m z' (by omega) (by simpa using hz)
theorem e_idx {apos cpos : Pos} (ha : PE X a (tE X.K fa)) (hb : PE X b (tE X.K fb)) (hbase : attributeBase a "index" X.env (eval a X.env) = eval a X.env) (hs : starEach [b] X.env = (false, eval b X.env) :: starEach [] X.env) (hline : (apos.endLine == cpos.line) = true) :
    PE X (.Call (.Attribute a "index" apos) [b] [] cpos) (tE X.K fun ρ => bnd (fa ρ) fun x ρ => bnd (fb ρ) fun y ρ => ret (idxD x y) ρ) := by
  refine (pe_bm PySem.F.plainAttrs_list PySem.F.slot_list_index PySem.F.type_list_index mt_index ha (a_cons hb a_nil hs) hbase (by rw [hs]; rfl) hline hs rfl).wk fun σ H Q h => ?_
  obtain ⟨ρ, F, z, ρ', rep, e, q⟩ := h
  obtain ⟨x, ρ1, e1, e⟩ := bnd_eq e
  obtain ⟨y, ρ2, e2, e⟩ := bnd_eq e
  obtain ⟨z', e3, e⟩ := ret_eq e
  cases e
  cases x <;> simp only [idxD] at e3 <;> first | (cases e3; done) | skip
  rename_i xs
  split at e3
  · rename_i hc
    obtain ⟨j, e4, rfl⟩ := Option.map_eq_some_iff.mp e3
    rw [Bool.and_eq_true] at hc
    refine ⟨ρ, F, _, ρ1, rep, e1, fun vx F1 H1 rep1 st1 rp1 => ?_⟩
    cases rp1 with
    | lst h1 h2 =>
      refine ⟨.inl ⟨rfl, _, rep1.exL h1⟩, ρ1, F1, [y], ρ', rep1, by simp only [e2, bnd], fun vs F2 H2 rep2 st2 rp2 => ?_⟩
      obtain ⟨v, rfl, rv⟩ := rp2.inv1
      have h2' := h2.mono st2.ext
      obtain ⟨⟨z, g1, g2⟩, g3⟩ := h2'.idx rv hc.1 hc.2 e4
      exact ⟨_, _, v, j, z, rfl, rfl, rep2.exL (ex_l st2.ext h1), rv.flatV hc.1, h2'.flatA hc.2, g1, g2, g3, q _ F2 H2 rep2 (st1.trans st2) (.int _)⟩
  · cases e3
end
end Wh

set_option Elab.async false
set_option linter.all false
set_option maxRecDepth 100000
set_option maxHeartbeats 1000000
set_option exponentiation.threshold 5000
/-! Wh7b: enumerate and zip over lists and tuples in any mix. -/
namespace Wh
open PySem PySem.Spec PyProof.Rows L2 Evl
variable [Tbl]

inductive Sk where
  | l | t
def SqK (K : PySem.W.Frag) (k : Sk) (H : Hp) (a : Addr) (xs : List V) : Prop := match k with
  | .l => SqL K H a xs
  | .t => SqT K H a xs
def IsItK (k : Sk) (h : Heap) (it a : Addr) (i : Nat) : Prop := match k with
  | .l => h.IsListIter it a i
  | .t => h.IsTupleIter it a i
def IsSqK (k : Sk) (h : Heap) (a : Addr) (items : Array Value) : Prop := match k with
  | .l => h.IsList a items
  | .t => h.IsTuple a items
def itObj (k : Sk) (a : Addr) : Obj := match k with
  | .l => { cls := .type "list_iterator", data := .fields #[.ref a, .int 0 0] }
  | .t => { cls := .type "tuple_iterator", data := .fields #[.ref a, .int 0 0] }
theorem drawsK (k : Sk) {prog : Program} {w : World} {A : Around} (hh : A.handled = none) (it a : Addr) (hne : a ≠ it) (items : Array Value) :
    Draws prog w A it [it, a] items.size (fun i v => items[i]? = some v) (fun i h => IsItK k h it a i ∧ IsSqK k h a items) := by
  cases k
  · exact Draws.list hh it a hne items
  · exact Draws.tuple hh it a hne items
theorem beginsK (k : Sk) (a : Addr) (items : Array Value) : Begins (.ref a) (itObj k a) fun h => IsSqK k h a items := by
  cases k
  · exact begins_list a items
  · exact begins_tuple a items
theorem itK_obj {k : Sk} {h : Heap} {it a : Addr} {i : Nat} (s : IsItK k h it a i) : ∃ o, h.get? it = some o ∧ ∀ v, o.data ≠ .cell v := by
  cases k with
  | l => obtain ⟨o, e, _, d⟩ := s; exact ⟨o, e, fun v q => by rw [d] at q; cases q⟩
  | t => obtain ⟨o, e, _, d⟩ := s; exact ⟨o, e, fun v q => by rw [d] at q; cases q⟩
theorem itK_at {k : Sk} {h h' : Heap} {it a : Addr} {i : Nat} (s : IsItK k h it a i) (e : ∀ o, h.get? it = some o → h'.get? it = some o) : IsItK k h' it a i := by
  cases k with
  | l => obtain ⟨o, q, r⟩ := s; exact ⟨o, e o q, r⟩
  | t => obtain ⟨o, q, r⟩ := s; exact ⟨o, e o q, r⟩
theorem itK_of {k : Sk} {h : Heap} {it a : Addr} (e : h.get? it = some (itObj k a)) : IsItK k h it a 0 := by
  cases k
  · exact ⟨_, e, rfl, rfl⟩
  · exact ⟨_, e, rfl, rfl⟩
theorem sqK_lt {k : Sk} {h : Heap} {a : Addr} {items : Array Value} (s : IsSqK k h a items) : a < h.objs.size := by
  cases k with
  | l => obtain ⟨o, e, _⟩ := s; exact Heap.lt_size e
  | t => obtain ⟨o, e, _⟩ := s; exact Heap.lt_size e
section
variable {X : Cx} {pins : List (Addr × Obj)} {σ : L2.St} {H : Hp} {s : Shared} {a : Addr} {xs ys : List V}
theorem inv_sqK {k : Sk} (I : Inv X pins σ H s) (h : SqK X.K k H a xs) : ∃ its : List Value, Vals xs its ∧ IsSqK k s.heap a its.toArray := by
  cases k with
  | l => obtain ⟨its, r, p, _⟩ := I.list h; exact ⟨its, r, p.isList⟩
  | t => obtain ⟨its, r, p, _⟩ := I.tuple h; exact ⟨its, r, p⟩
theorem inv_injK {k : Sk} (I : Inv X pins σ H s) (h : SqK X.K k H a xs) (h' : SqK X.K k H a ys) : xs = ys := by
  cases k with
  | l => exact I.list_inj h h'
  | t => exact I.tuple_inj h h'
end
theorem exK {K : PySem.W.Frag} {k : Sk} {F H : Hp} (e : Ex F H) {a : Addr} {xs : List V} (h : SqK K k F a xs) : SqK K k H a xs := by
  cases k with
  | l => exact ex_l e h
  | t => exact ex_t e h

/-! ### enumerate -/
def JE (K : PySem.W.Frag) (k : Sk) (a : Addr) (b : Int) : It :=
  ⟨fun i H => ∃ (xs : List V) (x : V), SqK K k H a xs ∧ xs[i]? = some x,
   fun i H v H' => ∃ T x, v = .ref T ∧ H T = none ∧ H' = upd H T (.tup [.int (b + (i : Nat)), x]) ∧ ∀ xs, SqK K k H a xs → xs[i]? = some x,
   fun i H => ∃ xs : List V, SqK K k H a xs ∧ xs.length = i⟩
theorem turn_JE {P : Program} {w : World} {K : PySem.W.Frag} {elts : List Expr} {kk : Nat} {tpos : Pos} {k : Sk} {b : Int} (a e it : Addr) (hne : e ≠ it) (hae : a ≠ e) (hai : a ≠ it) :
    Turn P w K (.Tuple elts kk tpos) (JE K k a b) [e, it] e (fun i h => (∃ old, IsEnum h e it (b + (i : Nat)) old) ∧ IsItK k h it a i ) where
  mem := by simp
  obj := fun i h st c hc => by
    obtain ⟨⟨old, he⟩, hi⟩ := st
    rcases (by simpa using hc : c = e ∨ c = it) with rfl | rfl
    · exact ⟨_, he, fun v q => nomatch q⟩
    · exact itK_obj hi
  keep := fun i h h' st q => by
    obtain ⟨⟨old, he⟩, hi⟩ := st
    exact ⟨⟨old, q e (by simp) _ he⟩, itK_at hi fun o z => q it (by simp) o z⟩
  item := by
    intro X hP hw hK hc i pins s σ H E I hf st hg
    subst hP hw hK
    obtain ⟨⟨old, he⟩, hit⟩ := st
    obtain ⟨xs, x, hq, hx⟩ := hg
    obtain ⟨its, rv, p⟩ := inv_sqK I hq
    obtain ⟨u, hu, ru⟩ := rv.get hx
    have hhd : X.A.in1.handled = none := by simp [I.ok.hd hc]
    have G := GoesN.enumFrom (prog := X.prog) (w := X.w) (A := X.A) (elts := elts) (x1 := kk) (pos := tpos) b (drawsK k hhd it a hai its.toArray) e hne (by simp [hne, hae.symm]) (by simp)
    have hi : i < its.toArray.size := by
      have := lt_of_get hu
      simpa using this
    refine wpAny_mono (G.goes i s (fun v s2 => ∃ x' H', Inv X pins σ H' s2 ∧ RelV x' v ∧ (JE X.K k a b).yld i H x' H' ∧ ((∃ old, IsEnum s2.heap e it (b + ((i + 1 : Nat) : Int)) old) ∧ IsItK k s2.heap it a (i + 1)) ∧ ∀ c ∈ [e, it], H' c = none) E hi ⟨⟨old, he⟩, hit, p⟩ fun v h' tk hY st' hk htk => ?_) (fun r s1 q => ?_) fun _ _ z => z
    · obtain ⟨T, t, y, rfl, hT, hy, hTup⟩ := hY
      obtain ⟨he', hit', _⟩ := st'
      have hy' : y = u := by
        have h1 : its.toArray[i]? = some u := by simpa using hu
        rw [h1] at hy; cases hy; rfl
      subst hy'
      have new : ObjOk X.prog X.w (upd H T (.tup [.int (b + (i : Nat)), x])) h' T (.tup [.int (b + (i : Nat)), x]) :=
        ⟨by show 2 ≤ sizeLine; decide, [.int (b + (i : Int)) t, y], .cons ⟨_, rfl⟩ (.cons ru .nil), hTup⟩
      have hTn : ∀ c ∈ [e, it], c ≠ T := fun c hc z => by
        subst z
        rcases (by simpa using hc : c = e ∨ c = it) with rfl | rfl
        · exact Nat.lt_irrefl _ (Nat.lt_of_lt_of_le (Heap.lt_size he) hT)
        · obtain ⟨o, eo, _⟩ := itK_obj hit
          exact Nat.lt_irrefl _ (Nat.lt_of_lt_of_le (Heap.lt_size eo) hT)
      have I1 := I.turnedNew (t' := tk) (h' := h') (ch := [e, it]) hk hf hT new
      refine ⟨.ref T, _, I1, rfl, ⟨T, x, rfl, I.hok.fresh hT, rfl, fun zs hz => by rw [inv_injK I hz hq]; exact hx⟩, ⟨he', hit'⟩, fun c hc => ?_⟩
      rw [upd_ne (hTn c hc)]
      exact (hf c hc).1
    · obtain ⟨v, rfl, q⟩ := q
      exact ⟨v, rfl, q⟩
  done := by
    intro X hP hw hK hc i pins s σ H E I hf st hg
    subst hP hw hK
    obtain ⟨⟨old, he⟩, hit⟩ := st
    obtain ⟨xs, hq, rfl⟩ := hg
    obtain ⟨its, rv, p⟩ := inv_sqK I hq
    have hhd : X.A.in1.handled = none := by simp [I.ok.hd hc]
    have hl : xs.length = its.toArray.size := by simpa using rv.length
    rw [hl] at hit
    exact wpAny_pyNext_enum_endD (drawsK k hhd it a hai its.toArray) he ⟨hit, p⟩ fun h' hx => ⟨rfl, I.turnedL (t' := s.toks) (ch := [e, it]) (fun c o hc q => hx c o (fun z => hc (by simp [z])) q) hf⟩
  self := fun A i s Q E st h => by
    obtain ⟨⟨old, he⟩, _⟩ := st
    exact wpAny_pyIter_enum he h
theorem meets_en1 {v : Value} {o : Obj} {H : Heap → Prop} (B : Begins v o H) :
    Meets (Builtin.«enumerate.__new__» ⟨[.type "enumerate", v], []⟩) (fun _ R s => H s.heap ∧ R (.ok (.ret (.ref (s.heap.push o).objs.size)))
      { s with heap := (s.heap.push o).push { cls := .type "enumerate", data := .fields #[.none, .bool false, .ref s.heap.objs.size, rawInt 0, .none, .none] } }) := .of_wp fun prog w A R s h => by
    obtain ⟨hp, g, d, tk, os⟩ := s
    obtain ⟨h1, h⟩ := h
    have hsub := sub_enumerate
    have q1 : ∀ {A' : Around} {E : Value → Shared → Prop} {Q : Value → Shared → Prop}, Q (.ref hp.objs.size) ⟨hp.push o, g, d, tk, os⟩ → wpAny (model prog w) A' (pyIter v) Q E ⟨hp, g, d, tk, os⟩ := fun q => B.iter prog w _ _ ⟨hp, g, d, tk, os⟩ _ h1 q
    wp_walk using q1
    refine wpAny_stack_any fun st => wpAny_pure ?_
    split
    · rename_i c _ _ _ _ _
      cases (c == Value.type "enumerate") <;> (wp_walk using q1; exact ⟨_, rfl, h⟩)
    · (wp_walk using q1; exact ⟨_, rfl, h⟩)
theorem en1_begins {prog : Program} {w : World} {A : Around} {E : Value → Shared → Prop} {s : Shared} {v : Value} {o : Obj} {H : Heap → Prop} {Q : Value → Shared → Prop} (B : Begins v o H) (h1 : H s.heap)
    (h : ∀ h', IsEnum h' (s.heap.objs.size + 1) s.heap.objs.size 0 .none → h'.get? s.heap.objs.size = some o → (∀ b u, s.heap.get? b = some u → h'.get? b = some u) → Q (.ref (s.heap.objs.size + 1)) { s with heap := h' }) :
    wpAny (model prog w) A (call (.type "enumerate") [v]) Q E s := by
  refine callType_new F.called_enumerate (by decide) (F.typeCall_enumerate_1 _) (F.newCall_enumerate_1 _) (fun obj => F.args_object_init_2 obj _) F.entry_enumerate_new (meets_en1 B) ⟨h1, ?_⟩
  have hz : (s.heap.push o).objs.size = s.heap.objs.size + 1 := Heap.size_push ..
  show _ ∧ _
  rw [hz]
  have he : IsEnum ((s.heap.push o).push { cls := .type "enumerate", data := .fields #[.none, .bool false, .ref s.heap.objs.size, rawInt 0, .none, .none] }) (s.heap.objs.size + 1) s.heap.objs.size 0 .none := by
    have z := Heap.get?_push_size (s.heap.push o) (o := { cls := .type "enumerate", data := .fields #[.none, .bool false, .ref s.heap.objs.size, rawInt 0, .none, .none] }) rfl
    rw [hz] at z
    exact z
  exact ⟨⟨_, he, rfl⟩, h _ he (Heap.get?_push_of_some _ (Heap.get?_push_size _ B.free)) fun b u x => Heap.get?_push_of_some _ (Heap.get?_push_of_some _ x)⟩
def iEn (K : PySem.W.Frag) (ta : TA) : TI := fun σ H R => ta σ H fun vs H1 => ∃ k a xs, vs = [.ref a] ∧ SqK K k H1 a xs ∧ R (JE K k a 0) H1
theorem pi_en {X : Cx} {e : Expr} {ta : TA} {p pos tpos : Pos} {elts : List Expr} {kk : Nat} (hg : Gl X "enumerate") (hm : X.mg "enumerate" = none) (ha : PA X [e] ta) (hs : starEach [e] X.env = [(false, eval e X.env)]) :
    PI X (.Tuple elts kk tpos) (.Call (.Name "enumerate" p) [e] [] pos) (iEn X.K ta) := by
  refine ⟨fun pins s σ H R I h => ?_⟩
  refine Call_ (ld_blt I hg hm boot_enumerate (PyProof.Rows.callWith_type1 (thn (ha.run pos pins s σ H _ I h) fun us s1 ⟨vs, H1, I1, r1, q1⟩ => ?_) hs rfl))
  obtain ⟨k, a, xs, rfl, hq, q⟩ := q1
  obtain ⟨u, rfl, ru⟩ := vals1 r1
  cases ru
  obtain ⟨its, rv, p'⟩ := inv_sqK I1 hq
  refine en1_begins (beginsK k a its.toArray) p' fun h' he hit hk => wpAny_pyIter_enum he ?_
  have hlt := sqK_lt p'
  have I2 : Inv X pins σ H1 { s1 with heap := h' } := I1.kept (t' := s1.toks) hk
  refine ⟨s1.heap.objs.size + 1, [s1.heap.objs.size + 1, s1.heap.objs.size], _, _, H1, rfl, I2, turn_JE a (s1.heap.objs.size + 1) s1.heap.objs.size (Nat.succ_ne_self _) (Nat.ne_of_lt (Nat.lt_succ_of_lt hlt)) (Nat.ne_of_lt hlt), ⟨⟨.none, he⟩, itK_of hit⟩, fun c hc => ?_, q⟩
  have hle : s1.heap.objs.size ≤ c := by
    rcases (by simpa using hc : c = s1.heap.objs.size + 1 ∨ c = s1.heap.objs.size) with z | z
    · rw [z]; exact Nat.le_succ _
    · rw [z]; exact Nat.le_refl _
  exact I1.fpOk hle (I1.hok.fresh hle)

/-! ### zip -/
def JZ (K : PySem.W.Frag) (k1 k2 : Sk) (a b : Addr) : It :=
  ⟨fun i H => ∃ (xs ys : List V) (x y : V), SqK K k1 H a xs ∧ SqK K k2 H b ys ∧ xs[i]? = some x ∧ ys[i]? = some y,
   fun i H v H' => ∃ T x y, v = .ref T ∧ H T = none ∧ H' = upd H T (.tup [x, y]) ∧ (∀ xs, SqK K k1 H a xs → xs[i]? = some x) ∧ ∀ ys, SqK K k2 H b ys → ys[i]? = some y,
   fun i H => ∃ xs ys : List V, SqK K k1 H a xs ∧ SqK K k2 H b ys ∧ min xs.length ys.length = i⟩
structure Ap (a b z TI TO i1 i2 : Addr) : Prop where
  sep : ZipSep2 z TI TO i1 i2 [i1, a] [i2, b]
  h1 : a ≠ i1
  h2 : b ≠ i2
theorem turn_JZ {P : Program} {w : World} {K : PySem.W.Frag} {elts : List Expr} {kk : Nat} {tpos : Pos} {k1 k2 : Sk} {a b z TI TO i1 i2 : Addr} (S : Ap a b z TI TO i1 i2) :
    Turn P w K (.Tuple elts kk tpos) (JZ K k1 k2 a b) [z, TI, TO, i1, i2] z (fun i h => IsZip h z TI TO .none ∧ IsTupOf2 h TI (.ref i1) (.ref i2) ∧ (∃ u v, IsTupOf2 h TO u v) ∧ IsItK k1 h i1 a i ∧ IsItK k2 h i2 b i) where
  mem := by simp
  obj := fun i h st c hc => by
    obtain ⟨hz, hTI, ⟨u, v, hTO⟩, h1, h2⟩ := st
    rcases (by simpa using hc : c = z ∨ c = TI ∨ c = TO ∨ c = i1 ∨ c = i2) with q | q | q | q | q <;> rw [q]
    · exact ⟨_, hz, fun v q => nomatch q⟩
    · exact ⟨_, hTI, fun v q => nomatch q⟩
    · exact ⟨_, hTO, fun v q => nomatch q⟩
    · exact itK_obj h1
    · exact itK_obj h2
  keep := fun i h h' st q => by
    obtain ⟨hz, hTI, ⟨u, v, hTO⟩, h1, h2⟩ := st
    exact ⟨q z (by simp) _ hz, q TI (by simp) _ hTI, ⟨u, v, q TO (by simp) _ hTO⟩, itK_at h1 fun o e => q i1 (by simp) o e, itK_at h2 fun o e => q i2 (by simp) o e⟩
  item := by
    intro X hP hw hK hc i pins s σ H E I hf st hg
    subst hP hw hK
    obtain ⟨hz, hTI, hTO, hi1, hi2⟩ := st
    obtain ⟨xs, ys, x, y, hqx, hqy, hx, hy⟩ := hg
    obtain ⟨its, rv, p1⟩ := inv_sqK I hqx
    obtain ⟨its2, rv2, p2⟩ := inv_sqK I hqy
    obtain ⟨u, hu, ru⟩ := rv.get hx
    obtain ⟨u2, hu2, ru2⟩ := rv2.get hy
    have hhd : X.A.in1.handled = none := by simp [I.ok.hd hc]
    have G := GoesN.zip2 (prog := X.prog) (w := X.w) (A := X.A) (elts := elts) (x1 := kk) (pos := tpos) S.sep (drawsK k1 hhd i1 a S.h1 its.toArray) (drawsK k2 hhd i2 b S.h2 its2.toArray)
    have hi : i < min its.toArray.size its2.toArray.size := by
      have := lt_of_get hu
      have := lt_of_get hu2
      simp
      omega
    have live : ∀ c ∈ [z, TI, TO, i1, i2], ∃ o, s.heap.get? c = some o := fun c hc => by
      obtain ⟨u', v', hTO'⟩ := hTO
      rcases (by simpa using hc : c = z ∨ c = TI ∨ c = TO ∨ c = i1 ∨ c = i2) with q | q | q | q | q <;> rw [q]
      · exact ⟨_, hz⟩
      · exact ⟨_, hTI⟩
      · exact ⟨_, hTO'⟩
      · obtain ⟨o, e, _⟩ := itK_obj hi1; exact ⟨o, e⟩
      · obtain ⟨o, e, _⟩ := itK_obj hi2; exact ⟨o, e⟩
    have hwr : ∀ c, c ∉ [z, TI, TO, i1, i2] → c ∉ [z, TO, i1, i2] := fun c hc q => hc (by
      rcases (by simpa using q : c = z ∨ c = TO ∨ c = i1 ∨ c = i2) with e | e | e | e <;> simp [e])
    refine wpAny_mono (G.goes i s (fun v s2 => ∃ x' H', Inv X pins σ H' s2 ∧ RelV x' v ∧ (JZ X.K k1 k2 a b).yld i H x' H' ∧ (IsZip s2.heap z TI TO .none ∧ IsTupOf2 s2.heap TI (.ref i1) (.ref i2) ∧ (∃ u v, IsTupOf2 s2.heap TO u v) ∧ IsItK k1 s2.heap i1 a (i + 1) ∧ IsItK k2 s2.heap i2 b (i + 1)) ∧ ∀ c ∈ [z, TI, TO, i1, i2], H' c = none) E hi ⟨hz, hTI, hTO, ⟨hi1, p1⟩, hi2, p2⟩ fun v h' tk hY st' hk htk => ?_) (fun r s1 q => ?_) fun _ _ z => z
    · obtain ⟨T, y1, y2, rfl, hT, hy1, hy2, hTup⟩ := hY
      obtain ⟨g1, g2, g3, ⟨g4, _⟩, g5, _⟩ := st'
      have e1 : y1 = u := by
        have h1 : its.toArray[i]? = some u := by simpa using hu
        rw [h1] at hy1; cases hy1; rfl
      have e2 : y2 = u2 := by
        have h1 : its2.toArray[i]? = some u2 := by simpa using hu2
        rw [h1] at hy2; cases hy2; rfl
      subst e1 e2
      have new : ObjOk X.prog X.w (upd H T (.tup [x, y])) h' T (.tup [x, y]) := ⟨by show 2 ≤ sizeLine; decide, [y1, y2], .cons ru (.cons ru2 .nil), hTup⟩
      have I1 := I.turnedNew (t' := tk) (h' := h') (ch := [z, TI, TO, i1, i2]) (fun c o hc q => hk c o (hwr c hc) q) hf hT new
      refine ⟨.ref T, _, I1, rfl, ⟨T, x, y, rfl, I.hok.fresh hT, rfl, (fun zs h => by rw [inv_injK I h hqx]; exact hx), fun zs h => by rw [inv_injK I h hqy]; exact hy⟩, ⟨g1, g2, g3, g4, g5⟩, fun c hc => ?_⟩
      have hn : c ≠ T := fun e => by
        obtain ⟨o, ho⟩ := live c hc
        rw [e] at ho
        exact Nat.lt_irrefl _ (Nat.lt_of_lt_of_le (Heap.lt_size ho) hT)
      rw [upd_ne hn]
      exact (hf c hc).1
    · obtain ⟨v, rfl, q⟩ := q
      exact ⟨v, rfl, q⟩
  done := by
    intro X hP hw hK hc i pins s σ H E I hf st hg
    subst hP hw hK
    obtain ⟨hz, hTI, hTO, hi1, hi2⟩ := st
    obtain ⟨xs, ys, hqx, hqy, rfl⟩ := hg
    obtain ⟨its, rv, p1⟩ := inv_sqK I hqx
    obtain ⟨its2, rv2, p2⟩ := inv_sqK I hqy
    have hhd : X.A.in1.handled = none := by simp [I.ok.hd hc]
    have G := GoesN.zip2 (prog := X.prog) (w := X.w) (A := X.A) (elts := elts) (x1 := kk) (pos := tpos) S.sep (drawsK k1 hhd i1 a S.h1 its.toArray) (drawsK k2 hhd i2 b S.h2 its2.toArray)
    have hl : min xs.length ys.length = min its.toArray.size its2.toArray.size := by
      rw [rv.length, rv2.length]; simp
    rw [hl] at hi1 hi2
    refine wpAny_mono (G.stops s (fun s1 => Inv X pins σ H s1) E ⟨hz, hTI, hTO, ⟨hi1, p1⟩, hi2, p2⟩ fun h' tk hk htk => I.turnedL (t' := tk) (ch := [z, TI, TO, i1, i2]) (fun c o hc q => hk c o (fun q => hc (by
      rcases (by simpa using q : c = z ∨ c = TO ∨ c = i1 ∨ c = i2) with e | e | e | e <;> simp [e])) q) hf) (fun r s1 q => q) fun _ _ z => z
  self := fun A i s Q E st h => wpAny_pyIter_zip st.1 h
def iZp (K : PySem.W.Frag) (ta : TA) : TI := fun σ H R => ta σ H fun vs H1 => ∃ k1 k2 a b xs ys, vs = [.ref a, .ref b] ∧ SqK K k1 H1 a xs ∧ SqK K k2 H1 b ys ∧ R (JZ K k1 k2 a b) H1
theorem pi_zp {X : Cx} {e e2 : Expr} {ta : TA} {p pos tpos : Pos} {elts : List Expr} {kk : Nat} (hg : Gl X "zip") (hm : X.mg "zip" = none) (ha : PA X [e, e2] ta)
    (hs : starEach [e, e2] X.env = (false, eval e X.env) :: starEach [e2] X.env) (hpl : (backTo pos (starEach [e2] X.env)).any (·.1) = false) : PI X (.Tuple elts kk tpos) (.Call (.Name "zip" p) [e, e2] [] pos) (iZp X.K ta) := by
  refine ⟨fun pins s σ H R I h => ?_⟩
  refine Call_ (ld_blt I hg hm PyProof.Rows.boot_zip (PyProof.Rows.callWith_type1 (thn (ha.run pos pins s σ H _ I h) fun us s1 ⟨vs, H1, I1, r1, q1⟩ => ?_) hs hpl))
  obtain ⟨k1, k2, a, b, xs, ys, rfl, hqx, hqy, q⟩ := q1
  obtain ⟨u1, u2, rfl, ru1, ru2⟩ := vals2 r1
  cases ru1
  cases ru2
  obtain ⟨its, rv, p1⟩ := inv_sqK I1 hqx
  obtain ⟨its2, rv2, p2⟩ := inv_sqK I1 hqy
  have l1 := sqK_lt p1
  have l2 := sqK_lt p2
  refine zip_begins2 (beginsK k1 a its.toArray) (beginsK k2 b its2.toArray) p1 p2 fun h' hz hTI hTO h1 h2 hsz hk => wpAny_pyIter_zip hz ?_
  have I2 : Inv X pins σ H1 { s1 with heap := h' } := I1.kept (t' := s1.toks) hk
  have S : Ap a b (s1.heap.objs.size + 4) (s1.heap.objs.size + 2) (s1.heap.objs.size + 3) s1.heap.objs.size (s1.heap.objs.size + 1) :=
    ⟨zip_sep2 (fun c hc => by rw [List.mem_singleton.mp hc]; exact l1) (fun c hc => by rw [List.mem_singleton.mp hc]; exact l2), Nat.ne_of_lt l1, Nat.ne_of_lt (Nat.lt_succ_of_lt l2)⟩
  refine ⟨s1.heap.objs.size + 4, [s1.heap.objs.size + 4, s1.heap.objs.size + 2, s1.heap.objs.size + 3, s1.heap.objs.size, s1.heap.objs.size + 1], _, _, H1, rfl, I2, turn_JZ S, ⟨hz, hTI, ⟨_, _, hTO⟩, itK_of h1, itK_of h2⟩, fun c hc => ?_, q⟩
  have hle : s1.heap.objs.size ≤ c := by
    rcases (by simpa using hc : c = s1.heap.objs.size + 4 ∨ c = s1.heap.objs.size + 2 ∨ c = s1.heap.objs.size + 3 ∨ c = s1.heap.objs.size ∨ c = s1.heap.objs.size + 1) with z | z | z | z | z <;> rw [z]
    · exact Nat.le_add_right _ _
    · exact Nat.le_add_right _ _
    · exact Nat.le_add_right _ _
    · exact Nat.le_refl _
    · exact Nat.le_add_right _ _
  exact I1.fpOk hle (I1.hok.fresh hle)
end Wh

set_option Elab.async false
set_option linter.all false
set_option maxRecDepth 100000
set_option maxHeartbeats 1000000
set_option exponentiation.threshold 5000
/-! Wh7c: sorted, set, divmod, str. -/
namespace Wh
open PySem PySem.Spec PyProof.Rows L2 Evl
variable [Tbl]

section
variable {P : Program} {w : World} {A : Around} {E : Value → Shared → Prop} {s : Shared}
abbrev newSet (w : World) : Obj := { cls := .type "set", dict := none, data := .set #[] 0 (.fresh 0 0 (!w.params.followText "set-order")) }
set_option maxHeartbeats 3200000 in
/-- set(l), l a list of ints -/
theorem set_lst {l : Addr} {items : Array Value} (ns : List Int) {Q : Value → Shared → Prop} (hh : A.handled = none) (hl : s.heap.IsList l items) (hit : IntsAre items.toList ns) (hb : ns.length + 1 < scanBound)
    (h : ∀ (h' : Heap) (tk c : Nat), SetR w h' s.heap.objs.size (fun j => decide (j ∈ ns)) c → c ≤ ns.length → (∀ b o, s.heap.get? b = some o → h'.get? b = some o) → Q (.ref s.heap.objs.size) { s with heap := h', toks := tk }) :
    wpAny (model P w) A (call (.type "set") [.ref l]) Q E s := by
  have hisz : items.size = ns.length := by rw [← Array.length_toList]; exact IntsAre.length hit
  obtain ⟨c0, tl0, hmro⟩ := F.called_set.mro
  have k1 := F.called_set.made
  have k2 := F.called_set.sub
  refine wpAny_call (codeAny_of_tree (show wpAny _ _ (callAny (.type "set") _) _ _ _ from ?_))
  refine wpAny_pure ⟨Code.quiet_builtin _ (by decide +kernel), codeAny_builtin F.entry_type_call ?_⟩
  rw [Around.under_plain (weight_type_call_type "set" [.ref l] []) rfl]
  have k3 := F.called_set.notType
  have k4 := F.called_set.canCreate
  have k5 := F.typeCall_set_1 (.ref l)
  repeat (any_goals (first | assumption | wp_step))
  refine codeAny_mono (code_set_led1 (.ref l) (E := E) (Q₁ := fun obj s₁ => obj = .ref s.heap.objs.size ∧ s₁ = { s with heap := s.heap.push (newSet w) }) ⟨rfl, rfl⟩) fun r s₁ hr => ?_
  match r, hr with
  | .ok (.ret obj), hr =>
    obtain ⟨rfl, rfl⟩ := hr
    have hS : (s.heap.push (newSet w)).get? s.heap.objs.size = some (newSet w) := Heap.get?_push_size _ rfl
    have hT : Shared.TypeIs { s with heap := s.heap.push (newSet w) } (.ref s.heap.objs.size) "set" := ⟨_, hS, rfl⟩
    have k6 := F.called_set.init.lookup
    have k7 := F.called_set.init.bind (.ref s.heap.objs.size)
    repeat (any_goals (first | assumption | wp_step))
    refine codeAny_mono (codeAny_call_builtin (R := wants (fun r s₂ => r = .none ∧ ∃ h' tk c, s₂ = { s with heap := h', toks := tk } ∧ SetR w h' s.heap.objs.size (fun j => decide (j ∈ ns)) c ∧ c ≤ ns.length ∧ (∀ b o, s.heap.get? b = some o → h'.get? b = some o)) E)
      F.called_set.init.plain F.entry_set_init (check_set_init_1 hT ?_)) fun r₂ s₂ hr₂ => ?_
    · obtain ⟨⟨ocls, odict, odata, oslots⟩, hol, hcl, nl, hdl⟩ := hl
      simp only at hcl hdl
      subst hcl hdl
      have hol' := Heap.get?_push_of_some (newSet w) hol
      have k8 := F.sub_list_set
      have k9 := F.sub_list_frozenset
      have k10 : (Value.type "list" == Value.type "dict") = false := by decide
      have hl1 : (s.heap.push (newSet w)).IsList l items := ⟨_, hol', rfl, nl, rfl⟩
      unfold Builtin.«set.__init__» noKeywords Builtin.Frozenset.updateFrom
      generalize hPI : pyIter = PI
      wp_walk
      subst hPI
      refine wpAny_pyIter_list hl1 (wpAny_bind (wpAny_runValue ?_))
      have hlS : l < s.heap.objs.size := Heap.lt_size hol
      have hh3 : A.in1.in1.in1.handled = none := by simp [hh]
      have z1 : (s.heap.push (newSet w)).objs.size = s.heap.objs.size + 1 := Heap.size_push ..
      have n1 : l ≠ (s.heap.push (newSet w)).objs.size := by rw [z1]; exact Nat.ne_of_lt (Nat.lt_succ_of_lt hlS)
      have n2 : s.heap.objs.size ∉ [(s.heap.push (newSet w)).objs.size, l] := by
        rw [z1]
        simp only [List.mem_cons, List.not_mem_nil, or_false, not_or]
        exact ⟨Nat.ne_of_lt (Nat.lt_succ_self _), Nat.ne_of_gt hlS⟩
      have hval : ∀ (i : Nat) (v : Value), items[i]? = some v → ∃ k t, ns[i]? = some k ∧ v = .int k t := fun i v hv => by
        have hi : i < ns.length := hisz ▸ (Array.getElem?_eq_some_iff.mp hv).1
        obtain ⟨t, e⟩ := PyProof.Rows.IntsAre.int_at hit i v (by rw [Array.getElem?_toList]; exact hv)
        refine ⟨ns[i], t, List.getElem?_eq_getElem hi, ?_⟩
        rw [e, List.getD_eq_getElem?_getD, List.getElem?_eq_getElem hi] <;> rfl
      refine set_update_ints ((Walks.list hh3 _ l n1 items).toS) s.heap.objs.size n2 ns hisz hb hval (items.size - 0) 0 _ (by omega) (Nat.zero_le _) ⟨⟨_, Heap.get?_push_size _ rfl, rfl, rfl⟩, hl1.push _⟩ ⟨0, Nat.le_refl 0, setR_new_at (Heap.get?_push_of_some _ hS)⟩ fun s' c' hm hc' hS' => ?_
      obtain ⟨h', g2, d', tk', os'⟩ := s'
      obtain rfl : g2 = s.gens := hm.gens
      obtain rfl : d' = s.drawn := hm.drawn
      obtain rfl : os' = s.os := hm.os
      refine wpAny_pure (show wpAny _ _ (PySem.ret Value.none) _ _ _ from wpAny_pure ⟨rfl, h', tk', c', rfl, hS', hisz ▸ hc', fun b o e => ?_⟩)
      have hb0 : b < s.heap.objs.size := Heap.lt_size e
      refine hm.heap b o ?_ (Heap.get?_push_of_some _ (Heap.get?_push_of_some _ e))
      simp only [List.mem_cons, List.not_mem_nil, or_false, not_or, z1]
      exact ⟨Nat.ne_of_lt hb0, Nat.ne_of_lt (Nat.lt_succ_of_lt hb0)⟩
    · match r₂, hr₂ with
      | .ok (.ret r), hr₂ =>
        obtain ⟨rfl, h', tk, c', rfl, hS', hc', hk'⟩ := hr₂
        repeat (any_goals (first | assumption | wp_step))
        exact h _ _ _ hS' hc' hk'
      | .error _, hr₂ => exact hr₂
      | .ok .next, hr₂ => exact hr₂.elim
      | .ok .brk, hr₂ => exact hr₂.elim
      | .ok .cont, hr₂ => exact hr₂.elim
  | .error _, hr => exact hr
  | .ok .next, hr => exact hr.elim
  | .ok .brk, hr => exact hr.elim
  | .ok .cont, hr => exact hr.elim
end
section
variable {X : Cx}
theorem ints_vals : ∀ {ns : List Int} {us : List Value}, Vals (ns.map V.int) us → IntsAre us ns := fun h => RZ.intsAre_vals h
def rSetI (K : PySem.W.Frag) (w : World) : List V → Hp → VK → Prop := fun vs H Q => ∃ (k : Sk) (a : Addr) (ns : List Int), vs = [V.ref a] ∧ SqK K k H a (ns.map V.int) ∧ ns.length < 64 ∧ ∀ p n, H p = none → n ≤ ns.length → Q (.ref p) (upd H p (SetO w p (fun j => decide (j ∈ ns)) n))
theorem cr_setI (hc : X.calm = true) : CallR X (.type "set") (rSetI X.K X.w) := by
  intro pins s σ H xs us Q I r h
  obtain ⟨k, a, ns, rfl, hs, hl, q⟩ := h
  obtain ⟨u, rfl, ru⟩ := vals1 r
  cases ru
  obtain ⟨its, rv, p⟩ := inv_sqK I hs
  have hb : ns.length + 1 < scanBound := by unfold scanBound; omega
  have fin : ∀ (h' : Heap) (tk c : Nat), SetR X.w h' s.heap.objs.size (fun j => decide (j ∈ ns)) c → c ≤ ns.length → (∀ b o, s.heap.get? b = some o → h'.get? b = some o) → EP X pins σ Q (.ref s.heap.objs.size) { s with heap := h', toks := tk } := fun h' tk c hS hc hk =>
    ⟨.ref _, _, I.laid (t' := tk) hk (Nat.le_refl _) (setO_new hS), rfl, q _ c (I.hok.fresh (Nat.le_refl _)) hc⟩
  cases k with
  | l => exact set_lst ns (I.ok.hd hc) p (by simpa using ints_vals rv) hb fin
  | t => exact call_set_tupI ns (I.ok.hd hc) p (by simpa using ints_vals rv) hb fin
end

end Wh

set_option Elab.async false
set_option linter.all false
set_option maxRecDepth 100000
set_option maxHeartbeats 1000000
set_option exponentiation.threshold 5000
/-! Wh7d: sorted(set(x)), tuple(range(n)), membership, new lists. -/
namespace Wh
open PySem PySem.Spec PyProof.Rows L2 Evl
variable [Tbl]

section
variable {X : Cx} {c : Cfg} {pos : Pos} {a b : Expr} {fa fb : En → Option (PyData × En)}
/-- sorted(set(a)) -/
theorem l_srs {p p2 pos2 : Pos} (hc : X.calm = true) (hg : Gl X "sorted") (hm : X.mg "sorted" = none) (hg2 : Gl X "set") (hm2 : X.mg "set" = none) (ha : PE X a (tE X.K fa)) (he : starEach [a] X.env = (false, eval a X.env) :: starEach [] X.env) :
    PE X (.Call (.Name "sorted" p) [.Call (.Name "set" p2) [a] [] pos2] [] pos) (tEL X.K fun ρ => bnd (fa ρ) fun x ρ => ret (srsD x) ρ) := by
  have h1 := pe_callTy (pos := pos2) (p := p2) (T := "set") (cr_setI hc) hg2 hm2 (by decide +kernel) (pa_cons ha pa_nil he) (by decide +kernel) (by decide +kernel) he rfl
  refine (pe_callB (id := "sorted") (cr_sortedSet hc) hg hm (by decide +kernel) (pa_cons h1 pa_nil rfl) (by decide +kernel) (by decide +kernel) rfl rfl).wk fun σ H Q h => ?_
  obtain ⟨ρ, F, zs, ρ', rep, e, q⟩ := h
  obtain ⟨x, ρ1, e1, e⟩ := bnd_eq e
  obtain ⟨z', e3, e⟩ := ret_eq e
  cases e
  refine ⟨ρ, F, x, ρ', rep, e1, fun vx F1 H1 rep1 st1 rp1 => ?_⟩
  have key : ∀ (k : Sk) (a : Addr) (vs : List V) (ds : List PyData), vx = .ref a → SqK X.K k F1 a vs → RpA X.K F1 vs ds → srsL ds = some (.list zs) → rSetI X.K X.w [vx] H1 fun x2 H2 => rSortedSet X.w [x2] H2 Q := fun k a vs ds hv hs hr hl => by
    unfold srsL at hl
    cases hi : intsD ds with
    | none => rw [hi] at hl; cases hl
    | some ns =>
      rw [hi] at hl
      simp only at hl
      split at hl
      · rename_i hlen
        cases hl
        rw [ints_eq hi] at hr
        rw [hr.ints] at hs
        refine ⟨k, a, ns, by rw [hv], exK rep1.ex hs, hlen, fun p n hp hn => ⟨p, _, n, rfl, upd_same, by omega, fun ms p' hs1 hs2 hs3 hp' => ?_⟩⟩
        have e : ms = srtU ns := strict_uniq hs1 (srtU_srt ns) fun z => by
          rw [hs2 z, srtU_mem]; simp
        subst e
        have hp0 : H1 p' = none := upd_none' hp'
        have st2 : StpE ρ' σ F1 H1 ρ' F1 (upd H1 p (SetO X.w p (fun j => decide (j ∈ ns)) n)) := StpE.layOff hp
        exact q p' _ F1 _ ((rep1.layOff hp).layOff hp') ((st1.trans st2).trans (StpE.layOff hp')) (st1.alive p' hp0) (fresh_back rep1.ex hp0) upd_same (RpA.ofInts _)
      · cases hl
  cases rp1 <;> simp only [srsD] at e3 <;> first | (cases e3; done) | skip
  · rename_i a vs ds h2 h3
    exact key .l a vs ds rfl h2 h3 e3
  · rename_i a vs ds h2 h3
    exact key .t a vs ds rfl h2 h3 e3
/-- tuple(range(a)) -/
theorem e_trg {p p2 pos2 : Pos} (hc : X.calm = true) (hg : Gl X "tuple") (hm : X.mg "tuple" = none) (hg2 : Gl X "range") (hm2 : X.mg "range" = none) (ha : PE X a (tE X.K fa)) (he : starEach [a] X.env = (false, eval a X.env) :: starEach [] X.env) :
    PE X (.Call (.Name "tuple" p) [.Call (.Name "range" p2) [a] [] pos2] [] pos) (tE X.K fun ρ => bnd (fa ρ) fun x ρ => ret (trgD x) ρ) := by
  refine (pe_tupRg hc hg hm (prg_1 hg2 hm2 ha he) rfl).wk fun σ H Q h => ?_
  obtain ⟨ρ, F, z, ρ', rep, e, q⟩ := h
  obtain ⟨x, ρ1, e1, e⟩ := bnd_eq e
  obtain ⟨z', e3, e⟩ := ret_eq e
  cases e
  refine ⟨ρ, F, x, ρ', rep, e1, fun vx F1 H1 rep1 st1 rp1 => ?_⟩
  cases rp1 <;> simp only [trgD] at e3 <;> first | (cases e3; done) | skip
  rename_i n
  split at e3
  · rename_i hn
    cases e3
    refine ⟨n, rfl, ⟨by omega, by omega, by omega, by omega, by omega⟩, fun p' hp' => ?_⟩
    refine layT rep1 (fun v F2 H2 rep2 st2 rp2 => q v F2 H2 rep2 (st1.trans st2) rp2) hp' ?_
    unfold rgV
    rw [show n - 0 = n by omega]
    generalize n.toNat = m
    have : ∀ l : List Nat, RpA X.K F1 (l.map fun i => V.int (0 + (i : Nat))) (l.map fun (k : Nat) => PyData.int (k : Int)) := fun l => by
      induction l with
      | nil => exact .nil
      | cons k l ih =>
        refine .cons ?_ ih
        show Rp X.K F1 (V.int (0 + (k : Int))) (PyData.int (k : Int))
        rw [Int.zero_add]
        exact .int _
    exact this _
  · cases e3
/-- x in l, l a list of one's own that stays so -/
theorem e_oin {neg : Bool} {op : CmpOp} {x : Str} {i : Nat} {px : Pos} (hop : op = if neg then .NotIn else .In) (hN : X.N[i]? = some x) (hv : Vis X.env.scope x) (hd : (x == ("__debug__" : Str)) = false) (hcd : (x == ("__classdict__" : Str)) = false) (ha : PE X a (tE X.K fa)) :
    PE X (.Compare a [op] [.Name x px] pos) (tE X.K fun ρ => bnd (fa ρ) fun x ρ => match ρ[i]? with
    | some (some (Sv.own _ xs)) => bnd (ret (inD x xs) ρ) fun r ρ => some (.bool (if neg then !r else r), ρ)
    | some (some (Sv.d y)) => bnd (ret (cmpD (if neg then .nin else .inn) x y) ρ) fun r ρ => some (.bool r, ρ)
    | _ => none) := by
  have ho : OpR X (compareOp op) (rIn X.K neg) := by
    cases neg <;> subst hop
    · exact op_in_seq
    · exact op_notIn_seq
  refine (pe_cmpR ho ha (pe_var hN hv hd hcd) (by subst hop; cases neg <;> rfl)).wk fun σ H Q h => ?_
  obtain ⟨ρ, F, z, ρ', rep, e, q⟩ := h
  obtain ⟨y, ρ1, e1, e⟩ := bnd_eq e
  refine ⟨ρ, F, y, ρ1, rep, e1, fun vx F1 H1 rep1 st1 rp1 => ?_⟩
  split at e
  · rename_i bb xs hx
    obtain ⟨r, ρ2, e2, e⟩ := bnd_eq e
    obtain ⟨r', e3, e4⟩ := ret_eq e2
    cases e4
    cases e
    obtain ⟨p, vs, h1, h2, h3, h4⟩ := rep1.own i bb xs hx
    refine ⟨_, h1, ?_⟩
    unfold inD at e3
    split at e3
    · rename_i hc
      rw [Bool.and_eq_true] at hc
      cases e3
      refine ⟨p, vs, rfl, .inl (SqL.of h3), rp1.flatV hc.1, h4.flatA hc.2, ?_⟩
      rw [RpA.inV rp1 hc.1 h4 hc.2]
      have := q (.bl (if neg then !(xs.any fun z => PyData.eqv z y) else xs.any fun z => PyData.eqv z y)) F1 H1 rep1 st1 (.bl _)
      exact this
    · cases e3
  · rename_i y' hx
    obtain ⟨r, ρ2, e2, e⟩ := bnd_eq e
    obtain ⟨r', e3, e4⟩ := ret_eq e2
    cases e4
    cases e
    obtain ⟨w, h1, h2⟩ := rep1.dat i y' hx
    exact ⟨w, h1, rbc_in (neg := neg) rfl rep1 rp1 h2 e3 (q _ F1 H1 rep1 st1 (.bl _))⟩
  · cases e
theorem t_oin {neg : Bool} {op : CmpOp} {x : Str} {i : Nat} {px : Pos} (hop : op = if neg then .NotIn else .In) (hN : X.N[i]? = some x) (hv : Vis X.env.scope x) (hd : (x == ("__debug__" : Str)) = false) (hcd : (x == ("__classdict__" : Str)) = false) (ha : PE X a (tE X.K fa)) :
    PT X (.Compare a [op] [.Name x px] pos) (tT X.K fun ρ => bnd (bnd (fa ρ) fun x ρ => match ρ[i]? with
    | some (some (Sv.own _ xs)) => bnd (ret (inD x xs) ρ) fun r ρ => some (.bool (if neg then !r else r), ρ)
    | some (some (Sv.d y)) => bnd (ret (cmpD (if neg then .nin else .inn) x y) ρ) fun r ρ => some (.bool r, ρ)
    | _ => none) fun x ρ => ret (truD x) ρ) := by
  have ho : OpR X (compareOp op) (rIn X.K neg) := by
    cases neg <;> subst hop
    · exact op_in_seq
    · exact op_notIn_seq
  refine (pt_cmpR ho ha (pe_var hN hv hd hcd) (by subst hop; cases neg <;> rfl)).wk fun σ H Q h => ?_
  obtain ⟨ρ, F, z, ρ', rep, e, q⟩ := h
  obtain ⟨w0, ρ0, e, e'⟩ := bnd_eq e
  obtain ⟨z0, g1, g2⟩ := ret_eq e'
  cases g2
  obtain ⟨y, ρ1, e1, e⟩ := bnd_eq e
  refine ⟨ρ, F, y, ρ1, rep, e1, fun vx F1 H1 rep1 st1 rp1 => ?_⟩
  split at e
  · rename_i bb xs hx
    obtain ⟨r, ρ2, e2, e⟩ := bnd_eq e
    obtain ⟨r', e3, e4⟩ := ret_eq e2
    cases e4
    cases e
    cases g1
    obtain ⟨p, vs, h1, h2, h3, h4⟩ := rep1.own i bb xs hx
    refine ⟨_, h1, ?_⟩
    unfold inD at e3
    split at e3
    · rename_i hc
      rw [Bool.and_eq_true] at hc
      cases e3
      refine ⟨p, vs, rfl, .inl (SqL.of h3), rp1.flatV hc.1, h4.flatA hc.2, ?_⟩
      rw [RpA.inV rp1 hc.1 h4 hc.2]
      exact ⟨_, rfl, q F1 H1 rep1 st1⟩
    · cases e3
  · rename_i y' hx
    obtain ⟨r, ρ2, e2, e⟩ := bnd_eq e
    obtain ⟨r', e3, e4⟩ := ret_eq e2
    cases e4
    cases e
    cases g1
    obtain ⟨w, h1, h2⟩ := rep1.dat i y' hx
    exact ⟨w, h1, rbc_in (neg := neg) rfl rep1 rp1 h2 e3 ⟨_, rfl, q F1 H1 rep1 st1⟩⟩
  · cases e
/-- len(l), l a list of one's own that stays so -/
theorem e_olen {x : Str} {i : Nat} {p px : Pos} (hg : Gl X "len") (hm : X.mg "len" = none) (hN : X.N[i]? = some x) (hv : Vis X.env.scope x) (hd : (x == ("__debug__" : Str)) = false) (hcd : (x == ("__classdict__" : Str)) = false) :
    PE X (.Call (.Name "len" p) [.Name x px] [] pos) (tE X.K fun ρ => match ρ[i]? with
    | some (some (Sv.own _ xs)) => some (.int xs.length, ρ)
    | some (some (Sv.d y)) => ret (b1D .len y) ρ
    | _ => none) := by
  refine (pe_callB (id := "len") (call_len_seq.or call_len_str) hg hm (by decide +kernel) (pa_cons (pe_var hN hv hd hcd) pa_nil rfl) (by decide +kernel) (by decide +kernel) rfl rfl).wk fun σ H Q h => ?_
  obtain ⟨ρ, F, z, ρ', rep, e, q⟩ := h
  simp only at e
  split at e
  · rename_i bb xs hx
    cases e
    obtain ⟨p, vs, h1, h2, h3, h4⟩ := rep.own i bb xs hx
    refine ⟨_, h1, .inl ⟨p, vs, rfl, .inl (SqL.of h3), ?_⟩⟩
    rw [h4.len]
    exact q _ F H rep StpE.refl (.int _)
  · rename_i y' hx
    obtain ⟨z', e3, e⟩ := ret_eq e
    cases e
    obtain ⟨w, h1, h2⟩ := rep.dat i y' hx
    refine ⟨w, h1, ?_⟩
    cases h2 <;> simp only [b1D] at e3 <;> first | (cases e3; done) | skip
    · split at e3
      · cases e3
        exact .inr ⟨_, rfl, by assumption, q _ F H rep StpE.refl (.int _)⟩
      · cases e3
    · rename_i a vs ds g1 g2
      cases e3
      exact .inl ⟨a, vs, rfl, .inl (rep.exL g1), by rw [g2.len]; exact q _ F H rep StpE.refl (.int _)⟩
    · rename_i a vs ds g1 g2
      cases e3
      exact .inl ⟨a, vs, rfl, .inr (rep.exT g1), by rw [g2.len]; exact q _ F H rep StpE.refl (.int _)⟩
  · cases e
/-- a + b, a new list -/
theorem l_cat (ha : PE X a (tE X.K fa)) (hb : PE X b (tE X.K fb)) : PE X (.BinOp a .Add b pos) (tEL X.K fun ρ => bnd (fa ρ) fun x ρ => bnd (fb ρ) fun y ρ => ret (binD .add x y) ρ) := by
  refine (pe_op op_catL ha hb).wk fun σ H Q h => ?_
  obtain ⟨ρ, F, zs, ρ', rep, e, q⟩ := h
  obtain ⟨x, ρ1, e1, e⟩ := bnd_eq e
  obtain ⟨y, ρ2, e2, e⟩ := bnd_eq e
  obtain ⟨z', e3, e⟩ := ret_eq e
  cases e
  refine ⟨ρ, F, x, ρ1, rep, e1, fun vx F1 H1 rep1 st1 rp1 => ⟨ρ1, F1, y, ρ', rep1, e2, fun vy F2 H2 rep2 st2 rp2 => ?_⟩⟩
  have rp1' := rp1.mono st2.ext
  cases x <;> cases y <;> simp only [binD] at e3 <;> first | (cases e3; done) | (split at e3 <;> first | (cases e3; done) | skip)
  · cases rp1' with
    | lst h1 h2 => cases rp2 with
      | lst h3 h4 =>
        rename_i hz _ _ _ _
        cases e3
        have st := st1.trans st2
        exact ⟨_, _, _, _, rfl, rfl, rep2.exL h1, rep2.exL h3, by rw [h2.len, h4.len]; exact hz, fun p hp => q p _ F2 _ (rep2.layOff hp) (st.trans (StpE.layOff hp)) (st.alive p hp) (fresh_back rep2.ex hp) upd_same (h2.append h4)⟩
/-- list(a), a new list -/
theorem l_list {p : Pos} (hg : Gl X "list") (hm : X.mg "list" = none) (ha : PE X a (tE X.K fa)) (he : starEach [a] X.env = (false, eval a X.env) :: starEach [] X.env) : PE X (.Call (.Name "list" p) [a] [] pos) (tEL X.K fun ρ => bnd (fa ρ) fun x ρ => ret (b1D .list x) ρ) := by
  refine (pe_callTy (T := "list") call_list_of hg hm (by decide +kernel) (pa_cons ha pa_nil he) (by decide +kernel) (by decide +kernel) he rfl).wk fun σ H Q h => ?_
  obtain ⟨ρ, F, zs, ρ', rep, e, q⟩ := h
  obtain ⟨x, ρ1, e1, e⟩ := bnd_eq e
  obtain ⟨z', e3, e⟩ := ret_eq e
  cases e
  refine ⟨ρ, F, x, ρ', rep, e1, fun vx F1 H1 rep1 st1 rp1 => ?_⟩
  cases rp1 <;> simp only [b1D] at e3 <;> first | (cases e3; done) | skip
  · rename_i a vs ds h1 h2
    cases e3
    exact ⟨a, vs, rfl, .inl (rep1.exL h1), fun p hp => q p _ F1 _ (rep1.layOff hp) (st1.trans (StpE.layOff hp)) (st1.alive p hp) (fresh_back rep1.ex hp) upd_same h2⟩
  · rename_i a vs ds h1 h2
    cases e3
    exact ⟨a, vs, rfl, .inr (rep1.exT h1), fun p hp => q p _ F1 _ (rep1.layOff hp) (st1.trans (StpE.layOff hp)) (st1.alive p hp) (fresh_back rep1.ex hp) upd_same h2⟩
end
end Wh

set_option Elab.async false
set_option linter.all false
set_option maxRecDepth 100000
set_option maxHeartbeats 1000000
set_option exponentiation.threshold 5000
/-! Wh7e: x[::-1] of tuples and lists. -/
namespace Wh
open PySem PySem.Spec PyProof.Rows L2 Evl HT
variable [Tbl]
section
variable {prog : Program} {w : World} {A : Around} {E : Value → Shared → Prop} {s : Shared}
theorem rev_pick (xs : Array Value) : ((List.range xs.size).filterMap fun (k : Nat) => xs[((xs.size : Int) - 1 + (k : Int) * (-1)).toNat]?).toArray = xs.toList.reverse.toArray := by
  have e : (fun (k : Nat) => xs[((xs.size : Int) - 1 + (k : Int) * (-1)).toNat]?) = fun k => (fun j => xs[j]?) ((fun k => xs.size - 1 - k) k) := by
    funext k
    have : ((xs.size : Int) - 1 + (k : Int) * (-1)).toNat = xs.size - 1 - k := by omega
    rw [this]
  rw [e]
  have e2 : (List.range xs.size).filterMap (fun k => (fun j => xs[j]?) ((fun k => xs.size - 1 - k) k)) = ((List.range xs.size).map fun k => xs.size - 1 - k).filterMap (fun j => xs[j]?) := by
    rw [List.filterMap_map]; rfl
  rw [e2, PySem.W.krv_range, List.filterMap_reverse, PySem.W.krv_all]
theorem sliceApplied_rev {sl : Addr} {vl vu vs : Value} {n : Nat} {Q : Int × Int × Nat → Shared → Prop} (hs : s.heap.IsSliceOf sl vl vu vs) (pl : IsPart vl none) (pu : IsPart vu none) (ps : IsPart vs (some (-1)))
    (h : Q ((n : Int) - 1, -1, n) s) : wpAny (model prog w) A (Builtin.Slice.sliceApplied (.ref sl) (pure (n : Int))) Q E s := by
  obtain ⟨os, hos, hcs, hds⟩ := id hs
  unfold Builtin.Slice.sliceApplied Builtin.Slice.sliceFields
  refine wpAny_bind (wpAny_bind (wpAny_field hos hds (x := vl) rfl (wpAny_bind (wpAny_field hos hds (x := vu) rfl (wpAny_bind (wpAny_field hos hds (x := vs) rfl (wpAny_pure ?_)))))))
  refine wpAny_bind (slicePart_ ps ?_)
  show wpAny _ _ (if ((-1 : Int) == 0) = true then _ else _) _ _ s
  rw [if_neg (by decide)]
  refine wpAny_bind (slicePart_ pl (wpAny_bind (slicePart_ pu (wpAny_bind (wpAny_pure ?_)))))
  have e : Builtin.Slice.sliceAdjust none none (-1) (n : Int) = ((n : Int) - 1, -1) := rfl
  have e2 : Builtin.Slice.slicePlaces ((n : Int) - 1) (-1) (-1) = n := by
    unfold Builtin.Slice.slicePlaces
    rw [if_neg (by decide)]
    by_cases h : (n : Int) - 1 > -1
    · rw [if_pos h, show (- -1 : Int) = 1 by decide, Int.ediv_one]
      omega
    · rw [if_neg h]
      omega
  show wpAny _ _ (match Builtin.Slice.sliceAdjust none none (-1) (n : Int) with | (lo, hi) => pure (lo, (-1 : Int), Builtin.Slice.slicePlaces lo hi (-1))) _ _ s
  rw [e]
  show wpAny _ _ (pure ((n : Int) - 1, (-1 : Int), Builtin.Slice.slicePlaces ((n : Int) - 1) (-1) (-1))) _ _ s
  rw [e2]
  exact wpAny_pure h
theorem getItem_tuple_rev {t sl : Addr} {items : Array Value} {vl vu vs : Value} {Q : Value → Shared → Prop} (ht : IsTup s.heap t items) (hs : s.heap.IsSliceOf sl vl vu vs) (pl : IsPart vl none) (pu : IsPart vu none) (ps : IsPart vs (some (-1)))
    (h : Q (.ref s.heap.objs.size) { s with heap := s.heap.push { cls := .type "tuple", data := .seq items.toList.reverse.toArray } })
    (hsz : items.size ≤ sizeLine) : wpAny (model prog w) A (getItem (.ref t) (.ref sl)) Q E s := by
  have htake : sizeOk (.seq items.toList.reverse.toArray) := by
    show items.toList.reverse.toArray.size ≤ sizeLine
    rw [List.size_toArray, List.length_reverse, Array.length_toList]
    omega
  obtain ⟨os, hos, hcs, hds⟩ := id hs
  have hTs : s.TypeIs (.ref sl) "slice" := ⟨os, hos, hcs⟩
  unfold getItem
  try with_reducible refine wpAny_holding ?_
  first | refine wpAny_bind (wpAny_pure ?_) | skip
  refine wpAny_bind (wpAny_sequenceKey ht.typeIs (by decide) ?_)
  refine wpAny_bind (wpAny_callSpecial?_slot (name := Str.ofString "__getitem__") ht.typeIs PyProof.Rows.slot_tuple_getitem
    (wpAny_call_entry PyProof.Rows.slot_tuple_getitem ht.typeIs entry_tuple_getitem ?_ (args_tuple_getitem _ _)))
  show wpAny _ _ (Builtin.Tuple.tupleItemsOf (.ref t) >>= _) _ _ s
  refine wpAny_bind (tupleItemsOf_ ht ?_)
  refine wpAny_bind (wpAny_typeOf hTs ?_)
  rw [if_pos (by decide)]
  refine wpAny_bind (sliceApplied_rev hs pl pu ps ?_)
  show wpAny _ _ (if (((items.size : Int) - 1) == 0 && (-1 : Int) == 1 && items.size == items.size) = true then _ else _) _ _ s
  rw [if_neg (by simp), rev_pick]
  first
    | exact wpAny_bind (m := Builtin.Tuple.tupleExact _) (wpAny_newObj_type (wpAny_pure ⟨_, rfl, wpAny_pure h⟩) htake)
    | exact wpAny_bind (m := Builtin.Tuple.tupleExact _) (wpAny_newObj_type (wpAny_bind (wpAny_pure (wpAny_pure ⟨_, rfl, wpAny_pure h⟩))) htake)
end
section
variable {X : Cx} {c : Cfg} {pos : Pos} {a b : Expr} {fa fb : En → Option (PyData × En)}
def tRevT (K : PySem.W.Frag) (te : TE) : TE := fun σ H Q => te σ H fun x H1 => ∃ a xs, x = .ref a ∧ SqT K H1 a xs ∧ ∀ p, H1 p = none → Q (.ref p) (upd H1 p (.tup xs.reverse))
theorem pe_revT {e : Expr} {te : TE} {k : Nat} {p1 p2 p3 pos : Pos} (he : PE X e te) : PE X (.Subscript e (.Slice none none (some (.UnaryOp .USub (.Constant (.int 1) k p1) p2)) p3) pos) (tRevT X.K te) := by
  refine ⟨fun pins s σ H Q I h => ?_⟩
  refine Subscript_ (thn (he.run pins s σ H _ I h) fun v s1 ⟨x, H1, I1, r1, q1⟩ => ?_)
  obtain ⟨a, xs, ex, hx, q⟩ := q1
  subst ex
  cases r1
  have hst : PO X (some (.UnaryOp .USub (.Constant (.int 1) k p1) p2)) (tPart (tUn (rU fun i => .int (-i)) (tC (.int 1)))) := po_some (pe_un un_neg pe_int)
  refine wpAny_Slice (thn (po_none.run pins s1 σ H1 (fun o H2 => o = none ∧ H2 = H1) I1 ⟨rfl, rfl⟩) fun vl s2 ⟨l, H2, I2, pl, el, e2⟩ => ?_)
  subst el e2
  refine thn (po_none.run pins s2 σ H2 (fun o H3 => o = none ∧ H3 = H2) I2 ⟨rfl, rfl⟩) fun vu s3 ⟨u, H3, I3, pu, eu, e3⟩ => ?_
  subst eu e3
  refine thn (hst.run pins s3 σ H3 (fun o H4 => o = some (-1) ∧ H4 = H3) I3 ⟨1, rfl, -1, rfl, rfl, rfl⟩) fun vs s4 ⟨o, H4, I4, ps, eo, e4⟩ => ?_
  subst eo e4
  have I5 : Inv X pins σ H4 { s4 with heap := s4.heap.push { cls := .type "slice", data := .fields #[vl, vu, vs] } } := I4.kept (t' := s4.toks) fun b ob q => Heap.get?_push_of_some _ q
  obtain ⟨its, r, ht, hz⟩ := I5.tuple hx
  have hlen := r.length
  show wpAny (model X.prog X.w) X.A (subscriptTail e (.Slice none none (some (.UnaryOp .USub (.Constant (.int 1) k p1) p2)) p3) (.ref a) (.ref s4.heap.objs.size)) (EP X pins σ Q) X.xe { s4 with heap := s4.heap.push { cls := .type "slice", data := .fields #[vl, vu, vs] } }
  refine tail_any (ops := [.ref a, .ref s4.heap.objs.size]) ht.typeIs (PyProof.Rows.slot_tuple_getitem.lookup) ?_ (by with_unfolding_all rfl)
  refine getItem_tuple_rev ht (Heap.IsSliceOf.new _ vl vu vs) pl pu ps ?_ (by rw [List.size_toArray]; omega)
  refine ⟨.ref _, _, I5.laid (t' := s4.toks) (o := .tup xs.reverse) (fun b ob q => Heap.get?_push_of_some _ q) (Nat.le_refl _) ?_, rfl, q _ (I5.hok.fresh (Nat.le_refl _))⟩
  exact ⟨by rw [List.length_reverse]; exact hz, _, r.reverse, IsTup.new _ _⟩
theorem RpA.reverse {K : PySem.W.Frag} {F : Hp} : ∀ {vs : List V} {ds : List PyData}, RpA K F vs ds → RpA K F vs.reverse ds.reverse
  | _, _, .nil => .nil
  | _, _, .cons h t => by
    rw [List.reverse_cons, List.reverse_cons]
    exact (RpA.reverse t).append (RpA.one h)
theorem e_rev {k : Nat} {p1 p2 p3 : Pos} (ha : PE X a (tE X.K fa)) : PE X (.Subscript a (.Slice none none (some (.UnaryOp .USub (.Constant (.int 1) k p1) p2)) p3) pos) (tE X.K fun ρ => bnd (fa ρ) fun x ρ => ret (revD x) ρ) := by
  have h1 := pe_revL (k := k) (p1 := p1) (p2 := p2) (p3 := p3) (pos := pos) ha
  have h2 := pe_revT (k := k) (p1 := p1) (p2 := p2) (p3 := p3) (pos := pos) ha
  refine ⟨fun pins s σ H Q I h => ?_⟩
  obtain ⟨ρ, F, z, ρ', rep, e, q⟩ := h
  obtain ⟨x, ρ1, e1, e⟩ := bnd_eq e
  obtain ⟨z', e3, e⟩ := ret_eq e
  cases e
  cases x <;> simp only [revD] at e3 <;> first | (cases e3; done) | skip
  · cases e3
    refine h1.run pins s σ H Q I ⟨ρ, F, _, ρ', rep, e1, fun vx F1 H1 rep1 st1 rp1 => ?_⟩
    cases rp1
    rename_i a vs h2 h3
    exact ⟨a, vs, rfl, rep1.exL h2, fun p hp => layL rep1 (fun v F2 H2 rep2 st2 rp2 => q v F2 H2 rep2 (st1.trans st2) rp2) hp h3.reverse⟩
  · cases e3
    refine h2.run pins s σ H Q I ⟨ρ, F, _, ρ', rep, e1, fun vx F1 H1 rep1 st1 rp1 => ?_⟩
    cases rp1
    rename_i a vs h2 h3
    exact ⟨a, vs, rfl, rep1.exT h2, fun p hp => layT rep1 (fun v F2 H2 rep2 st2 rp2 => q v F2 H2 rep2 (st1.trans st2) rp2) hp h3.reverse⟩
end
end Wh

set_option Elab.async false
set_option linter.all false
set_option maxRecDepth 100000
set_option maxHeartbeats 1000000
set_option exponentiation.threshold 5000
/-! Wh8: iterables, targets, comprehensions. -/
namespace Wh
open PySem PySem.Spec PyProof.Rows L2 Evl
variable [Tbl]

/-! ### what is walked -/
/-- J goes over the items, as they stand in F -/
structure Wlk (K : PySem.W.Frag) (J : It) (F : Hp) (items : List PyData) : Prop where
  go : ∀ (i : Nat) (F1 H1 : Hp), Ex F F1 → Ex F1 H1 → i < items.length → J.go i H1
  yld : ∀ (i : Nat) (F1 H1 : Hp) (x : V) (H' : Hp) (d : PyData), Ex F F1 → Ex F1 H1 → items[i]? = some d → J.yld i H1 x H' → (H' = H1 ∧ Rp K F1 x d) ∨ ∃ (T : Addr) (o : HO), noT o ∧ H1 T = none ∧ H' = upd H1 T o ∧ Rp K (upd F1 T o) x d
  stop : ∀ (i : Nat) (F1 H1 : Hp), Ex F F1 → Ex F1 H1 → items.length = i → J.stop i H1
def tIt (K : PySem.W.Frag) (f : En → Option (List PyData × En)) : TI := fun σ H R => ∃ ρ F xs ρ', Rep K ρ σ F H ∧ f ρ = some (xs, ρ') ∧ ∀ J F' H', Rep K ρ' σ F' H' → StpE ρ σ F H ρ' F' H' → Wlk K J F' xs → R J H'
section
variable {X : Cx} {tg iter a b : Expr} {fa fb : En → Option (PyData × En)} {pos p : Pos}
theorem wlk_list {K : PySem.W.Frag} {F : Hp} {a : Addr} {vs : List V} {ds : List PyData} (h : SqL K F a vs) (ha : RpA K F vs ds) (inj : ∀ H1, Ex F H1 → ∀ ys, SqL K H1 a ys → ys = vs) : Wlk K (Itl K a) F ds := by
  refine ⟨fun i F1 H1 e1 e2 hi => ?_, fun i F1 H1 x H' d e1 e2 hd hy => ?_, fun i F1 H1 e1 e2 hi => ?_⟩
  · obtain ⟨v, h1, _⟩ := ha.get (List.getElem?_eq_getElem hi)
    exact ⟨vs, v, ex_l (e1.trans e2) h, h1⟩
  · obtain ⟨rfl, hy⟩ := hy
    obtain ⟨v, h1, h2⟩ := ha.get hd
    have := hy vs (ex_l (e1.trans e2) h)
    rw [h1] at this; cases this
    exact .inl ⟨rfl, h2.mono e1⟩
  · exact ⟨vs, ex_l (e1.trans e2) h, by rw [ha.len]; omega⟩
theorem wlk_tup {K : PySem.W.Frag} {F : Hp} {a : Addr} {vs : List V} {ds : List PyData} (h : SqT K F a vs) (ha : RpA K F vs ds) : Wlk K (Itt K a) F ds := by
  refine ⟨fun i F1 H1 e1 e2 hi => ?_, fun i F1 H1 x H' d e1 e2 hd hy => ?_, fun i F1 H1 e1 e2 hi => ?_⟩
  · obtain ⟨v, h1, _⟩ := ha.get (List.getElem?_eq_getElem hi)
    exact ⟨vs, v, ex_t (e1.trans e2) h, h1⟩
  · obtain ⟨rfl, hy⟩ := hy
    obtain ⟨v, h1, h2⟩ := ha.get hd
    have := hy vs (ex_t (e1.trans e2) h)
    rw [h1] at this; cases this
    exact .inl ⟨rfl, h2.mono e1⟩
  · exact ⟨vs, ex_t (e1.trans e2) h, by rw [ha.len]; omega⟩
theorem wlk_range {K : PySem.W.Frag} {F : Hp} {lo hi : Int} : Wlk K (Itr lo (hi - lo).toNat) F (rngD lo hi) := by
  have hl : (rngD lo hi).length = (hi - lo).toNat := by simp [rngD]
  refine ⟨fun i F1 H1 e1 e2 h => by rw [hl] at h; exact h, fun i F1 H1 x H' d e1 e2 hd hy => ?_, fun i F1 H1 e1 e2 h => by rw [hl] at h; exact Nat.le_of_eq h⟩
  obtain ⟨rfl, rfl⟩ := hy
  refine .inl ⟨rfl, ?_⟩
  have hi' := lt_of_get hd
  rw [hl] at hi'
  have : (rngD lo hi)[i]? = some (.int (lo + (i : Int))) := by
    unfold rngD
    rw [List.getElem?_map, List.getElem?_range hi']
    rfl
  rw [this] at hd; cases hd
  exact .int _
theorem PI_or {w1 w2 : TI} (h1 : PI X tg iter w1) (h2 : PI X tg iter w2) : PI X tg iter (fun σ H R => w1 σ H R ∨ w2 σ H R) := ⟨fun pins s σ H R I h => h.elim (h1.run pins s σ H R I) (h2.run pins s σ H R I)⟩
theorem i_seq (ha : PE X a (tE X.K fa)) : PI X tg a (tIt X.K fun ρ => bnd (fa ρ) fun x ρ => ret (seqD x) ρ) := by
  refine (PI_or (pi_list ha) (pi_tup ha)).wk fun σ H R h => ?_
  obtain ⟨ρ, F, xs, ρ', rep, e, q⟩ := h
  obtain ⟨x, ρ1, e1, e⟩ := bnd_eq e
  obtain ⟨ys, e2, e⟩ := ret_eq e
  cases e
  cases x <;> simp only [seqD] at e2 <;> first | (cases e2; done) | skip
  · cases e2
    refine .inl ⟨ρ, F, _, ρ', rep, e1, fun v F1 H1 rep1 st1 rp1 => ?_⟩
    cases rp1 with
    | lst h1 h2 => exact ⟨_, rfl, ⟨_, rep1.exL h1⟩, q _ F1 H1 rep1 st1 ⟨fun i F2 H2 e1 e2 hi => by
        obtain ⟨v, g1, _⟩ := h2.get (List.getElem?_eq_getElem hi)
        exact ⟨_, v, ex_l (e1.trans e2) h1, g1⟩, fun i F2 H2 x H' d e1 e2 hd hy => by
        obtain ⟨rfl, hy⟩ := hy
        obtain ⟨v, g1, g2⟩ := h2.get hd
        have := hy _ (ex_l (e1.trans e2) h1)
        rw [g1] at this; cases this
        exact .inl ⟨rfl, g2.mono e1⟩, fun i F2 H2 e1 e2 hi => ⟨_, ex_l (e1.trans e2) h1, by rw [h2.len]; omega⟩⟩⟩
  · cases e2
    refine .inr ⟨ρ, F, _, ρ', rep, e1, fun v F1 H1 rep1 st1 rp1 => ?_⟩
    cases rp1 with
    | tup h1 h2 => exact ⟨_, rfl, ⟨_, rep1.exT h1⟩, q _ F1 H1 rep1 st1 (wlk_tup h1 h2)⟩
theorem smallI_iff {i : Int} (h : smallI i = true) : -(2 ^ 62) ≤ i ∧ i < 2 ^ 62 := by
  unfold smallI at h
  rw [Bool.and_eq_true, decide_eq_true_eq, decide_eq_true_eq] at h
  exact h
theorem i_rng1 (hg : Gl X "range") (hm : X.mg "range" = none) (ha : PE X a (tE X.K fa)) (hs : starEach [a] X.env = (false, eval a X.env) :: starEach [] X.env) : PI X tg (.Call (.Name "range" p) [a] [] pos) (tIt X.K fun ρ => bnd (fa ρ) fun x ρ => match x with
    | .int n => if smallI n then some (rngD 0 n, ρ) else none
    | _ => none) := by
  refine (pi_range1 hg hm (pa_cons ha pa_nil hs) (by rw [hs]; rfl)).wk fun σ H R h => ?_
  obtain ⟨ρ, F, xs, ρ', rep, e, q⟩ := h
  obtain ⟨x, ρ1, e1, e⟩ := bnd_eq e
  have hk : ∃ k, x = .int k := by
    cases x with
    | int k => exact ⟨k, rfl⟩
    | _ => cases e
  obtain ⟨k, rfl⟩ := hk
  simp only at e
  split at e
  · rename_i hs
    cases e
    refine ⟨ρ, F, _, ρ', rep, e1, fun v F1 H1 rep1 st1 rp1 => ?_⟩
    cases rp1
    have w := wlk_range (K := X.K) (F := F1) (lo := 0) (hi := k)
    rw [show k - 0 = k by omega] at w
    exact ⟨k, rfl, (smallI_iff hs).1, (smallI_iff hs).2, q _ F1 H1 rep1 st1 w⟩
  · cases e
theorem i_rng2 (hg : Gl X "range") (hm : X.mg "range" = none) (ha : PE X a (tE X.K fa)) (hb : PE X b (tE X.K fb)) (hs : starEach [a, b] X.env = (false, eval a X.env) :: starEach [b] X.env) (hs2 : starEach [b] X.env = (false, eval b X.env) :: starEach [] X.env) :
    PI X tg (.Call (.Name "range" p) [a, b] [] pos) (tIt X.K fun ρ => bnd (fa ρ) fun x ρ => bnd (fb ρ) fun y ρ => match x, y with
    | .int i, .int j => if smallI i && smallI j then some (rngD i j, ρ) else none
    | _, _ => none) := by
  refine (pi_range2 hg hm (pa_cons ha (pa_cons hb pa_nil hs2) hs) (by rw [hs, hs2]; rfl) (by rw [hs2]; rfl)).wk fun σ H R h => ?_
  obtain ⟨ρ, F, xs, ρ', rep, e, q⟩ := h
  obtain ⟨x, ρ1, e1, e⟩ := bnd_eq e
  obtain ⟨y, ρ2, e2, e⟩ := bnd_eq e
  have hk : ∃ i j, x = .int i ∧ y = .int j := by
    cases x <;> cases y <;> first | exact ⟨_, _, rfl, rfl⟩ | cases e
  obtain ⟨i, j, rfl, rfl⟩ := hk
  simp only at e
  · split at e
    · rename_i hs
      rw [Bool.and_eq_true] at hs
      cases e
      refine ⟨ρ, F, _, ρ1, rep, e1, fun v F1 H1 rep1 st1 rp1 => ⟨ρ1, F1, _, ρ', rep1, e2, fun w F2 H2 rep2 st2 rp2 => ?_⟩⟩
      cases rp1
      cases rp2
      exact ⟨i, j, rfl, ⟨(smallI_iff hs.1).1, (smallI_iff hs.1).2, (smallI_iff hs.2).1, (smallI_iff hs.2).2⟩, q _ F2 H2 rep2 (st1.trans st2) wlk_range⟩
    · cases e
/-! zip, enumerate -/
theorem zipD_get : ∀ {xs ys : List PyData} {i : Nat} {d : PyData}, (zipD xs ys)[i]? = some d → ∃ x y, xs[i]? = some x ∧ ys[i]? = some y ∧ d = .tuple [x, y]
  | [], _, _, _, h => by simp [zipD] at h
  | _ :: _, [], _, _, h => by simp [zipD] at h
  | x :: xs, y :: ys, 0, d, h => by simp [zipD] at h; exact ⟨x, y, rfl, rfl, h.symm⟩
  | x :: xs, y :: ys, i + 1, d, h => by
    have h' : (zipD xs ys)[i]? = some d := by simpa [zipD] using h
    obtain ⟨u, v, h1, h2, h3⟩ := zipD_get h'
    exact ⟨u, v, by simpa using h1, by simpa using h2, h3⟩
theorem zipD_len : ∀ {xs ys : List PyData}, (zipD xs ys).length = min xs.length ys.length
  | [], _ => by simp [zipD]
  | _ :: _, [] => by simp [zipD]
  | x :: xs, y :: ys => by simp only [zipD, List.length_cons, zipD_len (xs := xs) (ys := ys)]; omega
theorem enumD_get : ∀ {xs : List PyData} {n i : Nat} {d : PyData}, (enumD n xs)[i]? = some d → ∃ x, xs[i]? = some x ∧ d = .tuple [.int ((n + i : Nat) : Int), x]
  | [], _, _, _, h => by simp [enumD] at h
  | x :: xs, n, 0, d, h => by simp [enumD] at h; exact ⟨x, rfl, by rw [← h] <;> rfl⟩
  | x :: xs, n, i + 1, d, h => by
    have h' : (enumD (n + 1) xs)[i]? = some d := by simpa [enumD] using h
    obtain ⟨u, h1, h3⟩ := enumD_get h'
    exact ⟨u, by simpa using h1, by rw [h3, show n + 1 + i = n + (i + 1) by omega]⟩
theorem enumD_len : ∀ {xs : List PyData} {n : Nat}, (enumD n xs).length = xs.length
  | [], _ => rfl
  | x :: xs, n => by simp only [enumD, List.length_cons, enumD_len (xs := xs)]
theorem pair_new {K : PySem.W.Frag} {F1 : Hp} {T : Addr} {vx vy : V} {x y : PyData} (hn : F1 T = none) (h1 : Rp K F1 vx x) (h2 : Rp K F1 vy y) : Rp K (upd F1 T (.tup [vx, vy])) (.ref T) (.tuple [x, y]) :=
  .tup (SqT.of upd_same) (.cons (h1.mono (Ex.new hn)) (.cons (h2.mono (Ex.new hn)) .nil))
theorem ex_none {F1 H1 : Hp} {T : Addr} (e : Ex F1 H1) (h : H1 T = none) : F1 T = none := by
  cases hf : F1 T with
  | none => rfl
  | some o => rw [e T o hf] at h; cases h
theorem wlk_zip {K : PySem.W.Frag} {F : Hp} {k1 k2 : Sk} {a b : Addr} {vs ws : List V} {xs ys : List PyData} (h : SqK K k1 F a vs) (ha : RpA K F vs xs) (h' : SqK K k2 F b ws) (hb : RpA K F ws ys) : Wlk K (JZ K k1 k2 a b) F (zipD xs ys) := by
  have l1 := ha.len
  have l2 := hb.len
  refine ⟨fun i F1 H1 e1 e2 hi => ?_, fun i F1 H1 x H' d e1 e2 hd hy => ?_, fun i F1 H1 e1 e2 hi => ?_⟩
  · rw [zipD_len] at hi
    exact ⟨vs, ws, vs[i], ws[i], exK (e1.trans e2) h, exK (e1.trans e2) h', List.getElem?_eq_getElem (by omega), List.getElem?_eq_getElem (by omega)⟩
  · obtain ⟨T, u, v, rfl, hT, rfl, g1, g2⟩ := hy
    obtain ⟨dx, dy, d1, d2, rfl⟩ := zipD_get hd
    obtain ⟨u', k1, k2⟩ := ha.get d1
    obtain ⟨v', k3, k4⟩ := hb.get d2
    have := g1 vs (exK (e1.trans e2) h); rw [k1] at this; cases this
    have := g2 ws (exK (e1.trans e2) h'); rw [k3] at this; cases this
    exact .inr ⟨T, _, (fun _ z => by cases z), hT, rfl, pair_new (ex_none e2 hT) (k2.mono e1) (k4.mono e1)⟩
  · rw [zipD_len] at hi
    exact ⟨vs, ws, exK (e1.trans e2) h, exK (e1.trans e2) h', by omega⟩
theorem wlk_enum {K : PySem.W.Frag} {F : Hp} {k : Sk} {a : Addr} {vs : List V} {xs : List PyData} (h : SqK K k F a vs) (ha : RpA K F vs xs) : Wlk K (JE K k a 0) F (enumD 0 xs) := by
  have l1 := ha.len
  refine ⟨fun i F1 H1 e1 e2 hi => ?_, fun i F1 H1 x H' d e1 e2 hd hy => ?_, fun i F1 H1 e1 e2 hi => ?_⟩
  · rw [enumD_len] at hi
    exact ⟨vs, vs[i], exK (e1.trans e2) h, List.getElem?_eq_getElem (by omega)⟩
  · obtain ⟨T, u, rfl, hT, rfl, g1⟩ := hy
    obtain ⟨dx, d1, rfl⟩ := enumD_get hd
    obtain ⟨u', k1, k2⟩ := ha.get d1
    have := g1 vs (exK (e1.trans e2) h); rw [k1] at this; cases this
    refine .inr ⟨T, _, (fun _ z => by cases z), hT, rfl, pair_new (ex_none e2 hT) ?_ (k2.mono e1)⟩
    rw [Int.zero_add, Nat.zero_add]
    exact .int _
  · rw [enumD_len] at hi
    exact ⟨vs, exK (e1.trans e2) h, by omega⟩
theorem rp_sq {K : PySem.W.Frag} {F : Hp} {v : V} {x : PyData} {xs : List PyData} (h : Rp K F v x) (e : seqD x = some xs) : ∃ k a vs, v = .ref a ∧ SqK K k F a vs ∧ RpA K F vs xs := by
  cases h <;> simp only [seqD] at e <;> first | (cases e; done) | skip
  · cases e; exact ⟨.l, _, _, rfl, by assumption, by assumption⟩
  · cases e; exact ⟨.t, _, _, rfl, by assumption, by assumption⟩
theorem zipK_seq {x y : PyData} {zs : List PyData} (h : zipK x y = some zs) : ∃ xs ys, seqD x = some xs ∧ seqD y = some ys ∧ zs = zipD xs ys := by
  cases x <;> cases y <;> simp only [zipK] at h <;> first | (cases h; done) | (cases h; exact ⟨_, _, rfl, rfl, rfl⟩)
theorem i_zip {elts : List Expr} {kk : Nat} {tpos : Pos} (hg : Gl X "zip") (hm : X.mg "zip" = none) (ha : PE X a (tE X.K fa)) (hb : PE X b (tE X.K fb)) (hs : starEach [a, b] X.env = (false, eval a X.env) :: starEach [b] X.env) (hs2 : starEach [b] X.env = (false, eval b X.env) :: starEach [] X.env) :
    PI X (.Tuple elts kk tpos) (.Call (.Name "zip" p) [a, b] [] pos) (tIt X.K fun ρ => bnd (fa ρ) fun x ρ => bnd (fb ρ) fun y ρ => ret (zipK x y) ρ) := by
  refine (pi_zp hg hm (pa_cons ha (pa_cons hb pa_nil hs2) hs) hs (by rw [hs2]; rfl)).wk fun σ H R h => ?_
  obtain ⟨ρ, F, zs, ρ', rep, e, q⟩ := h
  obtain ⟨x, ρ1, e1, e⟩ := bnd_eq e
  obtain ⟨y, ρ2, e2, e⟩ := bnd_eq e
  obtain ⟨zs', e3, e⟩ := ret_eq e
  cases e
  refine ⟨ρ, F, _, ρ1, rep, e1, fun v F1 H1 rep1 st1 rp1 => ⟨ρ1, F1, _, ρ', rep1, e2, fun w F2 H2 rep2 st2 rp2 => ?_⟩⟩
  obtain ⟨xs, ys, s1, s2, rfl⟩ := zipK_seq e3
  obtain ⟨k1, a1, vs, rfl, q1, r1⟩ := rp_sq (rp1.mono st2.ext) s1
  obtain ⟨k2, a2, ws, rfl, q2, r2⟩ := rp_sq rp2 s2
  exact ⟨k1, k2, _, _, _, _, rfl, exK rep2.ex q1, exK rep2.ex q2, q _ F2 H2 rep2 (st1.trans st2) (wlk_zip q1 r1 q2 r2)⟩
theorem i_enum {elts : List Expr} {kk : Nat} {tpos : Pos} (hg : Gl X "enumerate") (hm : X.mg "enumerate" = none) (ha : PE X a (tE X.K fa)) (hs : starEach [a] X.env = (false, eval a X.env) :: starEach [] X.env) :
    PI X (.Tuple elts kk tpos) (.Call (.Name "enumerate" p) [a] [] pos) (tIt X.K fun ρ => bnd (fa ρ) fun x ρ => bnd (ret (seqD x) ρ) fun xs ρ => some (enumD 0 xs, ρ)) := by
  refine (pi_en hg hm (pa_cons ha pa_nil hs) hs).wk fun σ H R h => ?_
  obtain ⟨ρ, F, zs, ρ', rep, e, q⟩ := h
  obtain ⟨x, ρ1, e1, e⟩ := bnd_eq e
  obtain ⟨xs, ρ2, e2, e⟩ := bnd_eq e
  obtain ⟨xs', e3, e4⟩ := ret_eq e2
  cases e4
  cases e
  refine ⟨ρ, F, _, ρ', rep, e1, fun v F1 H1 rep1 st1 rp1 => ?_⟩
  obtain ⟨k1, a1, vs, rfl, q1, r1⟩ := rp_sq rp1 e3
  exact ⟨k1, _, _, rfl, exK rep1.ex q1, q _ F1 H1 rep1 st1 (wlk_enum q1 r1)⟩
end

/-! ### targets -/
mutual
def slotsT : Tg → List Nat
  | .name i => [i]
  | .tup ts => slotsTs ts
def slotsTs : List Tg → List Nat
  | [] => []
  | t :: ts => slotsT t ++ slotsTs ts
end
structure Sub (ρ : En) (σ : L2.St) (ρ' : En) (σ' : L2.St) : Prop where
  own : ∀ a, Own ρ' σ' a → Own ρ σ a
  pen : ∀ (i : Nat) (xs' : List PyData), ρ'[i]? = some (some (Sv.own true xs')) → σ'[i]? = σ[i]? ∧ ∃ xs, ρ[i]? = some (some (Sv.own true xs))
theorem Sub.refl {ρ : En} {σ : L2.St} : Sub ρ σ ρ σ := ⟨fun _ h => h, fun _ xs h => ⟨rfl, xs, h⟩⟩
theorem Sub.trans {ρ ρ1 ρ2 : En} {σ σ1 σ2 : L2.St} (a : Sub ρ σ ρ1 σ1) (b : Sub ρ1 σ1 ρ2 σ2) : Sub ρ σ ρ2 σ2 := ⟨fun x h => a.own x (b.own x h), fun i xs h => by
  obtain ⟨h1, ys, h2⟩ := b.pen i xs h
  obtain ⟨h3, zs, h4⟩ := a.pen i ys h2
  exact ⟨h1.trans h3, zs, h4⟩⟩
theorem Stp.same {ρ ρ' : En} {σ σ' : L2.St} {F H : Hp} (h : Sub ρ σ ρ' σ') : Stp ρ σ F H ρ' σ' F H := ⟨Ex.refl F, fun _ _ h => .inl h, fun _ _ h _ _ => h, fun a o => .inl (h.own a o), fun _ h => h, h.pen⟩
def tG (K : PySem.W.Frag) (sl : List Nat) (f : PyData → En → Option En) : TG := fun v σ H Q => ∃ ρ F x ρ', Rep K ρ σ F H ∧ Rp K F v x ∧ f x ρ = some ρ' ∧
  ∀ σ', Rep K ρ' σ' F H → Sub ρ σ ρ' σ' → (∀ j, j ∉ sl → σ'[j]? = σ[j]?) → σ'.length = σ.length → Q σ' H
def tGs (K : PySem.W.Frag) (sl : List Nat) (f : List PyData → En → Option En) : TGs := fun vs σ H Q => ∃ ρ F xs ρ', Rep K ρ σ F H ∧ RpA K F vs xs ∧ f xs ρ = some ρ' ∧
  ∀ σ', Rep K ρ' σ' F H → Sub ρ σ ρ' σ' → (∀ j, j ∉ sl → σ'[j]? = σ[j]?) → σ'.length = σ.length → Q σ' H
theorem _root_.L2.PGs.wk {X : Cx} {es : List Expr} {t t' : TGs} (h : PGs X es t) (w : ∀ v σ H Q, t' v σ H Q → t v σ H Q) : PGs X es t' := ⟨fun pins s σ H v u Q I r q => h.run pins s σ H v u Q I r (w _ _ _ _ q)⟩
section
variable {X : Cx} {tg : Expr} {es : List Expr} {pos : Pos}
theorem g_name {i : Nat} {x : Str} (hN : X.N.Nodup) (hi : X.N[i]? = some x) (hx : Loc X.env.scope x) (hf : X.fn x = true ∨ X.env.scope.names.lookup x = some .local) : PG X (.Name x pos) (tG X.K (slotsT (.name i)) (bindT (.name i))) := by
  refine (pg_name hN hi hx hf).wk fun v σ H Q h => ?_
  obtain ⟨ρ, F, y, ρ', rep, rp, e, q⟩ := h
  simp only [bindT] at e
  split at e
  · cases e
    refine q _ (rep.setD rp) ⟨fun a h => own_setD h, pen_setD⟩ (fun j hj => ?_) (by simp)
    simp only [slotsT, List.mem_singleton] at hj
    rw [get_set, if_neg (fun e => hj e.symm)]
  · cases e
theorem gs_nil : PGs X [] (tGs X.K (slotsTs []) (bindTs [])) := by
  refine pgs_nil.wk fun v σ H Q h => ?_
  obtain ⟨ρ, F, y, ρ', rep, rp, e, q⟩ := h
  cases rp with
  | nil =>
    simp only [bindTs] at e
    cases e
    exact ⟨rfl, q σ rep Sub.refl (fun _ _ => rfl) rfl⟩
  | cons _ _ => simp only [bindTs] at e; cases e
theorem gs_cons {t : Tg} {ts : List Tg} (h1 : PG X tg (tG X.K (slotsT t) (bindT t))) (h2 : PGs X es (tGs X.K (slotsTs ts) (bindTs ts))) (hs : (assignEach (tg :: es) X.env).map (·.2) = assign tg X.env :: (assignEach es X.env).map (·.2)) :
    PGs X (tg :: es) (tGs X.K (slotsTs (t :: ts)) (bindTs (t :: ts))) := by
  refine (pgs_cons h1 h2 hs).wk fun v σ H Q h => ?_
  obtain ⟨ρ, F, y, ρ', rep, rp, e, q⟩ := h
  cases rp with
  | nil => simp only [bindTs] at e; cases e
  | cons r rr =>
    simp only [bindTs] at e
    split at e
    · cases e
    · rename_i ρ1 h1
      refine ⟨_, _, rfl, ρ, F, _, ρ1, rep, r, h1, fun σ1 rep1 o1 k1 l1 => ⟨ρ1, F, _, ρ', rep1, rr, e, fun σ2 rep2 o2 k2 l2 => ?_⟩⟩
      refine q σ2 rep2 (o1.trans o2) (fun j hj => ?_) (l2.trans l1)
      simp only [slotsTs, List.mem_append, not_or] at hj
      rw [k2 j hj.2, k1 j hj.1]
theorem bindTs_len : ∀ {ts : List Tg} {xs : List PyData} {ρ ρ' : En}, bindTs ts xs ρ = some ρ' → xs.length = ts.length
  | [], [], _, _, _ => rfl
  | [], _ :: _, _, _, h => by simp only [bindTs] at h; cases h
  | _ :: _, [], _, _, h => by simp only [bindTs] at h; cases h
  | t :: ts, x :: xs, ρ, ρ', h => by
    simp only [bindTs] at h
    split at h
    · cases h
    · simp [bindTs_len h]
theorem g_tup {ts : List Tg} {k : Nat} (hc : X.calm = true) (h : PGs X es (tGs X.K (slotsTs ts) (bindTs ts))) (hn : (assignEach es X.env).length = ts.length) (hst : (assignEach es X.env).findIdx? (·.1) = none) : PG X (.Tuple es k pos) (tG X.K (slotsT (.tup ts)) (bindT (.tup ts))) := by
  refine (pg_tup hc h hn hst).wk fun v σ H Q h => ?_
  obtain ⟨ρ, F, y, ρ', rep, rp, e, q⟩ := h
  cases rp <;> simp only [bindT] at e <;> first | (cases e; done) | skip
  rename_i a vs ds h1 h2
  exact ⟨a, vs, rfl, rep.exT h1, by rw [h2.len]; exact bindTs_len e, ρ, F, ds, ρ', rep, h2, e, fun σ' r o k l => q σ' r o (by simpa only [slotsT] using k) l⟩
end

/-! ### slots forgotten and taken back -/
theorem wipe_in {σ : L2.St} : ∀ {vs : List Nat} {i : Nat}, i ∈ vs → (wipe σ vs)[i]? = if i < σ.length then some none else none
  | v :: vs, i, h => by
    unfold wipe
    rw [get_set, wipe_length]
    by_cases e : v = i
    · rw [if_pos e, e]
    · rw [if_neg e]
      rcases List.mem_cons.mp h with h | h
      · exact absurd h.symm e
      · exact wipe_in h
theorem wipe_eq {σ σ' : L2.St} {vs : List Nat} (h : ∀ j, j ∉ vs → σ'[j]? = σ[j]?) (hl : σ'.length = σ.length) : wipe σ' vs = wipe σ vs := by
  refine List.ext_getElem? fun i => ?_
  by_cases hi : i ∈ vs
  · rw [wipe_in hi, wipe_in hi, hl]
  · rw [wipe_out hi, wipe_out hi, h i hi]
theorem wipeE_len (ρ : En) : ∀ vs : List Nat, (wipeE ρ vs).length = ρ.length
  | [] => rfl
  | v :: vs => by unfold wipeE; rw [List.length_set, wipeE_len ρ vs]
theorem wipeE_in {ρ : En} : ∀ {vs : List Nat} {i : Nat}, i ∈ vs → (wipeE ρ vs)[i]? = if i < ρ.length then some none else none
  | v :: vs, i, h => by
    unfold wipeE
    rw [get_set, wipeE_len]
    by_cases e : v = i
    · rw [if_pos e, e]
    · rw [if_neg e]
      rcases List.mem_cons.mp h with h | h
      · exact absurd h.symm e
      · exact wipeE_in h
theorem wipeE_out {ρ : En} {i : Nat} : ∀ {vs : List Nat}, i ∉ vs → (wipeE ρ vs)[i]? = ρ[i]?
  | [], _ => rfl
  | v :: vs, h => by
    simp only [List.mem_cons, not_or] at h
    unfold wipeE
    rw [get_set, if_neg (fun e => h.1 e.symm), wipeE_out h.2]
theorem backE_len (ρ ρ' : En) : ∀ vs : List Nat, (backE ρ ρ' vs).length = ρ'.length
  | [] => rfl
  | v :: vs => by unfold backE; rw [List.length_set, backE_len ρ ρ' vs]
theorem backE_in {ρ ρ' : En} : ∀ {vs : List Nat} {i : Nat}, i ∈ vs → (backE ρ ρ' vs)[i]? = if i < ρ'.length then some ((ρ[i]?).getD none) else none
  | v :: vs, i, h => by
    unfold backE
    rw [get_set, backE_len]
    by_cases e : v = i
    · rw [if_pos e, e]
    · rw [if_neg e]
      rcases List.mem_cons.mp h with h | h
      · exact absurd h.symm e
      · exact backE_in h
theorem backE_out {ρ ρ' : En} {i : Nat} : ∀ {vs : List Nat}, i ∉ vs → (backE ρ ρ' vs)[i]? = ρ'[i]?
  | [], _ => rfl
  | v :: vs, h => by
    simp only [List.mem_cons, not_or] at h
    unfold backE
    rw [get_set, if_neg (fun e => h.1 e.symm), backE_out h.2]
section
variable {K : PySem.W.Frag} {ρ ρ1 ρ2 : En} {σ σ2 : L2.St} {F F1 H H1 : Hp} {vs : List Nat}
theorem Rep.wipe (r : Rep K ρ σ F H) (vs : List Nat) : Rep K (wipeE ρ vs) (L2.wipe σ vs) F H := by
  have out : ∀ (i : Nat) (s : Sv), (wipeE ρ vs)[i]? = some (some s) → i ∉ vs := fun i s h hi => by
    rw [wipeE_in hi] at h
    split at h <;> cases h
  refine ⟨by rw [wipeE_len, wipe_length]; exact r.len, r.wl, fun i x h => ?_, fun i b xs h => ?_, fun i j b b' xs ys p h1 h2 h3 h4 => ?_, fun i h => ?_⟩
  rotate_right
  · have hi := out i _ h
    rw [wipeE_out hi] at h
    rw [wipe_out hi]
    exact r.xc i h
  · have hi := out i _ h
    rw [wipeE_out hi] at h
    rw [wipe_out hi]
    exact r.dat i x h
  · have hi := out i _ h
    rw [wipeE_out hi] at h
    rw [wipe_out hi]
    exact r.own i b xs h
  · have hi := out i _ h1
    have hj := out j _ h2
    rw [wipeE_out hi] at h1
    rw [wipeE_out hj] at h2
    rw [wipe_out hi] at h3
    rw [wipe_out hj] at h4
    exact r.dis i j b b' xs ys p h1 h2 h3 h4
theorem own_wipe {a : Addr} (h : Own (wipeE ρ vs) (L2.wipe σ vs) a) : Own ρ σ a := by
  obtain ⟨i, b, xs, h1, h2⟩ := h
  have hi : i ∉ vs := fun hi => by
    rw [wipeE_in hi] at h1
    split at h1 <;> cases h1
  rw [wipeE_out hi] at h1
  rw [wipe_out hi] at h2
  exact ⟨i, b, xs, h1, h2⟩
theorem sub_wipe : Sub ρ σ (wipeE ρ vs) (L2.wipe σ vs) := ⟨fun a h => own_wipe h, fun i xs h => by
  have hi : i ∉ vs := fun hi => by
    rw [wipeE_in hi] at h
    split at h <;> cases h
  rw [wipeE_out hi] at h
  exact ⟨wipe_out hi, xs, h⟩⟩
theorem Own.wiped {a : Addr} (h : Own ρ σ a) (hn : vs.all (notOwn ρ) = true) : Own (wipeE ρ vs) (L2.wipe σ vs) a := by
  obtain ⟨i, b, xs, h1, h2⟩ := h
  have hi : i ∉ vs := fun hi => by
    have := List.all_eq_true.mp hn i hi
    unfold notOwn at this
    rw [h1] at this; cases this
  exact ⟨i, b, xs, by rw [wipeE_out hi]; exact h1, by rw [wipe_out hi]; exact h2⟩
/-- ρ1, σ: ahead of the block; ρ2, σ2: in it -/
theorem Rep.back (r1 : Rep K ρ1 σ F1 H1) (e : Ex F1 F) (r2 : Rep K ρ2 σ2 F H) (hw : L2.wipe σ2 vs = L2.wipe σ vs) (hn : vs.all (notOwn ρ1) = true) : Rep K (backE ρ1 ρ2 vs) σ F H := by
  have same : ∀ i, i ∉ vs → σ2[i]? = σ[i]? := fun i hi => by
    have this : (L2.wipe σ2 vs)[i]? = (L2.wipe σ vs)[i]? := by rw [hw]
    rw [wipe_out hi, wipe_out hi] at this
    exact this
  have hlen : σ2.length = σ.length := by
    have := congrArg List.length hw
    rw [wipe_length, wipe_length] at this
    exact this
  have noown : ∀ (i : Nat) (b : Bool) (xs : List PyData), (backE ρ1 ρ2 vs)[i]? = some (some (.own b xs)) → i ∉ vs := fun i b xs h hi => by
    rw [backE_in hi] at h
    split at h
    · have := List.all_eq_true.mp hn i hi
      unfold notOwn at this
      cases hq : ρ1[i]? with
      | none => rw [hq] at h; cases h
      | some s =>
        rw [hq] at h this
        simp only [Option.getD_some, Option.some.injEq] at h
        subst h
        cases this
    · cases h
  refine ⟨by rw [backE_len, r2.len, hlen], r2.wl, fun i x h => ?_, fun i b xs h => ?_, fun i j b b' xs ys p h1 h2 h3 h4 => ?_, fun i h => ?_⟩
  rotate_right
  · by_cases hi : i ∈ vs
    · rw [backE_in hi] at h
      split at h
      · cases hq : ρ1[i]? with
        | none => rw [hq] at h; cases h
        | some s =>
          rw [hq] at h
          simp only [Option.getD_some, Option.some.injEq] at h
          subst h
          exact r1.xc i hq
      · cases h
    · rw [backE_out hi] at h
      rw [← same i hi]
      exact r2.xc i h
  · by_cases hi : i ∈ vs
    · rw [backE_in hi] at h
      split at h
      · cases hq : ρ1[i]? with
        | none => rw [hq] at h; cases h
        | some s =>
          rw [hq] at h
          simp only [Option.getD_some, Option.some.injEq] at h
          subst h
          obtain ⟨v, g1, g2⟩ := r1.dat i x hq
          exact ⟨v, g1, g2.mono e⟩
      · cases h
    · rw [backE_out hi] at h
      rw [← same i hi]
      exact r2.dat i x h
  · have hi := noown i b xs h
    rw [backE_out hi] at h
    rw [← same i hi]
    exact r2.own i b xs h
  · have hi := noown i b xs h1
    have hj := noown j b' ys h2
    rw [backE_out hi] at h1
    rw [backE_out hj] at h2
    rw [← same i hi] at h3
    rw [← same j hj] at h4
    exact r2.dis i j b b' xs ys p h1 h2 h3 h4
theorem own_back {a : Addr} (h : Own (backE ρ1 ρ2 vs) σ a) (hw : L2.wipe σ2 vs = L2.wipe σ vs) (hn : vs.all (notOwn ρ1) = true) : Own ρ2 σ2 a := by
  obtain ⟨i, b, xs, h1, h2⟩ := h
  have hi : i ∉ vs := fun hi => by
    rw [backE_in hi] at h1
    split at h1
    · have := List.all_eq_true.mp hn i hi
      unfold notOwn at this
      cases hq : ρ1[i]? with
      | none => rw [hq] at h1; cases h1
      | some s =>
        rw [hq] at h1 this
        simp only [Option.getD_some, Option.some.injEq] at h1
        subst h1
        cases this
    · cases h1
  have same : σ2[i]? = σ[i]? := by
    have this : (L2.wipe σ2 vs)[i]? = (L2.wipe σ vs)[i]? := by rw [hw]
    rw [wipe_out hi, wipe_out hi] at this
    exact this
  rw [backE_out hi] at h1
  exact ⟨i, b, xs, h1, by rw [same]; exact h2⟩
theorem sub_back (hw : L2.wipe σ2 vs = L2.wipe σ vs) (hn : vs.all (notOwn ρ1) = true) : Sub ρ2 σ2 (backE ρ1 ρ2 vs) σ := ⟨fun a h => own_back h hw hn, fun i xs h => by
  have hi : i ∉ vs := fun hi => by
    rw [backE_in hi] at h
    split at h
    · have := List.all_eq_true.mp hn i hi
      unfold notOwn at this
      cases hq : ρ1[i]? with
      | none => rw [hq] at h; cases h
      | some s =>
        rw [hq] at h this
        simp only [Option.getD_some, Option.some.injEq] at h
        subst h
        cases this
    · cases h
  have same : σ2[i]? = σ[i]? := by
    have this : (L2.wipe σ2 vs)[i]? = (L2.wipe σ vs)[i]? := by rw [hw]
    rw [wipe_out hi, wipe_out hi] at this
    exact this
  rw [backE_out hi] at h
  exact ⟨same.symm, xs, h⟩⟩
end
end Wh

set_option Elab.async false
set_option linter.all false
set_option maxRecDepth 100000
set_option maxHeartbeats 1000000
set_option exponentiation.threshold 5000
/-! Wh9: comprehensions. -/
namespace Wh
open PySem PySem.Spec PyProof.Rows L2 Evl
variable [Tbl]
section
variable {K : PySem.W.Frag} {ρ ρ' : En} {σ σ' : L2.St} {F F' H H' : Hp} {D : Addr} {o : HO}
theorem Stp.offD (s : Stp ρ σ F H ρ' σ' F' H') (h : H D = none) : Stp ρ σ F H ρ' σ' F' (upd H' D o) :=
  ⟨s.ext, s.new, fun a u ha no nt => by rw [upd_ne (ne_of_none ha h)]; exact s.fr a u ha no nt, s.own, fun a ha => s.alive a (upd_none' ha), s.pen⟩
theorem Rep.off (r : Rep K ρ σ F H) (hf : F D = none) (no : ¬ Own ρ σ D) {o' : HO} (hD : H D = some o') (nt : noT o') (nx : ∀ φ, o' ≠ .ext φ) : Rep K ρ σ F (upd H D o) := by
  refine ⟨r.len, ⟨fun a u ha => ?_, fun p hp => ?_, r.wl.nt⟩, r.dat, fun i b xs hx => ?_, r.dis, r.xc⟩
  · rw [upd_ne (ne_of_none ha hf)]; exact r.ex a u ha
  · obtain ⟨ps, h1, h2, h3⟩ := r.wl.tab p hp
    have n1 : p.1 ≠ D := fun z => by rw [z, hD] at h1; cases h1; exact nt _ rfl
    refine ⟨ps, by rw [upd_ne n1]; exact h1, h2, fun pos cv hc => ?_⟩
    obtain ⟨c, e1, e2⟩ := h3 pos cv hc
    have n2 : c ≠ D := fun z => by rw [z, hD] at e2; cases e2; exact nx _ rfl
    exact ⟨c, e1, by rw [upd_ne n2]; exact e2⟩
  · obtain ⟨q, vs, h1, h2, h3, h4⟩ := r.own i b xs hx
    have hq : q ≠ D := fun z => no ⟨i, b, xs, hx, by rw [← z]; exact h1⟩
    exact ⟨q, vs, h1, h2, by rw [upd_ne hq]; exact h3, h4⟩
end
/-- one turn of a comprehension -/
def stepC (tg : Tg) (gt : En → Option (Bool × En)) (fe : En → Option (PyData × En)) (own : List Nat) (ρ1 : En) : PyData → En → Option (Option PyData × En) := fun x ρ2 => match bindT tg x (wipeE ρ2 own) with
  | none => none
  | some ρ3 => bnd (gt ρ3) fun r ρ4 => match r with
    | false => some (none, backE ρ1 ρ4 own)
    | true => bnd (fe ρ4) fun y ρ5 => some (some y, backE ρ1 ρ5 own)
section
variable {X : Cx} {elt tgE iter : Expr} {ifs : List Expr} {scope : Scope} {ownS : List (Str × Nat)} {pos : Pos} {tg : Tg} {fi : En → Option (List PyData × En)} {gt : En → Option (Bool × En)} {fe : En → Option (PyData × En)} {own : List Nat}
theorem lc_rd (hsl : ∀ j ∈ slotsT tg, j ∈ own) (σ : L2.St) (H : Hp) (Q : VK)
    (h : tEL X.K (fun ρ => if own.all (notOwn ρ) then bnd (fi ρ) fun xs ρ1 => if own.all (notOwn ρ1) ∧ xs.length ≤ 100000 then bnd (cmpI (stepC tg gt fe own ρ1) xs ρ1) fun ys ρ6 => some (.list ys, ρ6) else none else none) σ H Q) :
    tLc (tIt X.K fi) (tG X.K (slotsT tg) (bindT tg)) (tT X.K gt) (tE X.K fe) own σ H Q := by
  obtain ⟨ρ, F, ys, ρ6, rep, e, q⟩ := h
  simp only at e
  split at e
  case isFalse => cases e
  obtain ⟨items, ρ1, e1, e⟩ := bnd_eq e
  split at e
  case isFalse => cases e
  rename_i hn0 hn
  obtain ⟨hn, hz⟩ := hn
  obtain ⟨ys', ρ6', e2, e⟩ := bnd_eq e
  cases e
  refine ⟨ρ, F, items, ρ1, rep, e1, fun J F1 H1 rep1 st1 wl => fun D hD => ?_⟩
  have nD : ¬ Own ρ1 σ D := rep1.none_own hD
  have fD : F1 D = none := fresh_back rep1.ex hD
  refine ⟨fun i m H' => ∃ F' ρ' vs1 ys1 ys2, Rep X.K ρ' σ F' H' ∧ Stp ρ1 σ F1 H1 ρ' σ F' H' ∧ (∀ a, Own ρ' σ a → Own ρ1 σ a) ∧ F' D = none ∧ H' D = some (.lst vs1) ∧ RpA X.K F' vs1 ys1 ∧ cmpI (stepC tg gt fe own ρ1) (items.drop i) ρ' = some (ys2, ρ6) ∧ ys = ys1 ++ ys2 ∧ vs1.length ≤ i ∧ i ≤ items.length ∧ m = items.length - i,
    ⟨items.length, F1, ρ1, [], [], ys, rep1.layOff hD, (StpE.layOff hD).toStp, fun _ h => h, fD, upd_same, .nil, e2, rfl, Nat.le_refl _, Nat.zero_le _, rfl⟩, ?_⟩
  rintro i m H' ⟨F', ρ', vs1, ys1, ys2, rep', stp, ow, f', h', rpa, hcm, hys, hlen, hi, rfl⟩
  have no' : ¬ Own ρ' σ D := fun o => nD (ow D o)
  by_cases hlt : i < items.length
  · have hd : items[i]? = some items[i] := List.getElem?_eq_getElem hlt
    have hdrop : items.drop i = items[i] :: items.drop (i + 1) := List.drop_eq_getElem_cons hlt
    rw [hdrop] at hcm
    simp only [cmpI] at hcm
    refine .inr ⟨wl.go i F' H' stp.ext rep'.ex hlt, fun H'' => ∃ m', m' < items.length - i ∧ (∃ F' ρ' vs1 ys1 ys2, Rep X.K ρ' σ F' H'' ∧ Stp ρ1 σ F1 H1 ρ' σ F' H'' ∧ (∀ a, Own ρ' σ a → Own ρ1 σ a) ∧ F' D = none ∧ H'' D = some (.lst vs1) ∧ RpA X.K F' vs1 ys1 ∧ cmpI (stepC tg gt fe own ρ1) (items.drop (i + 1)) ρ' = some (ys2, ρ6) ∧ ys = ys1 ++ ys2 ∧ vs1.length ≤ i + 1 ∧ i + 1 ≤ items.length ∧ m' = items.length - (i + 1)), fun H'' n => n, fun x H2 hy => ?_⟩
    obtain ⟨F2, rep2, st2, rp2⟩ : ∃ F2, Rep X.K ρ' σ F2 H2 ∧ StpE ρ' σ F' H' ρ' F2 H2 ∧ Rp X.K F2 x items[i] := by
      rcases wl.yld i F' H' x H2 _ stp.ext rep'.ex hd hy with ⟨rfl, h⟩ | ⟨T, o, nTo, hT, rfl, h⟩
      · exact ⟨F', rep', StpE.refl, h⟩
      · exact ⟨_, rep'.lay hT nTo, StpE.lay rep' hT, h⟩
    -- the turn's own evaluation
    cases hst : stepC tg gt fe own ρ1 items[i] ρ' with
    | none => rw [hst] at hcm; cases hcm
    | some pr =>
    rw [hst] at hcm
    unfold stepC at hst
    split at hst
    · cases hst
    rename_i ρ3 hb
    obtain ⟨r, ρ4, hg, hst⟩ := bnd_eq hst
    refine ⟨wipeE ρ' own, F2, items[i], ρ3, rep2.wipe own, rp2, hb, fun σ2 rep3 o3 k3 l3 => ?_⟩
    have hw : L2.wipe σ2 own = L2.wipe σ own := by
      rw [wipe_eq (σ := L2.wipe σ own) (σ' := σ2) (fun j hj => k3 j fun z => hj (hsl j z)) l3]
      exact wipe_eq (fun j hj => wipe_out hj) (wipe_length σ own)
    refine ⟨hw, ρ3, F2, r, ρ4, rep3, hg, fun F4 H4 rep4 st4 => ?_⟩
    have s2 : Stp ρ1 σ F1 H1 ρ' σ F2 H2 := stp.trans st2.toStp
    have s3 : Stp ρ1 σ F1 H1 ρ3 σ2 F2 H2 := s2.trans (Stp.same (sub_wipe.trans o3))
    have s4 : Stp ρ1 σ F1 H1 ρ4 σ2 F4 H4 := s3.trans st4.toStp
    have ow3 : ∀ a, Own ρ3 σ2 a → Own ρ1 σ a := fun a o => ow a (own_wipe (o3.own a o))
    have ow4 : ∀ a, Own ρ4 σ2 a → Own ρ1 σ a := fun a o => ow3 a (st4.str a o)
    have h2D : H2 D = some (.lst vs1) := st2.fr D _ h' no' (fun _ z => by cases z)
    have f2D : F2 D = none := by
      cases hx : F2 D with
      | none => rfl
      | some o =>
        rcases st2.new D o hx with z | z | z
        · rw [f'] at z; cases z
        · rw [h'] at z; cases z
        · exact absurd z no'
    have h4D : H4 D = some (.lst vs1) := st4.fr D _ h2D (fun o => nD (ow3 D o)) (fun _ z => by cases z)
    have f4D : F4 D = none := by
      cases hx : F4 D with
      | none => rfl
      | some o =>
        rcases st4.new D o hx with z | z | z
        · rw [f2D] at z; cases z
        · rw [h2D] at z; cases z
        · exact absurd (ow3 D z) nD
    cases r with
    | false =>
      cases hst
      refine L2.iteF ?_
      simp only at hcm
      exact ⟨items.length - (i + 1), by omega, F4, backE ρ1 ρ4 own, vs1, ys1, ys2, Rep.back rep1 s4.ext rep4 hw hn, s4.trans (Stp.same (sub_back hw hn)), fun a o => ow4 a (own_back o hw hn), f4D, h4D, (rpa.mono st2.ext).mono st4.ext, hcm, hys, by omega, hlt, rfl⟩
    | true =>
      obtain ⟨y, ρ5, he, hst⟩ := bnd_eq hst
      cases hst
      refine L2.iteT ?_
      simp only at hcm
      split at hcm
      · cases hcm
      rename_i ys3 ρ7 hcm'
      cases hcm
      refine ⟨ρ4, F4, y, ρ5, rep4, he, fun vy F5 H5 rep5 st5 rp5 => ?_⟩
      have s5 : Stp ρ1 σ F1 H1 ρ5 σ2 F5 H5 := s4.trans st5.toStp
      have ow5 : ∀ a, Own ρ5 σ2 a → Own ρ1 σ a := fun a o => ow4 a (st5.str a o)
      have h5D : H5 D = some (.lst vs1) := st5.fr D _ h4D (fun o => nD (ow4 D o)) (fun _ z => by cases z)
      have f5D : F5 D = none := by
        cases hx : F5 D with
        | none => rfl
        | some o =>
          rcases st5.new D o hx with z | z | z
          · rw [f4D] at z; cases z
          · rw [h4D] at z; cases z
          · exact absurd (ow4 D z) nD
      have r5 : Rep X.K ρ5 σ2 F5 (upd H5 D (.lst (vs1 ++ [vy]))) := rep5.off f5D (fun o => nD (ow5 D o)) h5D (fun _ z => by cases z) (fun _ z => by cases z)
      refine ⟨vs1, h5D, Nat.lt_of_le_of_lt (Nat.le_trans hlen hi) (Nat.lt_of_le_of_lt hz (by decide)), items.length - (i + 1), by omega, F5, backE ρ1 ρ5 own, vs1 ++ [vy], ys1 ++ [y], ys3, Rep.back rep1 s5.ext r5 hw hn,
        (s5.trans (Stp.same (sub_back hw hn))).offD hD, fun a o => ow5 a (own_back o hw hn), f5D, upd_same, (((rpa.mono st2.ext).mono st4.ext).mono st5.ext).append (.one rp5), hcm', ?_, ?_, hlt, rfl⟩
      · rw [hys, List.append_assoc]; rfl
      · rw [List.length_append]; simp; omega
  · have hi' : i = items.length := by omega
    subst hi'
    rw [List.drop_length] at hcm
    simp only [cmpI] at hcm
    cases hcm
    rw [List.append_nil] at hys
    subst hys
    exact .inl ⟨wl.stop _ F' H' stp.ext rep'.ex rfl, q D vs1 F' H' rep' (st1.trans ⟨stp, ow⟩) (st1.alive D hD) f' h' rpa⟩
theorem l_comp (hc : X.calm = true) (hN : X.N.Nodup) (hi : PI X tgE iter (tIt X.K fi)) (ok : BlkOk X.N X.env.scope scope ownS) (ho : ownS.map (·.2) = own) (hsl : ∀ j ∈ slotsT tg, j ∈ own)
    (hg : ∀ (s : Shared) (H : Hp) (C : Addr) (cl : List (Str × Addr)) (fp : List Addr), PG (X.blk s H scope (compEnvC scope cl C X.env) fp) tgE (tG X.K (slotsT tg) (bindT tg)))
    (ht : ∀ (s : Shared) (H : Hp) (C : Addr) (cl : List (Str × Addr)) (fp : List Addr), PTs (X.blk s H scope (compEnvC scope cl C X.env) fp) ifs (tT X.K gt))
    (he : ∀ (s : Shared) (H : Hp) (C : Addr) (cl : List (Str × Addr)) (fp : List Addr), PE (X.blk s H scope (compEnvC scope cl C X.env) fp) elt (tE X.K fe)) (hs : ∀ x, foldedSetIterable iter X.env x = pure x) :
    PE X (.ListComp elt [⟨tgE, iter, ifs, 0⟩] scope pos) (tEL X.K (fun ρ => if own.all (notOwn ρ) then bnd (fi ρ) fun xs ρ1 => if own.all (notOwn ρ1) ∧ xs.length ≤ 100000 then bnd (cmpI (stepC tg gt fe own ρ1) xs ρ1) fun ys ρ6 => some (.list ys, ρ6) else none else none)) := by
  subst ho
  exact (pe_lc hc hN hi ok hg ht he hs).wk (lc_rd hsl)
/-- name = [..] on one line -/
theorem s_setLc {i : Nat} {y : Str} {py spos : Pos} (hc : X.calm = true) (hN : X.N.Nodup) (hy : X.N[i]? = some y) (hyl : X.env.scope.names.lookup y = some .local)
    (hsw : swapsWith (.ListComp elt [⟨tgE, iter, ifs, 0⟩] scope pos) (some (.Name y py)) spos.line X.env = pure true) (hi : PI X tgE iter (tIt X.K fi)) (ok : BlkOk X.N X.env.scope scope ownS) (ho : ownS.map (·.2) = own) (hsl : ∀ j ∈ slotsT tg, j ∈ own)
    (hg : ∀ (s : Shared) (H : Hp) (C : Addr) (cl : List (Str × Addr)) (fp : List Addr), PG (X.blk s H scope (compEnvC scope cl C X.env) fp) tgE (tG X.K (slotsT tg) (bindT tg)))
    (ht : ∀ (s : Shared) (H : Hp) (C : Addr) (cl : List (Str × Addr)) (fp : List Addr), PTs (X.blk s H scope (compEnvC scope cl C X.env) fp) ifs (tT X.K gt))
    (he : ∀ (s : Shared) (H : Hp) (C : Addr) (cl : List (Str × Addr)) (fp : List Addr), PE (X.blk s H scope (compEnvC scope cl C X.env) fp) elt (tE X.K fe)) (hs : ∀ x, foldedSetIterable iter X.env x = pure x) :
    PS X (.Assign [.Name y py] (.ListComp elt [⟨tgE, iter, ifs, 0⟩] scope pos) spos) (tAsg (tEL X.K (fun ρ => if own.all (notOwn ρ) then bnd (fi ρ) fun xs ρ1 => if own.all (notOwn ρ1) ∧ xs.length ≤ 100000 then bnd (cmpI (stepC tg gt fe own ρ1) xs ρ1) fun ys ρ6 => some (.list ys, ρ6) else none else none)) (gName i)) := by
  subst ho
  exact (ps_setLc hc hN hy hyl hsw hi ok hg ht he hs).wk fun D σ H h => lc_rd hsl σ H _ h
theorem ts_nil : PTs X [] (tT X.K fun ρ => some (true, ρ)) := ⟨fun pins s σ H Q I h => pts_nil.run pins s σ H Q I (by
  obtain ⟨ρ, F, z, ρ', rep, e, q⟩ := h
  cases e
  exact q F H rep StpE.refl)⟩
theorem ts_one {t : Expr} (h : PT X t (tT X.K gt)) : PTs X [t] (tT X.K gt) := pts_one h
/-! dict displays: none, one pair -/
theorem e_dct0 : PE X (.Dict [] [] pos) (tE X.K fun ρ => some (.dict [], ρ)) := pe_dnewK.wk fun σ H Q h p hp => by
  obtain ⟨ρ, F, z, ρ', rep, e, q⟩ := h
  cases e
  exact q _ _ _ (rep.lay hp) (StpE.lay rep hp) (.dct upd_same .nil)
theorem e_dct1 {a b : Expr} {fa fb : En → Option (PyData × En)} (ha : PE X a (tE X.K fa)) (hb : PE X b (tE X.K fb)) : PE X (.Dict [some a] [b] pos) (tE X.K fun ρ => bnd (fa ρ) fun x ρ => bnd (fb ρ) fun y ρ => match keyD x with
    | some _ => some (.dict [(x, y)], ρ)
    | none => none) := (pe_disp (pps_cons ha hb pps_nil) rfl rfl (fun z => by cases z) (by simp)).wk fun σ H Q h p hp => by
  obtain ⟨ρ, F, z, ρ', rep, e, q⟩ := h
  obtain ⟨x, ρ1, e1, e⟩ := bnd_eq e
  obtain ⟨y, ρ2, e2, e⟩ := bnd_eq e
  split at e
  · rename_i kk hk
    cases e
    have nO : ¬ Own ρ σ p := rep.none_own hp
    refine ⟨ρ, F, x, ρ1, rep.layOff hp, e1, fun vx F1 H1 rep1 st1 rp1 => ⟨ρ1, F1, y, ρ', rep1, e2, fun vy F2 H2 rep2 st2 rp2 => ?_⟩⟩
    have h1 : H1 p = some (.dK []) := st1.fr p _ upd_same nO (fun _ z => by cases z)
    have nO1 : ¬ Own ρ1 σ p := fun o => nO (st1.str p o)
    have h2 : H2 p = some (.dK []) := st2.fr p _ h1 nO1 (fun _ z => by cases z)
    have nO2 : ¬ Own ρ' σ p := fun o => nO1 (st2.str p o)
    have st := ((StpE.layOff (F := F) hp).trans st1).trans st2
    have f2 : F2 p = none := by
      cases hx : F2 p with
      | none => rfl
      | some o =>
        rcases ((st1.trans st2).toStp).new p o hx with z | z | z
        · rw [fresh_back rep.ex hp] at z; cases z
        · rw [upd_same] at z; cases z
        · exact absurd z nO
    have hv : vx = kV kk := by
      cases rp1 <;> simp only [keyD] at hk <;> first | (cases hk; rfl) | cases hk
    have hx : x = kD kk := by
      cases x <;> simp only [keyD] at hk <;> first | (cases hk; rfl) | cases hk
    refine ⟨h2, [(kk, vy)], by rw [hv]; rfl, by simp, ?_⟩
    have em : mergeK [] [(kk, vy)] = [(kk, vy)] := rfl
    rw [em]
    have r3 : Rep X.K ρ' σ F2 (upd H2 p (.dK [(kk, vy)])) := rep2.off f2 nO2 h2 (fun _ z => by cases z) (fun _ z => by cases z)
    refine q (.ref p) (upd F2 p (.dK [(kk, vy)])) _ (r3.frz upd_same f2 nO2) ⟨⟨st.ext.trans (Ex.new f2), fun a o ho => ?_, fun a o ho no nt => ?_, st.own, fun a ha => st.alive a (upd_none' ha), st.pen⟩, st.str⟩ ?_
    · by_cases ea : a = p
      · subst ea; exact .inr (.inl hp)
      · rw [upd_ne ea] at ho; exact st.new a o ho
    · rw [upd_ne (ne_of_none ho hp)]
      exact st.fr a o ho no nt
    · rw [hx]
      exact .dct upd_same (.cons (rp2.mono (Ex.new f2)) .nil)
  · cases e
end
end Wh

set_option Elab.async false
set_option linter.all false
set_option maxRecDepth 100000
set_option maxHeartbeats 1000000
set_option exponentiation.threshold 5000
/-! Wh10: defs and calls, statements. -/
namespace Wh
open PySem PySem.Spec PyProof.Rows L2 Evl
variable [Tbl]

/-! ### a def keeps its promise where no repr runs around it -/
/-- how a call of the def at f ends, for arguments of which sp holds -/
structure FnG (P : Program) (w : World) (K : PySem.W.Frag) (mg : Str → Option Value) (base : Heap) (CX : CXT) (k : Nat) (f : Addr) (fd : FuncData) (ps : List Str) (sp : Sp) : Prop where
  many : ∀ {vs : List V} {H : Hp} {Q : VK} {E : XK}, sp vs H Q E → ps.length = vs.length
  goes : ∀ {A : Around} {fs : List PySem.Env} {s : Shared} {H : Hp} {ar : Args} {us : List Value} {vs : List V} {Q : VK} {E : XK}, A.guards = some [] → Room k A → Env0 P w K mg base A fs s H → Vals vs us → BindsTo s fd ar (ps.zip us) → sp vs H Q E →
    codeAny (model P w) A (.call (.ref f) ar) (fun r s' => CR CX fs P w H s Q E r s') s
theorem FnG.imp {P : Program} {w : World} {K : PySem.W.Frag} {mg : Str → Option Value} {base : Heap} {CX : CXT} {k : Nat} {f : Addr} {fd : FuncData} {ps : List Str} {sp sp' : Sp} (F : FnG P w K mg base CX k f fd ps sp) (h : ∀ {vs H Q E}, sp' vs H Q E → sp vs H Q E) : FnG P w K mg base CX k f fd ps sp' :=
  ⟨fun q => F.many (h q), fun g r e v b q => F.goes g r e v b (h q)⟩
section
variable {X : Cx} {k : Nat} {f : Addr} {fd : FuncData} {ps : List Str} {sp : Sp} {x : Str} {p pos : Pos} {e : Expr} {es : List Expr} {t : TA}
/-- the callee's end in the caller's words -/
theorem cr_ep {pins : List (Addr × Obj)} {σ : L2.St} {H : Hp} {s s' : Shared} {Q : VK} {r : Result} (I : Inv X pins σ H s) (h : CR CX0 X.stack X.prog X.w H s Q E0 r s') : ∃ u, r = .ok (.ret u) ∧ EP X pins σ Q u s' := by
  match r, h with
  | .ok (.ret u), h => exact ⟨u, rfl, I.after h⟩
  | .ok .next, h => exact h.elim
  | .ok .brk, h => exact h.elim
  | .ok .cont, h => exact h.elim
  | .error _, h => exact h.elim
theorem goes_call {pins : List (Addr × Obj)} {σ : L2.St} {H : Hp} {s : Shared} {Q : VK} {us : List Value} {vs : List V} (F : FnG X.prog X.w X.K X.mg X.base CX0 k f fd ps sp) (room : Room k X.A) (gd : X.A.guards = some []) (bs : Binds X.K fd ps []) (I : Inv X pins σ H s) (va : Vals vs us) (h : sp vs H Q E0) :
    wpAny (model X.prog X.w) X.A (call (.ref f) us) (EP X pins σ Q) X.xe s := by
  have n : (us ++ ([] : List Value)).length = ps.length := by rw [List.append_nil, ← va.length, F.many h]
  have b := bs s us I.kIn n
  simp only [List.append_nil] at b
  refine wpAny_call (codeAny_mono (F.goes gd room I.env0 va b h) fun r s' q => ?_)
  obtain ⟨u, rfl, w⟩ := cr_ep I q
  exact w
theorem pe_callG (F : FnG X.prog X.w X.K X.mg X.base CX0 k f fd ps sp) (room : Room k X.A) (gd : X.A.guards = some []) (gl : Gl X x) (hm : X.mg x = some (.ref f)) (kp : PySem.W.keepIn X.K (.ref f) = true) (bs : Binds X.K fd ps [])
    (args : PA X (e :: es) t) (hdb : (x == ("__debug__" : Str)) = false) (he : starEach (e :: es) X.env = (false, eval e X.env) :: starEach es X.env) (hpl : (backTo pos (starEach es X.env)).any (·.1) = false) :
    PE X (.Call (.Name x p) (e :: es) [] pos) (fun σ H Q => t σ H fun vs H' => sp vs H' Q E0) where
  run := fun pins s σ H Q I h => wpAny_Call_Name_kw (ld_glob I gl hm (PySem.W.callWith_K (h₀ := X.base) I.mod.kin kp
    (thn (args.run pos pins s σ H _ I h) fun us s' ⟨vs, H', J, va, q⟩ => ⟨J.kIn, goes_call F room gd bs J va q⟩) he hpl) hdb)
theorem pe_callG0 (F : FnG X.prog X.w X.K X.mg X.base CX0 k f fd ps sp) (room : Room k X.A) (gd : X.A.guards = some []) (gl : Gl X x) (hm : X.mg x = some (.ref f)) (kp : PySem.W.keepIn X.K (.ref f) = true) (bs : Binds X.K fd ps []) (hdb : (x == ("__debug__" : Str)) = false) :
    PE X (.Call (.Name x p) [] [] pos) (fun σ H Q => sp [] H Q E0) where
  run := fun pins s σ H Q I h => wpAny_Call_Name_kw (ld_glob I gl hm (PySem.W.callWith_K0 I.kIn kp (goes_call (us := []) F room gd bs I .nil h)) hdb)
end
/-- where a body ends, its caller is told -/
theorem ce_of {P : Program} {w : World} {K : PySem.W.Frag} {mg : Str → Option Value} {base : Heap} {N : List Str} {qual : Str} {sc : Scope} {f : Addr} {cd : Value} {A : Around} {fs : List PySem.Env} {s s' : Shared} {H : Hp} {Q : VK} {fl : Flow}
    (h : SP (cxOf CX0 P w K mg base N qual sc f cd A fs s H E0) [] { nx := fun _ H' => Q .non H', rt := Q } fl s') : CE fs P w H s Q (match fl with | .ret v => v | _ => .none) s' := by
  match fl, h with
  | .ret u, ⟨v, _, H', J, r, q⟩ => exact ⟨v, H', J.os, J.bare, J.base, J.hok, r, q⟩
  | .next, ⟨_, H', J, q⟩ => exact ⟨V.non, H', J.os, J.bare, J.base, J.hok, rfl, q⟩
  | .brk, ⟨_, _, _, q⟩ => exact q.elim
  | .cont, ⟨_, _, _, q⟩ => exact q.elim
/-- a def of the text, by its body: read with no exception, where no repr runs around it -/
theorem Fun.okG {P : Program} {w : World} {K : PySem.W.Frag} {mg : Str → Option Value} {base : Heap} {k : Nat} {x : Str} {st : Stmt} {f : Addr} {fd : FuncData} {N ps : List Str} {sp : Sp} (F : Fun K x x st f fd) (S : FnScope N ps (defScope st))
    (many : ∀ {vs : List V} {H : Hp} {Q : VK} {E : XK}, sp vs H Q E → ps.length = vs.length)
    (body : ∀ (cd : Value) (A : Around) (fs : List PySem.Env) (s : Shared) (H : Hp) (vs : List V) (Q : VK) (E : XK), Room k (A.deeper (envOfC x (defScope st) s.heap.objs.size f cd)) → A.guards = some [] → sp vs H Q E →
      ∃ t, PSs (cxOf CX0 P w K mg base N x (defScope st) f cd A fs s H E0).nox (defBody st) t ∧ t { nx := fun _ H' => Q .non H', rt := Q } (start N vs) H) : FnG P w K mg base CX0 (k + 1) f fd ps sp := by
  obtain ⟨oc, od, kV, doc, pm, an, cd, ct, osl, rfl, lk, code⟩ := F.ex
  refine ⟨many, fun {A fs s H ar us vs Q E} gd room e0 va bn q => ?_⟩
  have kin : K.In s.heap := e0.mod.kin.keeps fun b o z => (e0.bs b o z).1
  have par : ∀ y ∈ ps.zip us, (defScope st).names.lookup y.1 = some .local ∨ ((defScope st).names.lookup y.1 = some .cell ∧ ((cellsFrom (s.heap.objs.size + 1) (defScope st).names []).lookup y.1).isSome = true) := by
    rintro ⟨n, v⟩ z
    exact (S.par n (List.of_mem_zip z).1).imp id fun z => ⟨z, PySem.W.cellsFrom_some _ _ _ (.inl z)⟩
  refine codeAny_call_function room.depth (kin _ _ lk) rfl S.co S.gen rfl (PySem.W.codeRec_of kin code) (bn _ _ _ _ (wpAny_newFunctionEnv_cells S.kind par ?_))
  rintro env rfl s1 z
  refine ⟨(e0.mod.nolimit.keeps fun b o z => (e0.bs b o z).1).keeps z.toInCall.keep, codeAny_func ?_⟩
  obtain ⟨t, h1, h2⟩ := body cd A fs s H vs Q E (room.deeper _) gd q
  have J : Inv (cxOf CX0 P w K mg base N x (defScope st) f cd A fs s H E0) [] (start N vs) H s1 := inv_start S room.hd e0 (many q).symm va z
  refine wpAny_mono (h1.nox.run [] s1 (start N vs) H _ J h2) (fun fl s' z => ?_) fun e s' z => ?_
  · have c := ce_of z
    cases fl <;> exact c
  · exact wpAny_mono z (fun _ _ q => q.elim) fun _ _ q => q.elim

/-! ### the promise of a def by its evaluation -/
abbrev CallF := Option (List PyData) → List PyData → Option (PyData × Option (List PyData))
def NewIn (F H F' : Hp) : Prop := ∀ a o, F' a = some o → F a = some o ∨ H a = none
def spF (K : PySem.W.Frag) (g : CallF) : Sp := fun vs H Q _ =>
  (∃ F xs x, Wl F H ∧ RpA K F vs xs ∧ g none xs = some (x, none) ∧ ∀ v F' H', Ex F F' → Wl F' H' → NewIn F H F' → (∀ a o, H a = some o → noT o → H' a = some o) → (∀ a, H' a = none → H a = none) → Rp K F' v x → Q v H') ∨
  (∃ F p ws pen vs' xs x pen', vs = .ref p :: vs' ∧ Wl F H ∧ F p = none ∧ H p = some (.lst ws) ∧ RpA K F ws pen ∧ RpA K F vs' xs ∧ g (some pen) xs = some (x, some pen') ∧
    ∀ v F' H' ws', Ex F F' → Wl F' H' → NewIn F H F' → (∀ a o, H a = some o → a ≠ p → noT o → H' a = some o) → (∀ a, H' a = none → H a = none) → H' p = some (.lst ws') → RpA K F' ws' pen' → Rp K F' v x → Q v H')
section
variable {K : PySem.W.Frag} {ρ : En} {σ : L2.St} {F H F' H' : Hp} {i : Nat}
theorem Rep.call (r : Rep K ρ σ F H) (e : Ex F F') (wl : Wl F' H') (nw : NewIn F H F') (fr : ∀ a o, H a = some o → noT o → H' a = some o) : Rep K ρ σ F' H' := by
  refine ⟨r.len, wl, fun i x hx => ?_, fun i b xs hx => ?_, r.dis, r.xc⟩
  · obtain ⟨v, h1, h2⟩ := r.dat i x hx
    exact ⟨v, h1, h2.mono e⟩
  · obtain ⟨q, vs, h1, h2, h3, h4⟩ := r.own i b xs hx
    refine ⟨q, vs, h1, ?_, fr _ _ h3 (fun _ z => by cases z), h4.mono e⟩
    cases hq : F' q with
    | none => rfl
    | some o =>
      rcases nw q o hq with z | z
      · rw [h2] at z; cases z
      · rw [h3] at z; cases z
theorem StpE.call (e : Ex F F') (nw : NewIn F H F') (fr : ∀ a o, H a = some o → noT o → H' a = some o) (al : ∀ a, H' a = none → H a = none) : StpE ρ σ F H ρ F' H' :=
  ⟨⟨e, fun a o h => (nw a o h).elim .inl fun z => .inr (.inl z), fun a o h _ nt => fr a o h nt, fun _ h => .inl h, al, fun i xs h => ⟨rfl, xs, h⟩⟩, fun _ h => h⟩
theorem Rep.callp (r : Rep K ρ σ F H) {bb : Bool} {xs ys : List PyData} {p : Addr} {ws' : List V} (h : ρ[i]? = some (some (.own bb xs))) (hp : σ[i]? = some (some (.ref p))) (e : Ex F F') (wl : Wl F' H') (nw : NewIn F H F')
    (fr : ∀ a o, H a = some o → a ≠ p → noT o → H' a = some o) (hH : H' p = some (.lst ws')) (ha : RpA K F' ws' ys) : Rep K (ρ.set i (some (.own bb ys))) σ F' H' := by
  have hl := lt_of_get h
  have out : ∀ q, F q = none → (∃ vs : List V, H q = some (.lst vs)) → F' q = none := fun q hq ⟨vs, hh⟩ => by
    cases hx : F' q with
    | none => rfl
    | some o =>
      rcases nw q o hx with z | z
      · rw [hq] at z; cases z
      · rw [hh] at z; cases z
  refine ⟨by simp [r.len], wl, fun j y hy => ?_, fun j b zs hj => ?_, fun j k b b' ys' zs q h1 h2 h3 h4 => ?_, xc_give r.xc (fun z => by cases z)⟩
  · rw [get_set] at hy
    split at hy
    · (try rw [if_pos hl] at hy); cases hy
    · obtain ⟨v, h1, h2⟩ := r.dat j y hy
      exact ⟨v, h1, h2.mono e⟩
  · rw [get_set] at hj
    split at hj
    · rename_i e'
      subst e'
      (try rw [if_pos hl] at hj)
      cases hj
      obtain ⟨q, vs, g1, g2, g3, g4⟩ := r.own i _ _ h
      rw [hp] at g1; cases g1
      exact ⟨p, ws', hp, out p g2 ⟨_, g3⟩, hH, ha⟩
    · rename_i e'
      obtain ⟨q', ws, g1, g2, g3, g4⟩ := r.own j b zs hj
      have hq : q' ≠ p := fun z => e' (r.dis i j bb b xs zs p h hj hp (by rw [← z]; exact g1))
      exact ⟨q', ws, g1, out q' g2 ⟨_, g3⟩, fr _ _ g3 hq (fun _ z => by cases z), g4.mono e⟩
  · have back : ∀ (j : Nat) (b : Bool) (ys' : List PyData), (ρ.set i (some (.own bb ys)))[j]? = some (some (.own b ys')) → ∃ b zs, ρ[j]? = some (some (.own b zs)) := fun j b ys' hj => by
      rw [get_set] at hj
      split at hj
      · rename_i e'; subst e'; exact ⟨bb, xs, h⟩
      · exact ⟨b, ys', hj⟩
    obtain ⟨b1, z1, g1⟩ := back j b ys' h1
    obtain ⟨b2, z2, g2⟩ := back k b' zs h2
    exact r.dis j k b1 b2 z1 z2 q g1 g2 h3 h4
theorem StpE.callp {bb : Bool} {xs ys : List PyData} {p : Addr} {ws' : List V} (h : ρ[i]? = some (some (.own bb xs))) (hp : σ[i]? = some (some (.ref p))) (e : Ex F F') (nw : NewIn F H F') (fr : ∀ a o, H a = some o → a ≠ p → noT o → H' a = some o) (al : ∀ a, H' a = none → H a = none) (hH : H' p = some (.lst ws')) :
    StpE ρ σ F H (ρ.set i (some (.own bb ys))) F' H' :=
  ⟨⟨e, fun a o h => (nw a o h).elim .inl fun z => .inr (.inl z), fun a o hx no nt => fr a o hx (fun z => no (by rw [z]; exact ⟨i, bb, xs, h, hp⟩)) nt, fun a o => .inl (own_putO h o), al, pen_putO h⟩, fun a o => own_putO h o⟩
end
/-- what the table's defs promise, at the context -/
def CallOk (X : Cx) (call : Str → CallF) (k : Nat) : Prop := ∀ f po xs r, call f po xs = some r → ∃ fa fd ps, FnG X.prog X.w X.K X.mg X.base CX0 k fa fd ps (spF X.K (call f)) ∧ X.mg f = some (.ref fa) ∧ PySem.W.keepIn X.K (.ref fa) = true ∧ Binds X.K fd ps []
/-- .. of those that hand back a new list -/
def spL (K : PySem.W.Frag) (g : CallF) : Sp := fun vs H Q _ => ∃ F xs ys, Wl F H ∧ RpA K F vs xs ∧ g none xs = some (.list ys, none) ∧
  ∀ p ws F' H', Ex F F' → Wl F' H' → NewIn F H F' → (∀ a o, H a = some o → noT o → H' a = some o) → (∀ a, H' a = none → H a = none) → H p = none → F' p = none → H' p = some (.lst ws) → RpA K F' ws ys → Q (.ref p) H'
def CallOkL (X : Cx) (call : Str → CallF) (fr : Str → Bool) (k : Nat) : Prop := ∀ f xs r, fr f = true → call f none xs = some r → ∃ fa fd ps, FnG X.prog X.w X.K X.mg X.base CX0 k fa fd ps (spL X.K (call f)) ∧ X.mg f = some (.ref fa) ∧ PySem.W.keepIn X.K (.ref fa) = true ∧ Binds X.K fd ps []
section
variable {X : Cx} {c : Cfg} {k : Nat} {x y : Str} {p py pos : Pos} {a : Expr} {es : List Expr} {fs : En → Option (List PyData × En)} {i : Nat}
theorem PE.never {e : Expr} {t : TE} (h : ∀ σ H Q, ¬ t σ H Q) : PE X e t := ⟨fun _ _ σ H Q _ q => (h σ H Q q).elim⟩
theorem e_call {e : Expr} (hC : CallOk X c.call k) (hr : Room k X.A) (hgd : X.A.guards = some []) (hg : Gl X x) (hdb : (x == ("__debug__" : Str)) = false) (ha : PA X (e :: es) (tA X.K fs)) (he : starEach (e :: es) X.env = (false, eval e X.env) :: starEach es X.env) (hpl : (backTo pos (starEach es X.env)).any (·.1) = false) :
    PE X (.Call (.Name x p) (e :: es) [] pos) (tE X.K fun ρ => bnd (fs ρ) fun xs ρ => match c.call x none xs with
    | some (x, none) => some (x, ρ)
    | _ => none) := by
  by_cases hx : ∃ xs r, c.call x none xs = some r
  case neg =>
    refine PE.never fun σ H Q h => ?_
    obtain ⟨ρ, F, z, ρ', rep, e, q⟩ := h
    obtain ⟨xs, ρ1, e1, e⟩ := bnd_eq e
    split at e
    · rename_i h
      exact hx ⟨xs, _, h⟩
    · cases e
  obtain ⟨xs0, r0, h0⟩ := hx
  obtain ⟨fa, fd, ps, FG, hm, hk, hb⟩ := hC x none xs0 r0 h0
  refine (pe_callG FG hr hgd hg hm hk hb ha hdb he hpl).wk fun σ H Q h => ?_
  obtain ⟨ρ, F, z, ρ', rep, e, q⟩ := h
  obtain ⟨xs, ρ1, e1, e⟩ := bnd_eq e
  split at e
  · rename_i z' hc
    cases e
    refine ⟨ρ, F, xs, ρ', rep, e1, fun vs F1 H1 rep1 st1 rp1 => .inl ⟨F1, xs, z, rep1.wl, rp1, hc, fun v F2 H2 e2 ex2 nw fr al rp2 => ?_⟩⟩
    exact q v F2 H2 (rep1.call e2 ex2 nw fr) (st1.trans (StpE.call e2 nw fr al)) rp2
  · cases e
theorem e_call0 (hC : CallOk X c.call k) (hr : Room k X.A) (hgd : X.A.guards = some []) (hg : Gl X x) (hdb : (x == ("__debug__" : Str)) = false) :
    PE X (.Call (.Name x p) [] [] pos) (tE X.K fun ρ => bnd (some (([] : List PyData), ρ)) fun xs ρ => match c.call x none xs with
    | some (x, none) => some (x, ρ)
    | _ => none) := by
  by_cases hx : ∃ xs r, c.call x none xs = some r
  case neg =>
    refine PE.never fun σ H Q h => ?_
    obtain ⟨ρ, F, z, ρ', rep, e, q⟩ := h
    obtain ⟨xs, ρ1, e1, e⟩ := bnd_eq e
    split at e
    · rename_i h
      exact hx ⟨xs, _, h⟩
    · cases e
  obtain ⟨xs0, r0, h0⟩ := hx
  obtain ⟨fa, fd, ps, FG, hm, hk, hb⟩ := hC x none xs0 r0 h0
  refine (pe_callG0 FG hr hgd hg hm hk hb hdb).wk fun σ H Q h => ?_
  obtain ⟨ρ, F, z, ρ', rep, e, q⟩ := h
  obtain ⟨xs, ρ1, e1, e⟩ := bnd_eq e
  cases e1
  split at e
  · rename_i z' hc
    cases e
    exact .inl ⟨F, [], z, rep.wl, .nil, hc, fun v F2 H2 e2 ex2 nw fr al rp2 => q v F2 H2 (rep.call e2 ex2 nw fr) (StpE.call e2 nw fr al) rp2⟩
  · cases e
theorem e_callp (hC : CallOk X c.call k) (hr : Room k X.A) (hgd : X.A.guards = some []) (hg : Gl X x) (hdb : (x == ("__debug__" : Str)) = false)
    (hN : X.N[i]? = some y) (hv : Vis X.env.scope y) (hd : (y == ("__debug__" : Str)) = false) (hcd : (y == ("__classdict__" : Str)) = false) (ha : PA X es (tA X.K fs))
    (he : starEach (.Name y py :: es) X.env = (false, eval (.Name y py) X.env) :: starEach es X.env) (hpl : (backTo pos (starEach es X.env)).any (·.1) = false) :
    PE X (.Call (.Name x p) (.Name y py :: es) [] pos) (tE X.K fun ρ => match ρ[i]? with
    | some (some _) => bnd (fs ρ) fun xs ρ => match ρ[i]? with
      | some (some (Sv.own b p)) => match c.call x (some p) xs with
        | some (x, some q) => some (x, ρ.set i (some (.own b q)))
        | _ => none
      | _ => none
    | _ => none) := by
  by_cases hx : ∃ po xs r, c.call x po xs = some r
  case neg =>
    refine PE.never fun σ H Q h => ?_
    obtain ⟨ρ, F, z, ρ', rep, e, q⟩ := h
    simp only at e
    split at e
    · obtain ⟨xs, ρ1, e1, e⟩ := bnd_eq e
      split at e
      · split at e
        · rename_i h
          exact hx ⟨_, xs, _, h⟩
        · cases e
      · cases e
    · cases e
  obtain ⟨po0, xs0, r0, h0⟩ := hx
  obtain ⟨fa, fd, ps, FG, hm, hk, hb⟩ := hC x po0 xs0 r0 h0
  refine (pe_callG FG hr hgd hg hm hk hb (pa_cons (pe_var hN hv hd hcd) ha he) hdb he hpl).wk fun σ H Q h => ?_
  obtain ⟨ρ, F, z, ρ', rep, e, q⟩ := h
  simp only at e
  split at e
  · rename_i sv hsv
    obtain ⟨v, hv0⟩ := rep.at_ hsv
    obtain ⟨xs, ρ1, e1, e⟩ := bnd_eq e
    refine ⟨v, hv0, ρ, F, xs, ρ1, rep, e1, fun vs F1 H1 rep1 st1 rp1 => ?_⟩
    split at e
    · rename_i bb pen hpen
      split at e
      · rename_i z' pen' hc
        cases e
        obtain ⟨q0, ws, h1, h2, h3, h4⟩ := rep1.own i bb pen hpen
        rw [hv0] at h1; cases h1
        refine .inr ⟨F1, q0, ws, pen, vs, xs, z, pen', rfl, rep1.wl, h2, h3, h4, rp1, hc, fun v F2 H2 ws' e2 ex2 nw fr al hp ra rp2 => ?_⟩
        exact q v F2 H2 (rep1.callp hpen hv0 e2 ex2 nw fr hp ra) (st1.trans (StpE.callp hpen hv0 e2 nw fr al hp)) rp2
      · cases e
    · cases e
  · cases e
theorem l_call {fr : Str → Bool} {e : Expr} (hC : CallOkL X c.call fr k) (hf : fr x = true) (hr : Room k X.A) (hgd : X.A.guards = some []) (hg : Gl X x) (hdb : (x == ("__debug__" : Str)) = false) (ha : PA X (e :: es) (tA X.K fs)) (he : starEach (e :: es) X.env = (false, eval e X.env) :: starEach es X.env) (hpl : (backTo pos (starEach es X.env)).any (·.1) = false) :
    PE X (.Call (.Name x p) (e :: es) [] pos) (tEL X.K fun ρ => bnd (fs ρ) fun xs ρ => match c.call x none xs with
    | some (x, none) => some (x, ρ)
    | _ => none) := by
  by_cases hx : ∃ xs r, c.call x none xs = some r
  case neg =>
    refine PE.never fun σ H Q h => ?_
    obtain ⟨ρ, F, z, ρ', rep, e, q⟩ := h
    obtain ⟨xs, ρ1, e1, e⟩ := bnd_eq e
    split at e
    · rename_i h
      exact hx ⟨xs, _, h⟩
    · cases e
  obtain ⟨xs0, r0, h0⟩ := hx
  obtain ⟨fa, fd, ps, FG, hm, hk, hb⟩ := hC x xs0 r0 hf h0
  refine (pe_callG FG hr hgd hg hm hk hb ha hdb he hpl).wk fun σ H Q h => ?_
  obtain ⟨ρ, F, zs, ρ', rep, e, q⟩ := h
  obtain ⟨xs, ρ1, e1, e⟩ := bnd_eq e
  split at e
  · rename_i z' hc
    cases e
    refine ⟨ρ, F, xs, ρ', rep, e1, fun vs F1 H1 rep1 st1 rp1 => ⟨F1, xs, zs, rep1.wl, rp1, hc, fun p' ws F2 H2 e2 ex2 nw fr' al h0 hf2 hh ra => ?_⟩⟩
    exact q p' ws F2 H2 (rep1.call e2 ex2 nw fr') (st1.trans (StpE.call e2 nw fr' al)) (st1.alive p' h0) hf2 hh ra
  · cases e
/-! keywords, defaults -/
theorem kw_fst (pos : Pos) (env : PySem.Env) : ∀ kws : List Keyword, (backToKw pos (keywordEach kws env)).map (·.1) = kws.map (·.arg)
  | [] => rfl
  | ⟨nm, e, kp⟩ :: kws => by
    show _ :: (backToKw pos (keywordEach kws env)).map (·.1) = _
    rw [kw_fst pos env kws]; rfl
theorem kw_all {pos : Pos} {env : PySem.Env} {kws : List Keyword} {ks : List Str} (h : kws.map (·.arg) = ks.map some) : (backToKw pos (keywordEach kws env)).all (·.1.isSome) = true ∧ (backToKw pos (keywordEach kws env)).filterMap (·.1) = ks ∧ (backToKw pos (keywordEach kws env)).any (·.1.isNone) = false := by
  have e := kw_fst pos env kws
  rw [h] at e
  generalize backToKw pos (keywordEach kws env) = l at e
  clear h
  induction ks generalizing l with
  | nil => cases l with
    | nil => exact ⟨rfl, rfl, rfl⟩
    | cons _ _ => cases e
  | cons k ks ih => cases l with
    | nil => cases e
    | cons x l =>
      simp only [List.map_cons, List.cons.injEq] at e
      obtain ⟨h1, h2, h3⟩ := ih l e.2
      simp [List.all_cons, List.filterMap_cons, List.any_cons, e.1, h1, h2, h3]
theorem k_nil : PK X [] (tA X.K fun ρ => some ([], ρ)) := ⟨fun pos pins s σ H Q I h => pk_nil.run pos pins s σ H Q I (by
  obtain ⟨ρ, F, z, ρ', rep, e, q⟩ := h
  cases e
  exact q [] F H rep StpE.refl .nil)⟩
theorem k_cons {nm : Option Str} {kpos : Pos} {kws : List Keyword} {fa : En → Option (PyData × En)} (ha : PE X a (tE X.K fa)) (hr : PK X kws (tA X.K fs)) : PK X (⟨nm, a, kpos⟩ :: kws) (tA X.K fun ρ => bnd (fa ρ) fun x ρ => bnd (fs ρ) fun xs ρ => some (x :: xs, ρ)) := ⟨fun pos pins s σ H Q I h => (pk_cons (nm := nm) (kpos := kpos) ha hr).run pos pins s σ H Q I (by
  obtain ⟨ρ, F, z, ρ', rep, e, q⟩ := h
  obtain ⟨x, ρ1, e1, e⟩ := bnd_eq e
  obtain ⟨xs, ρ2, e2, e⟩ := bnd_eq e
  cases e
  exact ⟨ρ, F, x, ρ1, rep, e1, fun v F1 H1 rep1 st1 rp1 => ⟨ρ1, F1, xs, ρ', rep1, e2, fun vs F2 H2 rep2 st2 rp2 => q (v :: vs) F2 H2 rep2 (st1.trans st2) (.cons (rp1.mono st2.ext) rp2)⟩⟩)⟩
/-- how a call of such a shape binds -/
structure KwOk (K : PySem.W.Frag) (fd : FuncData) (ps : List Str) (sh : Kw) : Prop where
  go : ∀ {F : Hp} {vs zs : List V} {xs xs2 ys : List PyData} (s : Shared) (us ws : List Value), K.In s.heap → Vals vs us → Vals zs ws → RpA K F vs xs → RpA K F zs xs2 → xs.length = sh.n → xs2.length = sh.ks.length → pickD (xs ++ xs2) sh.ix = some ys →
    ∃ bs vs', BindsTo s fd ⟨us, sh.ks.zip ws⟩ (ps.zip bs) ∧ Vals vs' bs ∧ RpA K F vs' ys
def CallOkK (X : Cx) (call : Str → CallF) (kw : Str → List Kw) (k : Nat) : Prop := ∀ f sh xs r, sh ∈ kw f → call f none xs = some r → ∃ fa fd ps, FnG X.prog X.w X.K X.mg X.base CX0 k fa fd ps (spF X.K (call f)) ∧ X.mg f = some (.ref fa) ∧ PySem.W.keepIn X.K (.ref fa) = true ∧ KwOk X.K fd ps sh
theorem goes_kw {f : Addr} {fd : FuncData} {ps : List Str} {sp : Sp} {pins : List (Addr × Obj)} {σ : L2.St} {H : Hp} {s : Shared} {Q : VK} {us bs : List Value} {kvs : List (Str × Value)} {vs : List V} (F : FnG X.prog X.w X.K X.mg X.base CX0 k f fd ps sp) (room : Room k X.A) (gd : X.A.guards = some []) (I : Inv X pins σ H s)
    (b : BindsTo s fd ⟨us, kvs⟩ (ps.zip bs)) (va : Vals vs bs) (h : sp vs H Q E0) : wpAny (model X.prog X.w) X.A (call (.ref f) us kvs) (EP X pins σ Q) X.xe s := by
  refine wpAny_call (codeAny_mono (F.goes gd room I.env0 va b h) fun r s' q => ?_)
  obtain ⟨u, rfl, w⟩ := cr_ep I q
  exact w
variable {kws : List Keyword} {fk : En → Option (List PyData × En)} {sh : Kw} {kw : Str → List Kw}
theorem e_callk {e : Expr} (hC : CallOkK X c.call kw k) (hsh : sh ∈ kw x) (hr : Room k X.A) (hgd : X.A.guards = some []) (hg : Gl X x) (hdb : (x == ("__debug__" : Str)) = false) (ha : PA X (e :: es) (tA X.K fs)) (hkw : PK X kws (tA X.K fk)) (hks : kws.map (·.arg) = sh.ks.map some)
    (hl1 : ∀ ρ xs ρ', fs ρ = some (xs, ρ') → xs.length = sh.n) (hl2 : ∀ ρ xs ρ', fk ρ = some (xs, ρ') → xs.length = sh.ks.length)
    (he : starEach (e :: es) X.env = (false, eval e X.env) :: starEach es X.env) (hpl : (backTo pos (starEach (e :: es) X.env)).any (·.1) = false) :
    PE X (.Call (.Name x p) (e :: es) kws pos) (tE X.K fun ρ => bnd (bnd (fs ρ) fun xs ρ => bnd (fk ρ) fun ys ρ => some (xs ++ ys, ρ)) fun xs ρ => match pickD xs sh.ix with
    | some ys => match c.call x none ys with
      | some (x, none) => some (x, ρ)
      | _ => none
    | none => none) := by
  refine ⟨fun pins s σ H Q I h => ?_⟩
  obtain ⟨ρ, F, z, ρ', rep, e0, q⟩ := h
  obtain ⟨xs, ρ1, e1, e0⟩ := bnd_eq e0
  obtain ⟨xs1, ρ2, e2, e1⟩ := bnd_eq e1
  obtain ⟨xs2, ρ3, e3, e1⟩ := bnd_eq e1
  cases e1
  split at e0
  · rename_i ys hp
    split at e0
    · rename_i z' hc
      cases e0
      obtain ⟨fa, fd, ps, FG, hm, hk, kb⟩ := hC x sh ys _ hsh hc
      obtain ⟨k1, k2, k3⟩ := kw_all (pos := pos) (env := X.env) hks
      refine wpAny_Call_Name_kw (ld_glob I hg hm ?_ hdb)
      refine PySem.W.callWith_KW (h₀ := X.base) I.mod.kin hk k1 (thn (ha.run pos pins s σ H (fun vs H1 => ∃ F1, Rep X.K ρ2 σ F1 H1 ∧ StpE ρ σ F H ρ2 F1 H1 ∧ RpA X.K F1 vs xs1) I ⟨ρ, F, xs1, ρ2, rep, e2, fun vs F1 H1 a b c => ⟨F1, a, b, c⟩⟩) fun us s1 ⟨vs, H1, I1, r1, F1, rep1, st1, rp1⟩ => ?_) (by rw [hpl, k3]; rfl) he
      refine thn (hkw.run pos pins s1 σ H1 (fun vs H2 => ∃ F2, Rep X.K ρ' σ F2 H2 ∧ StpE ρ2 σ F1 H1 ρ' F2 H2 ∧ RpA X.K F2 vs xs2) I1 ⟨ρ2, F1, xs2, ρ', rep1, e3, fun vs F1 H1 a b c => ⟨F1, a, b, c⟩⟩) fun ws s2 ⟨zs, H2, I2, r2, F2, rep2, st2, rp2⟩ => ⟨I2.kIn, ?_⟩
      rw [k2]
      obtain ⟨bs, vs', hb, hv, ra⟩ := kb.go (F := F2) s2 us ws I2.kIn r1 r2 (rp1.mono st2.ext) rp2 (hl1 _ _ _ e2) (hl2 _ _ _ e3) hp
      exact goes_kw FG hr hgd I2 hb hv (.inl ⟨F2, ys, z, rep2.wl, ra, hc, fun v F3 H3 e4 ex4 nw fr al rp4 => q v F3 H3 (rep2.call e4 ex4 nw fr) ((st1.trans st2).trans (StpE.call e4 nw fr al)) rp4⟩)
    · cases e0
  · cases e0
theorem e_callk0 (hC : CallOkK X c.call kw k) (hsh : sh ∈ kw x) (hn : sh.n = 0) (hr : Room k X.A) (hgd : X.A.guards = some []) (hg : Gl X x) (hdb : (x == ("__debug__" : Str)) = false) (hkw : PK X kws (tA X.K fk)) (hks : kws.map (·.arg) = sh.ks.map some) (hl2 : ∀ ρ xs ρ', fk ρ = some (xs, ρ') → xs.length = sh.ks.length) :
    PE X (.Call (.Name x p) [] kws pos) (tE X.K fun ρ => bnd (fk ρ) fun xs ρ => match pickD xs sh.ix with
    | some ys => match c.call x none ys with
      | some (x, none) => some (x, ρ)
      | _ => none
    | none => none) := by
  refine ⟨fun pins s σ H Q I h => ?_⟩
  obtain ⟨ρ, F, z, ρ', rep, e0, q⟩ := h
  obtain ⟨xs2, ρ1, e3, e0⟩ := bnd_eq e0
  split at e0
  · rename_i ys hp
    split at e0
    · rename_i z' hc
      cases e0
      obtain ⟨fa, fd, ps, FG, hm, hk, kb⟩ := hC x sh ys _ hsh hc
      obtain ⟨k1, k2, k3⟩ := kw_all (pos := pos) (env := X.env) hks
      refine wpAny_Call_Name_kw (ld_glob I hg hm ?_ hdb)
      refine PySem.W.callWith_KW0 (h₀ := X.base) I.mod.kin hk k1 (thn (hkw.run pos pins s σ H (fun vs H2 => ∃ F2, Rep X.K ρ' σ F2 H2 ∧ StpE ρ σ F H ρ' F2 H2 ∧ RpA X.K F2 vs xs2) I ⟨ρ, F, xs2, ρ', rep, e3, fun vs F1 H1 a b c => ⟨F1, a, b, c⟩⟩) fun ws s2 ⟨zs, H2, I2, r2, F2, rep2, st2, rp2⟩ => ⟨I2.kIn, ?_⟩) (by rw [k3]; rfl)
      rw [k2]
      obtain ⟨bs, vs', hb, hv, ra⟩ := kb.go (F := F2) s2 [] ws I2.kIn .nil r2 .nil rp2 hn.symm (hl2 _ _ _ e3) hp
      exact goes_kw FG hr hgd I2 hb hv (.inl ⟨F2, ys, z, rep2.wl, ra, hc, fun v F3 H3 e4 ex4 nw fr al rp4 => q v F3 H3 (rep2.call e4 ex4 nw fr) (st2.trans (StpE.call e4 nw fr al)) rp4⟩)
    · cases e0
  · cases e0
end
end Wh

set_option Elab.async false
set_option linter.all false
set_option maxRecDepth 100000
set_option maxHeartbeats 1000000
set_option exponentiation.threshold 5000
/-! Wh10b: calls that raise, lambdas that are handed to a def. -/
namespace Wh
open PySem PySem.Spec PyProof.Rows L2 Evl
variable [Tbl]

/-! ### calls that raise -/
/-- a def that raises: the class, by its name in the module -/
def spX (K : PySem.W.Frag) (mg : Str → Option Value) (g : List PyData → Option Str) : Sp := fun vs H _ E =>
  ∃ F xs e C, Wl F H ∧ RpA K F vs xs ∧ g xs = some e ∧ mg e = some (.ref C) ∧ ∀ F' H', Ex F F' → Wl F' H' → NewIn F H F' → (∀ a o, H a = some o → noT o → H' a = some o) → (∀ a, H' a = none → H a = none) → E (.ref C) none H'
def CallOkX (X : Cx) (exc : Str → List PyData → Option Str) (k : Nat) : Prop := ∀ f xs e, exc f xs = some e → ∃ fa fd ps, FnG X.prog X.w X.K X.mg X.base (L2.CX X.prog X.w) k fa fd ps (spX X.K X.mg (exc f)) ∧ X.mg f = some (.ref fa) ∧ PySem.W.keepIn X.K (.ref fa) = true ∧ Binds X.K fd ps []
/-- the reading of a call that raises -/
def tX (K : PySem.W.Frag) (mg : Str → Option Value) (fs : En → Option (List PyData × En)) (g : List PyData → Option Str) (W : WX) : TE := fun σ H _ =>
  ∃ ρ F xs ρ1 e C, Rep K ρ σ F H ∧ fs ρ = some (xs, ρ1) ∧ g xs = some e ∧ mg e = some (.ref C) ∧ ∀ F' H', Rep K ρ1 σ F' H' → StpE ρ σ F H ρ1 F' H' → W (.ref C) none σ H'
section
variable {X : Cx} {k : Nat} {f : Addr} {fd : FuncData} {ps : List Str} {sp : Sp} {x : Str} {p pos : Pos} {e : Expr} {es : List Expr} {t : TA} {W : WX} {exc : Str → List PyData → Option Str} {fs : En → Option (List PyData × En)}
theorem PA_nox (h : PA X.nox es t) : PA X es t := ⟨fun pos pins s σ H Q I hw =>
  wpAny_mono (h.run pos pins s σ H Q (I.wish _) hw) (fun _ _ ⟨v, H', I', r, q⟩ => ⟨v, H', I'.unwish, r, q⟩) fun _ _ z => False.elim z⟩
theorem PS_nox {st : Stmt} {t : TS} (h : PS X.nox st t) : PS X st t := ⟨fun pins s σ H D I hw =>
  wpAny_mono (h.run pins s σ H D (I.wish _) hw) (fun _ _ q => q.unwish) fun _ _ z => False.elim z⟩
theorem goes_callX {pins : List (Addr × Obj)} {σ : L2.St} {H : Hp} {s : Shared} {Q : VK} {us : List Value} {vs : List V} (F : FnG X.prog X.w X.K X.mg X.base (L2.CX X.prog X.w) k f fd ps sp) (room : Room k X.A) (gd : X.A.guards = some []) (bs : Binds X.K fd ps []) (tk : L2.Takes X W) (I : Inv X pins σ H s) (va : Vals vs us) (h : sp vs H Q (WE W σ)) :
    wpAny (model X.prog X.w) X.A (call (.ref f) us) (EP X pins σ Q) X.xe s := by
  have n : (us ++ ([] : List Value)).length = ps.length := by rw [List.append_nil, ← va.length, F.many h]
  have b := bs s us I.kIn n
  simp only [List.append_nil] at b
  refine wpAny_call (codeAny_mono (F.goes gd room I.env0 va b h) fun r s' q => ?_)
  match r, q with
  | .error e, q => exact passAt tk σ pins H s e s' I q
  | .ok (.ret u), q => exact I.after q
  | .ok .next, q => exact q.elim
  | .ok .brk, q => exact q.elim
  | .ok .cont, q => exact q.elim
theorem x_call (hC : CallOkX X exc k) (tk : L2.Takes X W) (hr : Room k X.A) (hgd : X.A.guards = some []) (hg : Gl X x) (hdb : (x == ("__debug__" : Str)) = false) (ha : PA X (e :: es) (tA X.K fs)) (he : starEach (e :: es) X.env = (false, eval e X.env) :: starEach es X.env) (hpl : (backTo pos (starEach es X.env)).any (·.1) = false) :
    PE X (.Call (.Name x p) (e :: es) [] pos) (tX X.K X.mg fs (exc x) W) := by
  refine ⟨fun pins s σ H Q I h => ?_⟩
  obtain ⟨ρ, F, xs, ρ1, en, C, rep, e1, e2, hm, q⟩ := h
  obtain ⟨fa, fd, ps, FG, hf, hk, hb⟩ := hC x xs en e2
  refine wpAny_Call_Name_kw (ld_glob I hg hf (PySem.W.callWith_K (h₀ := X.base) I.mod.kin hk
    (thn (ha.run pos pins s σ H (fun vs H1 => ∃ F1, Rep X.K ρ1 σ F1 H1 ∧ StpE ρ σ F H ρ1 F1 H1 ∧ RpA X.K F1 vs xs) I ⟨ρ, F, xs, ρ1, rep, e1, fun vs F1 H1 a b c => ⟨F1, a, b, c⟩⟩) fun us s' ⟨vs, H', J, va, F1, rep1, st1, rp1⟩ => ⟨J.kIn, goes_callX FG hr hgd hb tk J va ?_⟩) he hpl) hdb)
  exact ⟨F1, xs, en, C, rep1.wl, rp1, e2, hm, fun F' H' x1 x2 nw fr al => q F' H' (rep1.call x1 x2 nw fr) (st1.trans (StpE.call x1 nw fr al))⟩
end
end Wh

set_option Elab.async false
set_option linter.all false
set_option maxRecDepth 100000
set_option maxHeartbeats 1000000
set_option exponentiation.threshold 5000
/-! Wh10c: x(lambda: f(a, ..)). -/
namespace Wh
open PySem PySem.Spec PyProof.Rows L2 Evl LamX
variable [Tbl]
section
variable {X : Cx} {pins : List (Addr × Obj)} {σ : L2.St} {H HZ : Hp} {s s1 : Shared}
/-- the lambda is made; nothing that was tracked is gone -/
theorem lam_makeA {T : List (Addr × Str)} {c P : Addr} {params : Arguments} {body : Expr} {scope : Scope} {pos : Pos} {E : Value → Shared → Prop} {Q : Value → Shared → Prop} (I : Inv X pins σ H s) (TB : TabB X.base X.mg c P) (hcode : X.env.code = .ref c)
    (hm : (P, X.env.qual ++ "<lambda>") ∈ T) (hu : ∀ p ∈ T, p.1 = P → p.2 = X.env.qual ++ "<lambda>") (hT : Tabs T H) (hdef : defaultsOf params X.env = ([], [])) (hfree : ∀ y ∈ scope.names, y.2 = .free → ∃ c, X.env.cells.lookup y.1 = some c)
    (h : ∀ (f c' : Addr) (pm ctv : Value) (H1 : Hp) (s' : Shared), Inv X pins σ H1 s' → ExtN H H1 → (∀ a, H1 a = none → H a = none) → Tabs T H1 →
      s'.heap.get? f = some (PySem.W.kla_obj "<lambda>" (X.env.qual ++ "<lambda>") params body scope (cloFrom X.env.cells scope.names []) pm c' ctv) → H1 f = none → f ∉ frs X.stack → H1 c' = some (CodeO c' (X.env.qual ++ "<lambda>")) → Q (.ref f) s') :
    wpAny (model X.prog X.w) X.A (eval (.Lambda params body scope pos) X.env) Q E s := by
  obtain ⟨ps, hP, ht, ha⟩ := hT _ hm
  have bP : s.heap.BuiltinsAt X.mg P := TB.bm.keeps I.bk
  have hP' : s.heap.get? P = some { cls := .none, data := .fields ps } := I.hok P _ hP
  have out : ∀ f, s.heap.objs.size ≤ f → f ∉ frs X.stack := fun f hf z => (List.mem_cons.mp (I.stkSub _ z)).elim (fun e => by
    have h1 := I.lt
    rw [← e] at h1
    exact Nat.lt_irrefl _ (Nat.lt_of_lt_of_le h1 hf)) fun e => I.nofs hf e
  refine PySem.W.kla_eval hdef ?_
  cases hc : codeAmong pos ps.toList with
  | some cv =>
    obtain ⟨c', rfl, hco⟩ := ha pos cv hc
    refine PySem.W.kla_makeFunctionHit (mg := X.mg) (c := c) (P := P) (ps := ps) (closure_ok hfree) I.ok.glob (I.mod.glob.keeps I.bk) hcode (TB.code.keeps I.bk) hP' ht hc bP fun ctv h' tk hx hsz => ?_
    exact h h'.objs.size c' ((X.mg "__name__").getD .none) ctv H _ (I.kept fun b o e => Heap.get?_push_of_some _ (hx b o e)) (ExtN.refl H) (fun _ z => z) hT (Heap.get?_push_size _ rfl) (I.hok.fresh hsz) (out _ hsz) hco
  | none =>
    refine PySem.W.kla_makeFunction (mg := X.mg) (c := c) (P := P) (ps := ps) (closure_ok hfree) I.ok.glob (I.mod.glob.keeps I.bk) hcode (TB.code.keeps I.bk) hP' ht hc TB.gP bP fun c' ctv h' tk hx hge hlt hrec htb => ?_
    obtain ⟨c2, oc, vs, t, e2, hoc, hd, hv⟩ := hrec
    cases e2
    have hsz : s.heap.objs.size ≤ h'.objs.size := Nat.le_trans hge (Nat.le_of_lt hlt)
    have nC : H c' = none := I.hok.fresh hge
    have nPC : P ≠ c' := ne_of_none hP nC
    have I1 := inv_table (t' := tk) (more := #[rawInt pos.line, rawInt pos.col, .ref c']) (h' := h'.push (PySem.W.kla_obj "<lambda>" (X.env.qual ++ "<lambda>") params body scope (cloFrom X.env.cells scope.names []) ((X.mg "__name__").getD .none) c' ctv)) I hP
      (fun b o hb e => Heap.get?_push_of_some _ (hx b o hb e)) (Heap.get?_push_of_some _ htb) hge ⟨oc, vs, t, Heap.get?_push_of_some _ hoc, hd, hv⟩
    have keepN : ExtN H (upd (upd H P (.tbl (ps ++ #[rawInt pos.line, rawInt pos.col, .ref c']))) c' (CodeO c' (X.env.qual ++ "<lambda>"))) := fun b o e n => by
      have n1 : b ≠ P := fun z => n ps (Option.some.inj (e.symm.trans (by rw [z]; exact hP)))
      rw [upd_ne (ne_of_none e nC), upd_ne n1]
      exact e
    have eL : (ps ++ #[rawInt pos.line, rawInt pos.col, .ref c']).toList = ps.toList ++ [rawInt pos.line, rawInt pos.col, .ref c'] := by simp
    refine h h'.objs.size c' ((X.mg "__name__").getD .none) ctv _ _ I1 keepN (fun a z => upd_none' (upd_none' z)) (fun p hp => ?_) (Heap.get?_push_size _ rfl) ?_ (out _ hsz) upd_same
    · by_cases hb : p.1 = P
      · rw [hu p hp hb, hb]
        refine ⟨_, by rw [upd_ne nPC, upd_same], by rw [eL]; exact PySem.TriplesOk_snoc _ _ _ _ ht, fun p' cv hcv => ?_⟩
        rw [eL] at hcv
        rcases among_app _ ht hcv with z | z
        · obtain ⟨c0, e1, e2⟩ := ha p' cv z
          exact ⟨c0, e1, keepN _ _ e2 codeO_ne⟩
        · exact ⟨c', z, upd_same⟩
      · obtain ⟨ps', a1, a2, a3⟩ := hT p hp
        refine ⟨ps', by rw [upd_ne (ne_of_none a1 nC), upd_ne hb]; exact a1, a2, fun p' cv hcv => ?_⟩
        obtain ⟨c0, e1, e2⟩ := a3 p' cv hcv
        exact ⟨c0, e1, keepN _ _ e2 codeO_ne⟩
    · have n1 : h'.objs.size ≠ c' := Nat.ne_of_gt hlt
      have n2 : h'.objs.size ≠ P := Nat.ne_of_gt (Nat.lt_of_lt_of_le (Heap.lt_size hP') hsz)
      rw [upd_ne n1, upd_ne n2]
      exact I.hok.fresh hsz
/-- the lambda runs, called from within the def that got it; no repr runs around -/
theorem act_goes {qg : Str} {sg : Scope} {g f c' : Addr} {cdg pm ctv : Value} {params : Arguments} {body : Expr} {scope : Scope} {k : Nat} {E : XK} {tb : TE} {Q : VK}
    (I : Inv X pins σ H s) (L : LamS X.env.scope scope) (hgd : X.A.guards = some [])
    (hbind : bindArgs (PySem.W.kla_fn "<lambda>" (X.env.qual ++ "<lambda>") params body scope (cloFrom X.env.cells scope.names []) pm (.ref c') ctv) ⟨[], []⟩ = pure [])
    (hr : Room (k + 1) (X.A.deeper (envOfC qg sg s.heap.objs.size g cdg)))
    (hbody : ∀ (A : Around) (outer : List PySem.Env) (s : Shared) (H : Hp), A.guards = some [] → Room k (A.deeper (lamEnv X scope s.heap.objs.size f c')) → PE (lamCx X A outer s H E scope f c') body tb)
    (e0 : Env0 X.prog X.w X.K X.mg X.base (X.A.deeper (envOfC qg sg s.heap.objs.size g cdg)) (envOfC qg sg s.heap.objs.size g cdg :: X.stack) s1 HZ) (nl : s1.heap.NoLimit)
    (of1 : s1.heap.get? f = some (PySem.W.kla_obj "<lambda>" (X.env.qual ++ "<lambda>") params body scope (cloFrom X.env.cells scope.names []) pm c' ctv)) (un : Un (frs X.stack) [] H HZ s.heap s1.heap)
    (hc : ∃ (oc : Obj) (vs : Array Value) (t : Tok), s1.heap.get? c' = some oc ∧ oc.data = .fields vs ∧ vs[1]? = some (.str (X.env.qual ++ "<lambda>") t)) (ht : tb σ HZ Q) :
    codeAny (model X.prog X.w) (X.A.deeper (envOfC qg sg s.heap.objs.size g cdg)) (.call (.ref f) ⟨[], []⟩) (CR (L2.CX X.prog X.w) (envOfC qg sg s.heap.objs.size g cdg :: X.stack) X.prog X.w HZ s1 Q E) s1 := by
  obtain ⟨oc, vs, t, hoc, hdc, hvc⟩ := hc
  refine PySem.W.kla_callFunE hr.depth of1 rfl L.co L.gen rfl ⟨c', oc, vs, t, rfl, hoc, hdc, hvc⟩ ?_
  rw [hbind]
  refine wpAny_pure (wpAny_newFunctionEnv (fun y hy => (L.own y hy).2) (fun y hy => absurd hy (by simp)) (fun h₁ hns hsb => ⟨nl.fresh _ hsb, ?_⟩) L.kind)
  have kp : ∀ b o, s1.heap.get? b = some o → h₁.get? b = some o := fun b o e => hsb.extBut b o (Nat.ne_of_lt (Heap.lt_size e)) (Heap.get?_push_of_some _ e)
  have J : Inv (lamCx X (X.A.deeper (envOfC qg sg s.heap.objs.size g cdg)) (envOfC qg sg s.heap.objs.size g cdg :: X.stack) s1 HZ E scope f c') [] σ HZ { s1 with heap := h₁, toks := s1.toks + ([] : List (Str × Value)).length } :=
    lam_start2 I L e0 hr.hd un hns kp
  refine PySem.W.kla_codeExpr (wpAny_mono ((hbody (X.A.deeper (envOfC qg sg s.heap.objs.size g cdg)) (envOfC qg sg s.heap.objs.size g cdg :: X.stack) s1 HZ hgd (hr.deeper _)).run [] _ _ HZ Q J ht) (fun v s' hq => ?_) fun e s' hq => hq)
  obtain ⟨w', H', J', rv, q⟩ := hq
  exact ⟨w', H', J'.os, J'.bare, J'.base, J'.hok, rv, q⟩
/-- a(), in that def -/
theorem pe_actG {CXg : CXT} {Eg : XK} {Ng : List Str} {qg : Str} {sg : Scope} {g f c' : Addr} {cdg pm ctv : Value} {params : Arguments} {body : Expr} {scope : Scope} {k i : Nat} {a : Str} {pn : List (Addr × Obj)} {xe : Value → Shared → Prop} {W : WX} {E : XK} {tb : TE} {p1 p2 : Pos}
    (I : Inv X pins σ H s) (L : LamS X.env.scope scope) (hgd : X.A.guards = some []) (hf : s.heap.get? f = some (PySem.W.kla_obj "<lambda>" (X.env.qual ++ "<lambda>") params body scope (cloFrom X.env.cells scope.names []) pm c' ctv)) (hfn : H f = none) (hfr : f ∉ frs X.stack)
    (hbind : bindArgs (PySem.W.kla_fn "<lambda>" (X.env.qual ++ "<lambda>") params body scope (cloFrom X.env.cells scope.names []) pm (.ref c') ctv) ⟨[], []⟩ = pure [])
    (tk : L2.Takes ((cxOf CXg X.prog X.w X.K X.mg X.base Ng qg sg g cdg X.A X.stack s H Eg).tr pn xe) W) (hW : ∀ cls d σ' H', E cls d H' → W cls d σ' H') (hr : Room (k + 1) (X.A.deeper (envOfC qg sg s.heap.objs.size g cdg)))
    (hbody : ∀ (A : Around) (outer : List PySem.Env) (s : Shared) (H : Hp), A.guards = some [] → Room k (A.deeper (lamEnv X scope s.heap.objs.size f c')) → PE (lamCx X A outer s H E scope f c') body tb)
    (hN : Ng[i]? = some a) (hv : Vis sg a) (hd : (a == ("__debug__" : Str)) = false) (hcd : (a == ("__classdict__" : Str)) = false) :
    PE ((cxOf CXg X.prog X.w X.K X.mg X.base Ng qg sg g cdg X.A X.stack s H Eg).tr pn xe) (.Call (.Name a p1) [] [] p2)
      (fun σZ HZ Q => σZ[i]? = some (some (.ref f)) ∧ HZ c' = some (CodeO c' (X.env.qual ++ "<lambda>")) ∧ tb σ HZ Q) := by
  refine ⟨fun pinsZ sZ σZ HZ Q IZ h => ?_⟩
  obtain ⟨hs, hc, ht⟩ := h
  refine wpAny_Call_Name_kw (thn ((pe_var (pos := p1) (i := i) hN hv hd hcd).run pinsZ sZ σZ HZ (fun v H1 => v = .ref f ∧ H1 = HZ) IZ ⟨.ref f, hs, rfl, rfl⟩) fun u s1 ⟨v, H1, I1, r1, ev, eH⟩ => ?_)
  subst ev
  rw [eH] at I1
  obtain rfl : u = Value.ref f := r1
  have of1 : s1.heap.get? f = some (PySem.W.kla_obj "<lambda>" (X.env.qual ++ "<lambda>") params body scope (cloFrom X.env.cells scope.names []) pm c' ctv) := I1.base.keep f _ hf hfn hfr (fun z => nomatch (show f ∈ ([] : List Addr) from z))
  refine PySem.W.callWith_F0 ⟨_, _, _, _, of1⟩ ?_
  have rc := act_goes (s1 := s1) (HZ := HZ) (Q := Q) I L hgd hbind hr hbody I1.env0 I1.nolimit of1 I1.base (I1.hok c' _ hc).1 ht
  refine wpAny_call (codeAny_mono rc fun r s' hq => ?_)
  match r, hq with
  | .error e, hq => exact passes_call tk hW pinsZ σZ HZ s1 e s' I1 hq
  | .ok (.ret u), hq => exact I1.after hq
  | .ok .next, hq => exact hq.elim
  | .ok .brk, hq => exact hq.elim
  | .ok .cont, hq => exact hq.elim
end
/-- what the def makes of what the lambda tells or raises: ("told", v), or by the class -/
def TSaid (K : PySem.W.Frag) (mg : Str → Option Value) (ws : List (Str × PyData)) : (XK → Hp → VK → Prop) → Hp → VK → Prop := fun tl H Q =>
  tl (fun cls d H' => ∃ e C w F, cls = .ref C ∧ d = none ∧ mg e = some (.ref C) ∧ ws.lookup e = some w ∧ Wl F H' ∧ ∀ v F' H'', Ex F F' → Wl F' H'' → NewIn F H' F' → (∀ a o, H' a = some o → noT o → H'' a = some o) → (∀ a, H'' a = none → H' a = none) → Rp K F' v w → Q v H'')
    H fun v H' => [V.str "told", v].length ≤ sizeLine ∧ ∀ p, H' p = none → Q (.ref p) (upd H' p (.tup [.str "told", v]))
/-- the reading of x(lambda: ..) -/
def tLamA (T : List (Addr × Str)) (TT : (XK → Hp → VK → Prop) → Hp → VK → Prop) (t : XK → TE) : TE := fun σ H Q => Tabs T H ∧ ∀ H1, ExtN H H1 → (∀ a, H1 a = none → H a = none) → Tabs T H1 → TT (fun E H' Q' => t E σ H' Q') H1 Q
/-- a def that says what a lambda tells -/
def Says1 (X : Cx) (x : Str) (ws : List (Str × PyData)) : Prop :=
  ∃ (a : Str) (g : Addr) (pg : Arguments) (bg : List Stmt) (sg : Scope) (dV kV doc pm cdv ct oc : Value) (an od : Option Addr) (osl : Array (Option Value)) (Ng : List Str),
    X.mg x = some (.ref g) ∧ PySem.W.keepIn X.K (.ref g) = true ∧ X.K.lookup g = some ⟨oc, od, .func (PySem.W.fnOf x x pg bg sg dV kV doc pm an cdv ct), osl⟩ ∧ PySem.W.codeIn X.K cdv x = true ∧
    L2.Binds X.K (PySem.W.fnOf x x pg bg sg dV kV doc pm an cdv ct) [a] [] ∧ FnScope Ng [a] sg ∧ Ng[0]? = some a ∧ Vis sg a ∧ (a == ("__debug__" : Str)) = false ∧ (a == ("__classdict__" : Str)) = false ∧
    GivesTo X Ng x sg g cdv bg a (X.env.qual ++ "<lambda>") (TSaid X.K X.mg ws) ∧ ∀ e w, ws.lookup e = some w → ∃ C, X.mg e = some (.ref C)
/-- what a context brings for x(lambda: ..) -/
def SaysTo (X : Cx) (x : Str) (ws : List (Str × PyData)) : Prop := Says1 X x ws ∧ ∃ c P, TabB X.base X.mg c P ∧ X.env.code = .ref c ∧ (P, X.env.qual ++ "<lambda>") ∈ Tbl.T ∧ ∀ p ∈ Tbl.T, p.1 = P → p.2 = X.env.qual ++ "<lambda>"
/-- .. wherever it is called from -/
def SayD (K : PySem.W.Frag) (mg : Str → Option Value) (x : Str) (ws : List (Str × PyData)) : Prop := ∀ X : Cx, X.K = K → X.mg = mg → X.A.guards = some [] → Room 5 X.A → Says1 X x ws
section
variable {X : Cx} {x : Str} {ws : List (Str × PyData)} {params : Arguments} {body : Expr} {scope : Scope} {t : XK → TE} {p lpos pos : Pos} {k : Nat}
theorem pe_said (S : SaysTo X x ws) (hg : Gl X x) (hdb : (x == ("__debug__" : Str)) = false) (hr : Room (k + 2) X.A) (hgd : X.A.guards = some []) (L : LamS X.env.scope scope) (hdef : defaultsOf params X.env = ([], []))
    (hbind : ∀ (q : Str) (cl : List (Str × Addr)) (pm cv ctv : Value), bindArgs (PySem.W.kla_fn "<lambda>" q params body scope cl pm cv ctv) ⟨[], []⟩ = pure [])
    (hbody : ∀ (A : Around) (outer : List PySem.Env) (s : Shared) (H : Hp) (E : XK) (f c' : Addr), A.guards = some [] → Room k (A.deeper (lamEnv X scope s.heap.objs.size f c')) → PE (lamCx X A outer s H E scope f c') body (t E)) :
    PE X (.Call (.Name x p) [.Lambda params body scope lpos] [] pos) (tLamA Tbl.T (TSaid X.K X.mg ws) t) := by
  obtain ⟨⟨a, g, pg, bg, sg, dV, kV, doc, pm, cdv, ct, oc, an, od, osl, Ng, hm, hk, lk, hcg, hb, Sg, hNg, hva, hd, hcd, hG, _⟩, c, P, TB, hcode, hmT, hu⟩ := S
  refine ⟨fun pins s σ H Q I h => ?_⟩
  obtain ⟨hT, h⟩ := h
  refine wpAny_Call_Name_kw (ld_glob I hg hm ?_ hdb)
  refine PySem.W.callWith_K (h₀ := X.base) I.ok.mod.kin hk ?_ (by rfl) (by rfl)
  show wpAny _ _ (spliced ((false, eval (.Lambda params body scope lpos) X.env) :: backTo pos (starEach [] X.env))) _ _ s
  refine Calls.spliced_cons (lam_makeA I TB hcode hmT hu hT hdef (L.has I.ok) fun f c' pm' ctv H1 s' I1 eN al T1 hf hfn hfr hco => ?_)
  refine Calls.spliced_nil ⟨I1.kIn, ?_⟩
  have rc : codeAny (model X.prog X.w) X.A (.call (.ref g) ⟨[.ref f], []⟩) (CR C8.CX0 X.stack X.prog X.w H1 s' Q C8.E0) s' := by
    refine run_ofS (N := Ng) (ps := [a]) (us := [.ref f]) (vs := [.ref f]) lk hcg Sg hr I1.env0 (hb s' [.ref f] I1.kIn rfl) (.cons rfl .nil) rfl fun hr' => ?_
    obtain ⟨t', ht', hq'⟩ := hG f c' s' H1 Q (fun E H' Q' => t E σ H' Q') (fun W pn xe E p1 p2 tk hW => pe_actG (i := 0) I1 L hgd hf hfn hfr (hbind _ _ _ _ _) tk hW hr' (fun A outer s H hgd hr2 => hbody A outer s H E f c' hgd hr2) hNg hva hd hcd) hco (h H1 eN al T1)
    exact ⟨t', ht'.nox, hq'⟩
  refine wpAny_call (codeAny_mono rc fun r s2 hq => ?_)
  match r, hq with
  | .error e, hq => exact (show False from hq).elim
  | .ok (.ret u), hq => exact I1.after hq
  | .ok .next, hq => exact hq.elim
  | .ok .brk, hq => exact hq.elim
  | .ok .cont, hq => exact hq.elim
end
/-- the tables grow, nothing else -/
theorem Rep.tabs {K : PySem.W.Frag} {ρ : En} {σ : L2.St} {F H H1 : Hp} (r : Rep K ρ σ F H) (e : ExtN H H1) (t : Tabs Tbl.T H1) : Rep K ρ σ F H1 :=
  ⟨r.len, ⟨fun a o h => e a o (r.ex a o h) (r.wl.nt a o h), t, r.wl.nt⟩, r.dat, fun i b xs h => by
    obtain ⟨p, vs, h1, h2, h3, h4⟩ := r.own i b xs h
    exact ⟨p, vs, h1, h2, e _ _ h3 (fun _ z => by cases z), h4⟩, r.dis, r.xc⟩
theorem StpE.tabs {ρ : En} {σ : L2.St} {F H H1 : Hp} (e : ExtN H H1) (al : ∀ a, H1 a = none → H a = none) : StpE ρ σ F H ρ F H1 :=
  ⟨⟨Ex.refl F, fun _ _ h => .inl h, fun a o h _ nt => e a o h nt, fun _ h => .inl h, al, fun i xs h => ⟨rfl, xs, h⟩⟩, fun _ h => h⟩
section
variable {X : Cx} {c : Cfg} {k : Nat} {x f : Str} {ws : List (Str × PyData)} {params : Arguments} {scope : Scope} {p pf lpos bpos pos : Pos} {e : Expr} {es : List Expr} {fs : En → Option (List PyData × En)}
theorem takes_lam {A : Around} {outer : List PySem.Env} {s : Shared} {H : Hp} {E : XK} {f c' : Addr} : L2.Takes (lamCx X A outer s H E scope f c') (fun cls d _ H => E cls d H) := takes_of rfl rfl rfl rfl
/-- the lambda's body: it tells or it raises -/
def tBody (K : PySem.W.Frag) (mg : Str → Option Value) (c : Cfg) (f : Str) (fs : En → Option (List PyData × En)) (E : XK) : TE := fun σ H Q => ∃ ρ F xs ρ1, Rep K ρ σ F H ∧ fs ρ = some (xs, ρ1) ∧
  ((∃ x, c.call f none xs = some (x, none) ∧ ∀ v F' H', Rep K ρ1 σ F' H' → StpE ρ σ F H ρ1 F' H' → Rp K F' v x → Q v H') ∨ ∃ e C, c.exc f xs = some e ∧ mg e = some (.ref C) ∧ ∀ F' H', Rep K ρ1 σ F' H' → StpE ρ σ F H ρ1 F' H' → E (.ref C) none H')
theorem e_said (S : SaysTo X x ws) (hC : CallOk X c.call k) (hX : CallOkX X c.exc k) (hg : Gl X x) (hdb : (x == ("__debug__" : Str)) = false) (hr : Room (k + 2) X.A) (hgd : X.A.guards = some []) (L : LamS X.env.scope scope) (hdef : defaultsOf params X.env = ([], []))
    (hbind : ∀ (q : Str) (cl : List (Str × Addr)) (pm cv ctv : Value), bindArgs (PySem.W.kla_fn "<lambda>" q params (.Call (.Name f pf) (e :: es) [] bpos) scope cl pm cv ctv) ⟨[], []⟩ = pure [])
    (hgf : scope.names.lookup f = some .globalImplicit) (hdf : (f == ("__debug__" : Str)) = false)
    (he : ∀ env, starEach (e :: es) env = (false, eval e env) :: starEach es env) (hpl : ∀ env, (backTo bpos (starEach es env)).any (·.1) = false)
    (ha : ∀ (A : Around) (outer : List PySem.Env) (s : Shared) (H : Hp) (E : XK) (f c' : Addr), A.guards = some [] → Room k (A.deeper (lamEnv X scope s.heap.objs.size f c')) → PA (lamCx X A outer s H E scope f c').nox (e :: es) (tA X.K fs)) :
    PE X (.Call (.Name x p) [.Lambda params (.Call (.Name f pf) (e :: es) [] bpos) scope lpos] [] pos) (tE X.K fun ρ => bnd (fs ρ) fun xs ρ => match c.call f none xs with
    | some (x, none) => some (.tuple [.str "told", x], ρ)
    | _ => match c.exc f xs with
      | some e => match ws.lookup e with
        | some w => some (w, ρ)
        | none => none
      | none => none) := by
  refine (pe_said (k := k) (t := tBody X.K X.mg c f fs) S hg hdb hr hgd L hdef hbind fun A outer s H E fa c' hgA hrA => ?_).wk fun σ H Q h => ?_
  · have gl : Gl (lamCx X A outer s H E scope fa c') f := hgf
    have hA := ha A outer s H E fa c' hgA hrA
    have p1 := PE.nox (X := lamCx X A outer s H E scope fa c') (e_call (X := (lamCx X A outer s H E scope fa c').nox) (p := pf) (pos := bpos) (c := c) (k := k) hC hrA hgA hgf hdf hA (he _) (hpl _))
    have p2 := x_call (X := lamCx X A outer s H E scope fa c') (p := pf) (pos := bpos) (exc := c.exc) (k := k) hX takes_lam hrA hgA gl hdf (PA_nox hA) (he _) (hpl _)
    refine ⟨fun pins s σ H Q I h => ?_⟩
    obtain ⟨ρ, F, xs, ρ1, rep, e1, ⟨z, e2, q⟩ | ⟨en, C, e2, hm, q⟩⟩ := h
    · refine p1.run pins s σ H Q I ⟨ρ, F, z, ρ1, rep, ?_, q⟩
      show bnd (fs ρ) _ = _
      rw [e1, bnd_some, e2]
    · exact p2.run pins s σ H Q I ⟨ρ, F, xs, ρ1, en, C, rep, e1, e2, hm, q⟩
  · obtain ⟨ρ, F, z, ρ', rep, e0, q⟩ := h
    obtain ⟨xs, ρ1, e1, e0⟩ := bnd_eq e0
    refine ⟨rep.wl.tab, fun H1 eN al T1 => ⟨ρ, F, xs, ρ1, rep.tabs eN T1, e1, ?_⟩⟩
    have st1 := StpE.tabs (ρ := ρ) (σ := σ) (F := F) eN al
    split at e0
    · rename_i y hc
      cases e0
      refine .inl ⟨y, hc, fun v F' H' rep' st' rp' => ⟨by simp [sizeLine], fun p0 hp => ?_⟩⟩
      refine q (.ref p0) (upd F' p0 (.tup [.str "told", v])) (upd H' p0 (.tup [.str "told", v])) (rep'.lay hp) ((st1.trans st').trans (StpE.lay rep' hp)) ?_
      have e : Ex F' (upd F' p0 (.tup [.str "told", v])) := Ex.new (fresh_back rep'.ex hp)
      exact .tup (SqT.of upd_same) (.cons (.str _) (.cons (rp'.mono e) .nil))
    · split at e0
      · rename_i en hx
        split at e0
        · rename_i w hw
          cases e0
          obtain ⟨⟨_, _, _, _, _, _, _, _, _, _, _, _, _, _, _, _, _, _, _, _, _, _, _, _, _, _, _, hcl⟩, _⟩ := S
          obtain ⟨C, hm⟩ := hcl en z hw
          refine .inr ⟨en, C, hx, hm, fun F' H' rep' st' => ⟨en, C, z, F', rfl, rfl, hm, hw, rep'.wl, fun v F2 H2 x1 x2 nw fr al' rp => ?_⟩⟩
          exact q v F2 H2 (rep'.call x1 x2 nw fr) ((st1.trans st').trans (StpE.call x1 nw fr al')) rp
        · cases e0
      · cases e0
end
end Wh

set_option Elab.async false
set_option linter.all false
set_option maxRecDepth 100000
set_option maxHeartbeats 1000000
set_option exponentiation.threshold 5000
/-! Wh11: statements. -/
namespace Wh
open PySem PySem.Spec PyProof.Rows L2 Evl
variable [Tbl]

def RetC (K : PySem.W.Frag) (fr : Bool) (ρ : En) (σ : L2.St) (F H : Hp) (x : PyData) (ρ' : En) (rt : VK) : Prop := match fr with
  | false => ∀ v σ' F' H', Rep K ρ' σ' F' H' → Stp ρ σ F H ρ' σ' F' H' → Rp K F' v x → rt v H'
  | true => ∃ ys, x = .list ys ∧ ∀ p ws σ' F' H', Rep K ρ' σ' F' H' → Stp ρ σ F H ρ' σ' F' H' → H p = none → F' p = none → H' p = some (.lst ws) → RpA K F' ws ys → rt (.ref p) H'
def EndC (K : PySem.W.Frag) (fr : Bool) (D : Ends) (ρ : En) (σ : L2.St) (F H : Hp) (fl : Fl) (ρ' : En) : Prop := match fl with
  | .next => ∀ σ' F' H', Rep K ρ' σ' F' H' → Stp ρ σ F H ρ' σ' F' H' → D.nx σ' H'
  | .brk => ∀ σ' F' H', Rep K ρ' σ' F' H' → Stp ρ σ F H ρ' σ' F' H' → D.bk σ' H'
  | .cont => ∀ σ' F' H', Rep K ρ' σ' F' H' → Stp ρ σ F H ρ' σ' F' H' → D.ct σ' H'
  | .ret x => RetC K fr ρ σ F H x ρ' D.rt
def tS (K : PySem.W.Frag) (fr : Bool) (f : En → Option (Fl × En)) : TS := fun D σ H => ∃ ρ F fl ρ', Rep K ρ σ F H ∧ f ρ = some (fl, ρ') ∧ EndC K fr D ρ σ F H fl ρ'
section
variable {K : PySem.W.Frag} {fr : Bool} {D : Ends} {ρ ρ1 ρ' : En} {σ σ1 : L2.St} {F F1 H H1 : Hp} {fl : Fl}
theorem EndC.step (k : EndC K fr D ρ σ F H fl ρ') (st : Stp ρ σ F H ρ1 σ1 F1 H1) : EndC K fr D ρ1 σ1 F1 H1 fl ρ' := by
  cases fl with
  | next => exact fun σ' F' H' r s => k σ' F' H' r (st.trans s)
  | brk => exact fun σ' F' H' r s => k σ' F' H' r (st.trans s)
  | cont => exact fun σ' F' H' r s => k σ' F' H' r (st.trans s)
  | ret x =>
    cases fr with
    | false => exact fun v σ' F' H' r s => k v σ' F' H' r (st.trans s)
    | true =>
      obtain ⟨ys, e, k⟩ := k
      exact ⟨ys, e, fun p ws σ' F' H' r s h0 => k p ws σ' F' H' r (st.trans s) (st.alive p h0)⟩
end
section
variable {X : Cx} {fr : Bool} {pos : Pos} {st : Stmt} {rest a b : List Stmt} {f g : En → Option (Fl × En)} {e : Expr} {fe : En → Option (PyData × En)} {gt : En → Option (Bool × En)} {i : Nat}
theorem ss_nil : PSs X [] (tS X.K fr fun ρ => some (.next, ρ)) := pss_nil.wk fun D σ H h => by
  obtain ⟨ρ, F, fl, ρ', rep, e, k⟩ := h
  cases e
  exact k σ F H rep Stp.refl
theorem ss_cons (h1 : PS X st (tS X.K fr f)) (h2 : PSs X rest (tS X.K fr g)) : PSs X (st :: rest) (tS X.K fr fun ρ => bnd (f ρ) fun fl ρ => match fl with
    | .next => g ρ
    | f => some (f, ρ)) := (pss_cons h1 h2).wk fun D σ H h => by
  obtain ⟨ρ, F, fl, ρ', rep, e, k⟩ := h
  obtain ⟨fl1, ρ1, e1, e⟩ := bnd_eq e
  cases fl1 with
  | next => exact ⟨ρ, F, .next, ρ1, rep, e1, fun σ1 F1 H1 rep1 st1 => ⟨ρ1, F1, fl, ρ', rep1, e, k.step st1⟩⟩
  | brk => cases e; exact ⟨ρ, F, .brk, ρ', rep, e1, k⟩
  | cont => cases e; exact ⟨ρ, F, .cont, ρ', rep, e1, k⟩
  | ret x => cases e; exact ⟨ρ, F, .ret x, ρ', rep, e1, k⟩
theorem s_of_set {st : Stmt} (h : PS X st (tAsg (tE X.K fe) (gName i))) : PS X st (tS X.K fr fun ρ => bnd (fe ρ) fun x ρ => if i < ρ.length then some (.next, ρ.set i (some (.d x))) else none) := h.wk fun D σ H h => by
  obtain ⟨ρ, F, fl, ρ', rep, e, k⟩ := h
  obtain ⟨x, ρ1, e1, e⟩ := bnd_eq e
  split at e
  · cases e
    exact ⟨ρ, F, x, ρ1, rep, e1, fun v F1 H1 rep1 st1 rp1 => k _ F1 H1 (rep1.setD rp1) (st1.toStp.trans Stp.setD)⟩
  · cases e
theorem tE_of_L {K : PySem.W.Frag} (hl : ∀ ρ x ρ', fe ρ = some (x, ρ') → ∃ xs, x = .list xs) (σ : L2.St) (H : Hp) (Q : VK) (h : tE K fe σ H Q) : tEL K fe σ H Q := by
  obtain ⟨ρ, F, x, ρ', rep, e, q⟩ := h
  obtain ⟨xs, rfl⟩ := hl _ _ _ e
  refine ⟨ρ, F, xs, ρ', rep, e, fun p vs F1 H1 rep1 st1 h0 hf hh ha => ?_⟩
  have no : ¬ Own ρ' σ p := fun o => rep.none_own h0 (st1.str p o)
  refine q _ _ H1 (rep1.frz hh hf no) ⟨⟨st1.ext.trans (Ex.new hf), fun a o hu => ?_, st1.fr, st1.own, st1.alive, st1.pen⟩, st1.str⟩ (.lst (SqL.of upd_same) (ha.mono (Ex.new hf)))
  by_cases hq : a = p
  · subst hq; exact .inr (.inl h0)
  · rw [upd_ne hq] at hu; exact st1.new a o hu
theorem s_of_setL {st : Stmt} (h : PS X st (tAsg (tEL X.K fe) (gName i))) (hl : ∀ ρ x ρ', fe ρ = some (x, ρ') → ∃ xs, x = .list xs) : PS X st (tS X.K fr fun ρ => bnd (fe ρ) fun x ρ => if i < ρ.length then some (.next, ρ.set i (some (.d x))) else none) :=
  s_of_set (h.wk fun D σ H h => tE_of_L hl σ H _ h)
theorem s_of_seto {st : Stmt} (h : PS X st (tAsg (tEL X.K fe) (gName i))) : PS X st (tS X.K fr fun ρ => bnd (fe ρ) fun x ρ => match x with
    | .list xs => if i < ρ.length then some (.next, ρ.set i (some (.own false xs))) else none
    | _ => none) := h.wk fun D σ H h => by
  obtain ⟨ρ, F, fl, ρ', rep, e, k⟩ := h
  obtain ⟨x, ρ1, e1, e⟩ := bnd_eq e
  have hx : ∃ xs, x = .list xs := by
    cases x with
    | list xs => exact ⟨xs, rfl⟩
    | _ => cases e
  obtain ⟨xs, rfl⟩ := hx
  simp only at e
  split at e
  · cases e
    refine ⟨ρ, F, xs, ρ1, rep, e1, fun p vs F1 H1 rep1 st1 h0 hf hh ha => k _ F1 H1 (rep1.setO hf hh (fun o => rep.none_own h0 (st1.str p o)) ha) ?_⟩
    have st1' := st1.toStp
    refine ⟨st1'.ext, st1'.new, st1'.fr, fun q hq => ?_, st1'.alive, fun j ys hj => ?_⟩
    · obtain ⟨j, b, zs, h1, h2⟩ := hq
      rw [get_set] at h1 h2
      by_cases ej : i = j
      · rw [if_pos ej] at h2
        split at h2
        · cases h2; exact .inr h0
        · cases h2
      · rw [if_neg ej] at h1 h2
        exact st1'.own q ⟨j, b, zs, h1, h2⟩
    · rw [get_set] at hj
      split at hj
      · first | (split at hj <;> cases hj) | cases hj
      · rename_i ej
        rw [get_set, if_neg ej]
        exact st1'.pen j ys hj
  · cases e
theorem s_expr (he : PE X e (tE X.K fe)) (hs : swapsWith e none pos.line X.env = pure false) : PS X (.Expr e pos) (tS X.K fr fun ρ => bnd (fe ρ) fun _ ρ => some (.next, ρ)) := (ps_expr he hs).wk fun D σ H h => by
  obtain ⟨ρ, F, fl, ρ', rep, e, k⟩ := h
  obtain ⟨x, ρ1, e1, e⟩ := bnd_eq e
  cases e
  exact ⟨ρ, F, x, ρ', rep, e1, fun v F1 H1 rep1 st1 rp1 => k σ F1 H1 rep1 st1.toStp⟩
theorem s_ret (he : PE X e (tE X.K fe)) : PS X (.Return (some e) pos) (tS X.K false fun ρ => bnd (fe ρ) fun x ρ => some (.ret x, ρ)) := (ps_ret he).wk fun D σ H h => by
  obtain ⟨ρ, F, fl, ρ', rep, e, k⟩ := h
  obtain ⟨x, ρ1, e1, e⟩ := bnd_eq e
  cases e
  exact ⟨ρ, F, x, ρ', rep, e1, fun v F1 H1 rep1 st1 rp1 => k v σ F1 H1 rep1 st1.toStp rp1⟩
theorem s_retL (he : PE X e (tEL X.K fe)) : PS X (.Return (some e) pos) (tS X.K true fun ρ => bnd (fe ρ) fun x ρ => some (.ret x, ρ)) := (ps_ret he).wk fun D σ H h => by
  obtain ⟨ρ, F, fl, ρ', rep, e, k⟩ := h
  obtain ⟨x, ρ1, e1, e⟩ := bnd_eq e
  cases e
  obtain ⟨ys, rfl, k⟩ := k
  exact ⟨ρ, F, ys, ρ', rep, e1, fun p ws F1 H1 rep1 st1 h0 hf hh ha => k p ws σ F1 H1 rep1 st1.toStp h0 hf hh ha⟩
theorem s_retN : PS X (.Return none pos) (tS X.K false fun ρ => some (.ret .none, ρ)) := ps_retN.wk fun D σ H h => by
  obtain ⟨ρ, F, fl, ρ', rep, e, k⟩ := h
  cases e
  exact k .non σ F H rep Stp.refl .non
theorem s_pass : PS X (.Pass pos) (tS X.K fr fun ρ => some (.next, ρ)) := ps_pass.wk fun D σ H h => by
  obtain ⟨ρ, F, fl, ρ', rep, e, k⟩ := h
  cases e
  exact k σ F H rep Stp.refl
theorem s_doc {x : Str} {j : Nat} {pos' : Pos} : PS X (.Expr (.Constant (.str x) j pos) pos') (tS X.K fr fun ρ => some (.next, ρ)) := ps_doc.wk fun D σ H h => by
  obtain ⟨ρ, F, fl, ρ', rep, e, k⟩ := h
  cases e
  exact k σ F H rep Stp.refl
theorem s_brk : PS X (.Break pos) (tS X.K fr fun ρ => some (.brk, ρ)) := ps_break.wk fun D σ H h => by
  obtain ⟨ρ, F, fl, ρ', rep, e, k⟩ := h
  cases e
  exact k σ F H rep Stp.refl
theorem s_cont : PS X (.Continue pos) (tS X.K fr fun ρ => some (.cont, ρ)) := ps_continue.wk fun D σ H h => by
  obtain ⟨ρ, F, fl, ρ', rep, e, k⟩ := h
  cases e
  exact k σ F H rep Stp.refl
theorem s_never : PS X st (tS X.K fr fun _ => none) := ps_never.wk fun D σ H h => by
  obtain ⟨ρ, F, fl, ρ', rep, e, k⟩ := h
  cases e
theorem s_ite {t : Expr} (ht : PT X t (tT X.K gt)) (ha : PSs X a (tS X.K fr f)) (hb : PSs X b (tS X.K fr g)) : PS X (.If t a b pos) (tS X.K fr fun ρ => bnd (gt ρ) fun r ρ => match r with
    | true => f ρ
    | false => g ρ) := (ps_if ht ha hb).wk fun D σ H h => by
  obtain ⟨ρ, F, fl, ρ', rep, e, k⟩ := h
  obtain ⟨r, ρ1, e1, e⟩ := bnd_eq e
  refine ⟨ρ, F, r, ρ1, rep, e1, fun F1 H1 rep1 st1 => ?_⟩
  cases r with
  | true => exact L2.iteT ⟨ρ1, F1, fl, ρ', rep1, e, k.step st1.toStp⟩
  | false => exact L2.iteF ⟨ρ1, F1, fl, ρ', rep1, e, k.step st1.toStp⟩
/-! unpacking -/
theorem s_unp {ts : List Tg} {tg : Expr} (h : PS X st (tAsg (tE X.K fe) (tG X.K (slotsT (.tup ts)) (bindT (.tup ts))))) : PS X st (tS X.K fr fun ρ => bnd (fe ρ) fun x ρ => match bindT (.tup ts) x ρ with
    | none => none
    | some ρ => some (.next, ρ)) := h.wk fun D σ H h => by
  obtain ⟨ρ, F, fl, ρ', rep, e, k⟩ := h
  obtain ⟨x, ρ1, e1, e⟩ := bnd_eq e
  split at e
  · cases e
  · rename_i ρ2 hb
    cases e
    exact ⟨ρ, F, x, ρ1, rep, e1, fun v F1 H1 rep1 st1 rp1 => ⟨ρ1, F1, x, ρ', rep1, rp1, hb, fun σ' rep2 sb _ _ => k σ' F1 H1 rep2 (st1.toStp.trans (Stp.same sb))⟩⟩
variable {fs : En → Option (List PyData × En)} {j l : Nat}
/-- a, b = x, y: stores swapped -/
theorem s_par2 {x y : Str} {a b : Expr} {px py pt pt2 : Pos} {kt k2 : Nat} (hc : X.calm = true) (hN : X.N.Nodup) (hi : X.N[i]? = some x) (hj : X.N[j]? = some y) (hij : i ≠ j)
    (hx : X.env.scope.names.lookup x = some .local) (hy : X.env.scope.names.lookup y = some .local) (ha : PA X [a, b] (tA X.K fs))
    (hw : swappedStores [.Tuple [.Name x px, .Name y py] kt pt] (.Tuple [a, b] k2 pt2) X.env = pure (some [x, y])) (hs : swapsWithSole [.Tuple [.Name x px, .Name y py] kt pt] (.Tuple [a, b] k2 pt2) pos.line X.env = pure false) :
    PS X (.Assign [.Tuple [.Name x px, .Name y py] kt pt] (.Tuple [a, b] k2 pt2) pos) (tS X.K fr fun ρ => bnd (fs ρ) fun xs ρ => match setAll [i, j] xs ρ with
    | none => none
    | some ρ => some (.next, ρ)) := (ps_par hc hN hi hj hij hx hy ha hw hs).wk fun D σ H h => by
  obtain ⟨ρ, F, fl, ρ', rep, e, k⟩ := h
  obtain ⟨xs, ρ1, e1, e⟩ := bnd_eq e
  split at e
  · cases e
  · rename_i ρ2 hb
    cases e
    refine ⟨ρ, F, xs, ρ1, rep, e1, fun vs F1 H1 rep1 st1 rp1 => ?_⟩
    cases rp1 with
    | nil => simp only [setAll] at hb; cases hb
    | cons r1 rp1 =>
      cases rp1 with
      | nil => simp only [setAll] at hb; split at hb <;> cases hb
      | cons r2 rp1 =>
        cases rp1 with
        | cons _ _ =>
          simp only [setAll] at hb
          split at hb
          · split at hb <;> cases hb
          · cases hb
        | nil =>
          simp only [setAll] at hb
          split at hb
          · split at hb
            · cases hb
              exact ⟨_, _, rfl, k _ F1 H1 ((rep1.setD r1).setD r2) ((st1.toStp.trans Stp.setD).trans Stp.setD)⟩
            · cases hb
          · cases hb
/-! several names at once, some of which take new lists of one's own -/
inductive RpO (K : PySem.W.Frag) (H F H' : Hp) : List Bool → List V → List PyData → Prop
  | nil : RpO K H F H' [] [] []
  | dat {v : V} {d : PyData} {os : List Bool} {vs : List V} {ds : List PyData} : Rp K F v d → RpO K H F H' os vs ds → RpO K H F H' (false :: os) (v :: vs) (d :: ds)
  | own {p : Addr} {ws : List V} {xs : List PyData} {os : List Bool} {vs : List V} {ds : List PyData} : H p = none → F p = none → H' p = some (.lst ws) → RpA K F ws xs → (∀ j : Nat, os[j]? = some true → vs[j]? ≠ some (V.ref p)) → RpO K H F H' os vs ds → RpO K H F H' (true :: os) (V.ref p :: vs) (.list xs :: ds)
theorem RpO.fresh {K : PySem.W.Frag} {H F H' : Hp} : ∀ {os : List Bool} {vs : List V} {ds : List PyData} {j : Nat} {p : Addr}, RpO K H F H' os vs ds → os[j]? = some true → vs[j]? = some (V.ref p) → H p = none
  | _, _, _, _, _, .nil, h, _ => by simp at h
  | _, _, _, 0, _, .dat _ _, h, _ => by simp at h
  | _, _, _, 0, _, .own h0 _ _ _ _ _, _, e => by simp at e; subst e; exact h0
  | _, _, _, j + 1, _, .dat _ t, h, e => RpO.fresh (j := j) t (by simpa using h) (by simpa using e)
  | _, _, _, j + 1, _, .own _ _ _ _ _ t, h, e => RpO.fresh (j := j) t (by simpa using h) (by simpa using e)
theorem RpO.early {K : PySem.W.Frag} {H1 H F H' : Hp} (e : ∀ a, H1 a = none → H a = none) : ∀ {os : List Bool} {vs : List V} {ds : List PyData}, RpO K H1 F H' os vs ds → RpO K H F H' os vs ds
  | _, _, _, .nil => .nil
  | _, _, _, .dat h t => .dat h (RpO.early e t)
  | _, _, _, .own h0 h1 h2 h3 h4 t => .own (e _ h0) h1 h2 h3 h4 (RpO.early e t)
def LstAt : List Bool → List PyData → Prop
  | true :: os, x :: xs => (∃ ys, x = .list ys) ∧ LstAt os xs
  | false :: os, _ :: xs => LstAt os xs
  | _, _ => True
theorem setAllO_lst : ∀ {is : List Nat} {os : List Bool} {ds : List PyData} {ρ ρ' : En}, setAllO is os ds ρ = some ρ' → LstAt os ds
  | _, [], _, _, _, _ => by simp [LstAt]
  | _, _ :: _, [], _, _, _ => by simp [LstAt]
  | [], true :: _, _ :: _, _, _, h => by simp [setAllO] at h
  | [], false :: _, _ :: _, _, _, h => by simp [setAllO] at h
  | i :: is, true :: os, x :: xs, ρ, ρ', h => by
    simp only [setAllO] at h
    split at h
    · split at h
      · exact ⟨⟨_, rfl⟩, setAllO_lst h⟩
      · cases h
    · cases h
  | i :: is, false :: os, x :: xs, ρ, ρ', h => by
    simp only [setAllO] at h
    split at h
    · exact setAllO_lst (os := os) h
    · cases h
def tAF (K : PySem.W.Frag) (os : List Bool) (f : En → Option (List PyData × En)) : TA := fun σ H Q => ∃ ρ F x ρ', Rep K ρ σ F H ∧ f ρ = some (x, ρ') ∧ LstAt os x ∧ ∀ vs F' H', Rep K ρ' σ F' H' → StpE ρ σ F H ρ' F' H' → RpO K H F' H' os vs x → Q vs H'
theorem af_nil : PA X [] (tAF X.K [] fun ρ => some ([], ρ)) := pa_nil.wk fun σ H Q h => by
  obtain ⟨ρ, F, x, ρ', rep, e, _, q⟩ := h
  cases e
  exact q [] F H rep StpE.refl .nil
theorem af_dat {a : Expr} {es : List Expr} {fa : En → Option (PyData × En)} {fs : En → Option (List PyData × En)} {os : List Bool} (ha : PE X a (tE X.K fa)) (hr : PA X es (tAF X.K os fs)) (hs : starEach (a :: es) X.env = (false, eval a X.env) :: starEach es X.env) :
    PA X (a :: es) (tAF X.K (false :: os) fun ρ => bnd (fa ρ) fun x ρ => bnd (fs ρ) fun xs ρ => some (x :: xs, ρ)) := by
  refine (pa_cons ha hr hs).wk fun σ H Q h => ?_
  obtain ⟨ρ, F, z, ρ', rep, e, ls, q⟩ := h
  obtain ⟨x, ρ1, e1, e⟩ := bnd_eq e
  obtain ⟨xs, ρ2, e2, e⟩ := bnd_eq e
  cases e
  exact ⟨ρ, F, x, ρ1, rep, e1, fun v F1 H1 rep1 st1 rp1 => ⟨ρ1, F1, xs, ρ', rep1, e2, ls, fun vs F2 H2 rep2 st2 rp2 => q (v :: vs) F2 H2 rep2 (st1.trans st2) (.dat (rp1.mono st2.ext) (rp2.early st1.alive))⟩⟩
theorem af_own {a : Expr} {es : List Expr} {fa : En → Option (PyData × En)} {fs : En → Option (List PyData × En)} {os : List Bool} (ha : PE X a (tEL X.K fa)) (hr : PA X es (tAF X.K os fs)) (hs : starEach (a :: es) X.env = (false, eval a X.env) :: starEach es X.env) : PA X (a :: es) (tAF X.K (true :: os) fun ρ => bnd (fa ρ) fun x ρ => bnd (fs ρ) fun xs ρ => some (x :: xs, ρ)) := by
  refine (pa_cons ha hr hs).wk fun σ H Q h => ?_
  obtain ⟨ρ, F, z, ρ', rep, e, ls, q⟩ := h
  obtain ⟨x, ρ1, e1, e⟩ := bnd_eq e
  obtain ⟨xs, ρ2, e2, e⟩ := bnd_eq e
  cases e
  obtain ⟨ys, rfl⟩ := ls.1
  refine ⟨ρ, F, ys, ρ1, rep, e1, fun p ws F1 H1 rep1 st1 h0 hf hh hA => ⟨ρ1, F1, xs, ρ', rep1, e2, ls.2, fun vs F2 H2 rep2 st2 rp2 => ?_⟩⟩
  have no : ¬ Own ρ1 σ p := fun o => rep.none_own h0 (st1.str p o)
  have f2 : F2 p = none := by
    cases hx : F2 p with
    | none => rfl
    | some o =>
      rcases st2.new p o hx with h | h | h
      · rw [hf] at h; cases h
      · rw [hh] at h; cases h
      · exact absurd h no
  refine q (V.ref p :: vs) F2 H2 rep2 (st1.trans st2) (.own h0 f2 (st2.fr p _ hh no (fun _ z => by cases z)) (hA.mono st2.ext) (fun j hj hv => ?_) (rp2.early st1.alive))
  have := rp2.fresh hj hv
  rw [hh] at this; cases this
def setsV : List Nat → List V → L2.St → L2.St
  | i :: is, v :: vs, σ => setsV is vs (σ.set i (some v))
  | _, _, σ => σ
theorem Stp.setO {ρ ρ1 : En} {σ σ1 : L2.St} {F F1 H H1 : Hp} {p : Addr} {xs : List PyData} {i : Nat} (st1 : Stp ρ σ F H ρ1 σ1 F1 H1) (h0 : H p = none) : Stp ρ σ F H (ρ1.set i (some (.own false xs))) (σ1.set i (some (V.ref p))) F1 H1 := by
  refine ⟨st1.ext, st1.new, st1.fr, fun q hq => ?_, st1.alive, fun j ys hj => ?_⟩
  · obtain ⟨j, b, zs, h1, h2⟩ := hq
    rw [get_set] at h1 h2
    by_cases ej : i = j
    · rw [if_pos ej] at h2
      split at h2
      · cases h2; exact .inr h0
      · cases h2
    · rw [if_neg ej] at h1 h2
      exact st1.own q ⟨j, b, zs, h1, h2⟩
  · rw [get_set] at hj
    split at hj
    · first | (split at hj <;> cases hj) | cases hj
    · rename_i ej
      rw [get_set, if_neg ej]
      exact st1.pen j ys hj
theorem own_setO {ρ : En} {σ : L2.St} {i : Nat} {p q : Addr} {xs : List PyData} (o : Own (ρ.set i (some (.own false xs))) (σ.set i (some (V.ref p))) q) : q = p ∨ Own ρ σ q := by
  obtain ⟨j, b, zs, h1, h2⟩ := o
  rw [get_set] at h1 h2
  by_cases ej : i = j
  · rw [if_pos ej] at h2
    split at h2
    · cases h2; exact .inl rfl
    · cases h2
  · rw [if_neg ej] at h1 h2
    exact .inr ⟨j, b, zs, h1, h2⟩
theorem stores {K : PySem.W.Frag} {ρ : En} {σ : L2.St} {F H F1 H1 : Hp} : ∀ {is : List Nat} {os : List Bool} {vs : List V} {ds : List PyData} {ρ1 ρ2 : En} {σ1 : L2.St}, RpO K H F1 H1 os vs ds → setAllO is os ds ρ1 = some ρ2 → Rep K ρ1 σ1 F1 H1 → Stp ρ σ F H ρ1 σ1 F1 H1 →
    (∀ (j : Nat) (p : Addr), os[j]? = some true → vs[j]? = some (V.ref p) → ¬ Own ρ1 σ1 p) → Rep K ρ2 (setsV is vs σ1) F1 H1 ∧ Stp ρ σ F H ρ2 (setsV is vs σ1) F1 H1 ∧ is.length = vs.length
  | [], _, _, _, ρ1, ρ2, σ1, .nil, e, r, st, _ => by
    simp only [setAllO] at e; cases e; exact ⟨r, st, rfl⟩
  | _ :: _, _, _, _, ρ1, ρ2, σ1, .nil, e, r, st, _ => by simp only [setAllO] at e; cases e
  | [], _, _, _, ρ1, ρ2, σ1, .dat _ _, e, r, st, _ => by simp only [setAllO] at e; cases e
  | [], _, _, _, ρ1, ρ2, σ1, .own _ _ _ _ _ _, e, r, st, _ => by simp only [setAllO] at e; cases e
  | i :: is, _, _, _, ρ1, ρ2, σ1, .dat h t, e, r, st, no => by
    simp only [setAllO] at e
    split at e
    · obtain ⟨a1, a2, a3⟩ := stores t e (r.setD h) (st.trans Stp.setD) fun j p hj hv o => no (j + 1) p (by simpa using hj) (by simpa using hv) (own_setD o)
      exact ⟨a1, a2, by simp [a3]⟩
    · cases e
  | i :: is, _, _, _, ρ1, ρ2, σ1, .own (p := p) h0 h1 h2 h3 h4 t, e, r, st, no => by
    simp only [setAllO] at e
    split at e
    · obtain ⟨a1, a2, a3⟩ := stores t e (r.setO h1 h2 (no 0 p rfl rfl) h3) (st.setO h0) fun j q hj hv o => by
        rcases own_setO o with rfl | o
        · exact h4 j hj hv
        · exact no (j + 1) q (by simpa using hj) (by simpa using hv) o
      exact ⟨a1, a2, by simp [a3]⟩
    · cases e
theorem s_paro2 {os : List Bool} {x y : Str} {a b : Expr} {px py pt pt2 : Pos} {kt k2 : Nat} (hc : X.calm = true) (hN : X.N.Nodup) (hi : X.N[i]? = some x) (hj : X.N[j]? = some y) (hij : i ≠ j)
    (hx : X.env.scope.names.lookup x = some .local) (hy : X.env.scope.names.lookup y = some .local) (ha : PA X [a, b] (tAF X.K os fs))
    (hw : swappedStores [.Tuple [.Name x px, .Name y py] kt pt] (.Tuple [a, b] k2 pt2) X.env = pure (some [x, y])) (hs : swapsWithSole [.Tuple [.Name x px, .Name y py] kt pt] (.Tuple [a, b] k2 pt2) pos.line X.env = pure false) :
    PS X (.Assign [.Tuple [.Name x px, .Name y py] kt pt] (.Tuple [a, b] k2 pt2) pos) (tS X.K fr fun ρ => bnd (fs ρ) fun xs ρ => match setAllO [i, j] os xs ρ with
    | none => none
    | some ρ => some (.next, ρ)) := (ps_par hc hN hi hj hij hx hy ha hw hs).wk fun D σ H h => by
  obtain ⟨ρ, F, fl, ρ', rep, e, k⟩ := h
  obtain ⟨xs, ρ1, e1, e⟩ := bnd_eq e
  split at e
  · cases e
  · rename_i ρ2 hb
    cases e
    refine ⟨ρ, F, xs, ρ1, rep, e1, setAllO_lst hb, fun vs F1 H1 rep1 st1 rp1 => ?_⟩
    obtain ⟨a1, a2, a3⟩ := stores rp1 hb rep1 st1.toStp fun j p hj hv o => rep.none_own (rp1.fresh hj hv) (st1.str p o)
    match vs, a3 with
    | [v, w], _ => exact ⟨v, w, rfl, k _ F1 H1 a1 a2⟩
theorem s_paro3 {os : List Bool} {x y z : Str} {a b c : Expr} {px py pz pt pt2 : Pos} {kt k2 : Nat} (hc : X.calm = true) (hN : X.N.Nodup) (hi : X.N[i]? = some x) (hj : X.N[j]? = some y) (hl : X.N[l]? = some z) (hij : i ≠ j) (hil : i ≠ l) (hjl : j ≠ l)
    (hx : X.env.scope.names.lookup x = some .local) (hy : X.env.scope.names.lookup y = some .local) (hz : X.env.scope.names.lookup z = some .local) (ha : PA X [a, b, c] (tAF X.K os fs))
    (hw : swappedStores [.Tuple [.Name x px, .Name y py, .Name z pz] kt pt] (.Tuple [a, b, c] k2 pt2) X.env = pure (some [x, y, z])) (hs : swapsWithSole [.Tuple [.Name x px, .Name y py, .Name z pz] kt pt] (.Tuple [a, b, c] k2 pt2) pos.line X.env = pure false) :
    PS X (.Assign [.Tuple [.Name x px, .Name y py, .Name z pz] kt pt] (.Tuple [a, b, c] k2 pt2) pos) (tS X.K fr fun ρ => bnd (fs ρ) fun xs ρ => match setAllO [i, j, l] os xs ρ with
    | none => none
    | some ρ => some (.next, ρ)) := (ps_par3 hc hN hi hj hl hij hil hjl hx hy hz ha hw hs).wk fun D σ H h => by
  obtain ⟨ρ, F, fl, ρ', rep, e, k⟩ := h
  obtain ⟨xs, ρ1, e1, e⟩ := bnd_eq e
  split at e
  · cases e
  · rename_i ρ2 hb
    cases e
    refine ⟨ρ, F, xs, ρ1, rep, e1, setAllO_lst hb, fun vs F1 H1 rep1 st1 rp1 => ?_⟩
    obtain ⟨a1, a2, a3⟩ := stores rp1 hb rep1 st1.toStp fun j p hj hv o => rep.none_own (rp1.fresh hj hv) (st1.str p o)
    match vs, a3 with
    | [u, v, w], _ => exact ⟨u, v, w, rfl, k _ F1 H1 a1 a2⟩
/-! a list of one's own is changed -/
theorem s_seti {x : Str} {px ps : Pos} {b : Expr} {fb : En → Option (PyData × En)} (hN : X.N[i]? = some x) (hv : Vis X.env.scope x) (hd : (x == ("__debug__" : Str)) = false) (hcd : (x == ("__classdict__" : Str)) = false) (he : PE X e (tE X.K fe)) (hb : PE X b (tE X.K fb))
    (hs : swapsWithSole [.Subscript (.Name x px) b ps] e pos.line X.env = pure false) (hw : swappedStores [.Subscript (.Name x px) b ps] e X.env = pure none) (h1 : (assignEach [.Subscript (.Name x px) b ps] X.env).map (·.2) = [assign (.Subscript (.Name x px) b ps) X.env])
    (ha : ∀ v, assign (.Subscript (.Name x px) b ps) X.env v = (do
      let ov ← holding [v] (eval (.Name x px) X.env)
      let iv ← holding [v, ov] (eval b X.env)
      standAt ps
      holding [v, ov, iv] (setItem ov iv v)
      release [v, ov, iv] [])) :
    PS X (.Assign [.Subscript (.Name x px) b ps] e pos) (tS X.K fr fun ρ => bnd (fe ρ) fun x ρ => match ρ[i]? with
    | some (some _) => bnd (fb ρ) fun y ρ => match ρ[i]?, y with
      | some (some (Sv.own b xs)), .int k => match ixN xs.length k with
        | some j => some (.next, ρ.set i (some (.own b (xs.set j x))))
        | none => none
      | _, _ => none
    | _ => none) := (ps_asg he (pg_sub (pe_var hN hv hd hcd) hb set_list ha) hs hw h1).wk fun D σ H h => by
  obtain ⟨ρ, F, fl, ρ', rep, e, k⟩ := h
  obtain ⟨x, ρ1, e1, e⟩ := bnd_eq e
  split at e
  · rename_i sv hsv
    obtain ⟨y, ρ2, e2, e⟩ := bnd_eq e
    split at e
    · rename_i bb xs kk hx
      split at e
      · rename_i jj hj
        cases e
        refine ⟨ρ, F, x, ρ1, rep, e1, fun v F1 H1 rep1 st1 rp1 => ?_⟩
        obtain ⟨w, hw0⟩ := rep1.at_ hsv
        refine ⟨w, hw0, ρ1, F1, _, ρ2, rep1, e2, fun vy F2 H2 rep2 st2 rp2 => ?_⟩
        cases rp2
        obtain ⟨p, vs, g1, g2, g3, g4⟩ := rep2.own i bb xs hx
        rw [hw0] at g1; cases g1
        refine ⟨p, vs, kk, jj, rfl, rfl, g3, by rw [g4.len]; exact hj, ?_⟩
        exact k σ F2 _ (rep2.putO hx hw0 (g4.set (rp1.mono st2.ext) jj)) ((st1.trans st2).trans (StpE.putO hx hw0)).toStp
      · cases e
    · cases e
  · cases e
theorem s_app {x : Str} {px pa pc : Pos} (hN : X.N[i]? = some x) (hv : Vis X.env.scope x) (hd : (x == ("__debug__" : Str)) = false) (hcd : (x == ("__classdict__" : Str)) = false) (he : PE X e (tE X.K fe)) (hst : starEach [e] X.env = (false, eval e X.env) :: starEach [] X.env)
    (hline : (pa.endLine == pc.line) = true) : PS X (.Expr (.Call (.Attribute (.Name x px) "append" pa) [e] [] pc) pos) (tS X.K fr fun ρ => match ρ[i]? with
    | some (some (Sv.own _ _)) => bnd (fe ρ) fun x ρ => match ρ[i]? with
      | some (some (Sv.own b xs)) => if xs.length < sizeLine then some (.next, ρ.set i (some (.own b (xs ++ [x])))) else none
      | _ => none
    | _ => none) := (ps_expr (pe_bm PySem.F.plainAttrs_list PySem.F.slot_list_append PySem.F.type_list_append mt_append (pe_var hN hv hd hcd) (pa_cons he pa_nil hst) rfl (by rw [hst]; rfl) hline hst rfl) rfl).wk fun D σ H h => by
  obtain ⟨ρ, F, fl, ρ', rep, e, k⟩ := h
  simp only at e
  split at e
  · rename_i b0 xs0 hx0
    obtain ⟨x, ρ1, e1, e⟩ := bnd_eq e
    split at e
    · rename_i bb xs hx
      split at e
      · rename_i hz
        cases e
        obtain ⟨p0, vs0, g1, g2, g3, g4⟩ := rep.own i b0 xs0 hx0
        refine ⟨_, g1, Or.inl ⟨rfl, vs0, SqL.of g3⟩, ρ, F, x, ρ1, rep, e1, fun v F1 H1 rep1 st1 rp1 => ?_⟩
        obtain ⟨p, vs, q1, q2, q3, q4⟩ := rep1.own i bb xs hx
        rw [g1] at q1; cases q1
        refine ⟨p0, vs, v, rfl, rfl, q3, by rw [q4.len]; exact hz, ?_⟩
        exact k σ F1 _ (rep1.putO hx g1 (q4.append (.one rp1))) (st1.trans (StpE.putO hx g1)).toStp
      · cases e
    · cases e
  · cases e
/-! loops -/
theorem s_for {tgE iter : Expr} {tg : Tg} {fi : En → Option (List PyData × En)} (hp : PassesOwn (model X.prog X.w) X.A X.env X.xe) (hc : X.calm = true) (hi : PI X tgE iter (tIt X.K fi)) (hg : PG X tgE (tG X.K (slotsT tg) (bindT tg))) (hb : PSs X a (tS X.K fr f))
    (hs : ∀ x, foldedSetIterable iter X.env x = pure x) : PS X (.For tgE iter a [] pos) (tS X.K fr fun ρ => bnd (fi ρ) fun xs ρ => forI (fun x ρ => match bindT tg x ρ with
      | none => none
      | some ρ => f ρ) xs ρ) := (ps_for hp hc hi hg hb hs).wk fun D σ H h => by
  obtain ⟨ρ, F, fl, ρ', rep, e, k⟩ := h
  obtain ⟨items, ρ1, e1, e⟩ := bnd_eq e
  refine ⟨ρ, F, items, ρ1, rep, e1, fun J F1 H1 rep1 st1 wl => ?_⟩
  have k1 := k.step st1.toStp
  generalize hstep : (fun x ρ => match bindT tg x ρ with
      | none => none
      | some ρ => f ρ) = step at e
  refine ⟨fun i m σ' H' => ∃ ρ2 F2, Rep X.K ρ2 σ' F2 H' ∧ Stp ρ1 σ F1 H1 ρ2 σ' F2 H' ∧ forI step (items.drop i) ρ2 = some (fl, ρ') ∧ i ≤ items.length ∧ m = items.length - i, ⟨items.length, ρ1, F1, rep1, Stp.refl, e, Nat.zero_le _, rfl⟩, ?_⟩
  rintro i m σ' H' ⟨ρ2, F2, rep2, st2, hf, hi', rfl⟩
  by_cases hlt : i < items.length
  · have hd : items[i]? = some items[i] := List.getElem?_eq_getElem hlt
    rw [List.drop_eq_getElem_cons hlt] at hf
    simp only [forI] at hf
    refine .inr ⟨wl.go i F2 H' st2.ext rep2.ex hlt, fun σ'' H'' => ∃ ρ2 F2, Rep X.K ρ2 σ'' F2 H'' ∧ Stp ρ1 σ F1 H1 ρ2 σ'' F2 H'' ∧ forI step (items.drop (i + 1)) ρ2 = some (fl, ρ'), fun σ'' H'' n => ?_, fun x H2 hy => ?_⟩
    · obtain ⟨ρ3, F3, q1, q2, q3⟩ := n
      exact ⟨items.length - (i + 1), by omega, ρ3, F3, q1, q2, q3, hlt, rfl⟩
    · obtain ⟨F3, rep3, st3, rp3⟩ : ∃ F3, Rep X.K ρ2 σ' F3 H2 ∧ StpE ρ2 σ' F2 H' ρ2 F3 H2 ∧ Rp X.K F3 x items[i] := by
        rcases wl.yld i F2 H' x H2 _ st2.ext rep2.ex hd hy with ⟨rfl, h⟩ | ⟨T, o, nTo, hT, rfl, h⟩
        · exact ⟨F2, rep2, StpE.refl, h⟩
        · exact ⟨_, rep2.lay hT nTo, StpE.lay rep2 hT, h⟩
      have s3 := st2.trans st3.toStp
      cases hs1 : step items[i] ρ2 with
      | none => rw [hs1] at hf; cases hf
      | some pr =>
        obtain ⟨fl1, ρ4⟩ := pr
        rw [hs1] at hf
        rw [← hstep] at hs1
        simp only at hs1
        split at hs1
        · cases hs1
        rename_i ρ5 hb5
        refine ⟨ρ2, F3, items[i], ρ5, rep3, rp3, hb5, fun σ5 rep5 sb5 _ _ => ⟨ρ5, F3, fl1, ρ4, rep5, hs1, ?_⟩⟩
        have s5 : Stp ρ1 σ F1 H1 ρ5 σ5 F3 H2 := s3.trans (Stp.same sb5)
        cases fl1 with
        | next => exact fun σ6 F6 H6 rep6 st6 => ⟨ρ4, F6, rep6, s5.trans st6, hf⟩
        | cont => exact fun σ6 F6 H6 rep6 st6 => ⟨ρ4, F6, rep6, s5.trans st6, hf⟩
        | brk =>
          simp only at hf
          cases hf
          exact fun σ6 F6 H6 rep6 st6 => k1 σ6 F6 H6 rep6 (s5.trans st6)
        | ret y =>
          simp only at hf
          cases hf
          exact EndC.step (fl := .ret y) k1 s5
  · have hi2 : i = items.length := by omega
    subst hi2
    rw [List.drop_length] at hf
    simp only [forI] at hf
    cases hf
    exact .inl ⟨wl.stop _ F2 H' st2.ext rep2.ex rfl, k1 σ' F2 H' rep2 st2⟩
theorem s_wh {t : Expr} {n : Nat} (hp : PassesOwn (model X.prog X.w) X.A X.env X.xe) (ht : PT X t (tT X.K gt)) (hb : PSs X a (tS X.K fr f)) : PS X (.While t a [] pos) (tS X.K fr (whI gt f n)) := (ps_while hp ht hb).wk fun D σ H h => by
  obtain ⟨ρ, F, fl, ρ', rep, e, k⟩ := h
  refine ⟨fun m σ' H' => ∃ ρ2 F2, Rep X.K ρ2 σ' F2 H' ∧ Stp ρ σ F H ρ2 σ' F2 H' ∧ whI gt f m ρ2 = some (fl, ρ'), ⟨n, ρ, F, rep, Stp.refl, e⟩, ?_⟩
  rintro m σ' H' ⟨ρ2, F2, rep2, st2, hw⟩
  cases m with
  | zero => simp only [whI] at hw; cases hw
  | succ m =>
    simp only [whI] at hw
    split at hw
    · cases hw
    · rename_i ρ3 h3
      cases hw
      exact ⟨ρ2, F2, false, ρ', rep2, h3, fun F3 H3 rep3 st3 => L2.iteF (k σ' F3 H3 rep3 (st2.trans st3.toStp))⟩
    · rename_i ρ3 h3
      refine ⟨ρ2, F2, true, ρ3, rep2, h3, fun F3 H3 rep3 st3 => L2.iteT ⟨fun σ'' H'' => ∃ ρ2 F2, Rep X.K ρ2 σ'' F2 H'' ∧ Stp ρ σ F H ρ2 σ'' F2 H'' ∧ whI gt f m ρ2 = some (fl, ρ'), fun σ'' H'' n => ⟨m, Nat.lt_succ_self m, n⟩, ?_⟩⟩
      have s3 := st2.trans st3.toStp
      split at hw
      · cases hw
      · rename_i ρ4 h4
        exact ⟨ρ3, F3, .next, ρ4, rep3, h4, fun σ6 F6 H6 rep6 st6 => ⟨ρ4, F6, rep6, s3.trans st6, hw⟩⟩
      · rename_i ρ4 h4
        exact ⟨ρ3, F3, .cont, ρ4, rep3, h4, fun σ6 F6 H6 rep6 st6 => ⟨ρ4, F6, rep6, s3.trans st6, hw⟩⟩
      · rename_i ρ4 h4
        cases hw
        exact ⟨ρ3, F3, .brk, ρ', rep3, h4, fun σ6 F6 H6 rep6 st6 => k σ6 F6 H6 rep6 (s3.trans st6)⟩
      · rename_i y ρ4 h4
        cases hw
        exact ⟨ρ3, F3, .ret y, ρ', rep3, h4, EndC.step (fl := .ret y) k s3⟩
end
end Wh

set_option Elab.async false
set_option linter.all false
set_option maxRecDepth 100000
set_option maxHeartbeats 1000000
set_option exponentiation.threshold 5000
/-! Wh12: from the text to the small language. -/
namespace Wh
open PySem PySem.Spec PyProof.Rows L2 Evl

/-- what a translation knows: names by slot, the scope that runs, the written one, the slots that are kept as lists of one's own, the defs that take a list first and change it, those that hand back a new list, shapes of calls; whether all may be used; calls on the exception that is held; defs that say what a lambda tells; classes that are raised -/
structure Tc where
  N : List Str
  sc : Scope
  raw : Scope
  ow : List Nat
  pf : Str → Bool
  fr : Str → Bool
  kw : Str → List Kw
  cm : Bool
  ec : Str → List Str → Option (Nat × PyData)
  sd : Str → Option (List (Str × PyData))
  cl : List Str
def plainName (x : Str) : Bool := !(x == ("__debug__" : Str)) && !(x == ("__classdict__" : Str))
def visK : Option NameKind → Bool
  | some .local => true
  | some .cell => true
  | some .free => true
  | _ => false
def slotOf (T : Tc) (x : Str) : Option Nat := match T.N.findIdx? (· == x) with
  | none => none
  | some i => if visK (T.sc.names.lookup x) && plainName x then some i else none
def glb (T : Tc) (x : Str) : Bool := (T.sc.names.lookup x == some .globalImplicit) && plainName x
def noStar : Expr → Bool
  | .Starred _ _ => false
  | _ => true
def noSlice : Expr → Bool
  | .Slice _ _ _ _ => false
  | _ => true
def noSet : Expr → Bool
  | .Set _ _ _ => false
  | _ => true
def plainTest : Expr → Bool
  | .UnaryOp .Not _ _ => false
  | .BoolOp _ _ _ => false
  | .IfExp _ _ _ _ => false
  | .Compare _ _ _ _ => false
  | _ => true
def conD : Const → Option PyData
  | .none => some PyData.none
  | .bool b => some (.bool b)
  | .int i => some (.int i)
  | .str x => some (.str x)
  | _ => none
def tyNm (x : Str) : Option Ty :=
  if x = Str.ofString "int" then some .int else if x = Str.ofString "bool" then some .bool else if x = Str.ofString "str" then some .str else if x = Str.ofString "tuple" then some .tuple else if x = Str.ofString "list" then some .list else if x = Str.ofString "dict" then some .dict else none
def b1Nm (x : Str) : Option B1 :=
  if x = Str.ofString "len" then some .len else if x = Str.ofString "abs" then some .abs else if x = Str.ofString "int" then some .int else if x = Str.ofString "all" then some .all else if x = Str.ofString "any" then some .any
  else if x = Str.ofString "repr" then some .repr else if x = Str.ofString "tuple" then some .tuple else if x = Str.ofString "list" then some .list else if x = Str.ofString "str" then some .str else if x = Str.ofString "sorted" then some .srt else none
def b2Nm (x : Str) : Option B2 := if x = Str.ofString "max" then some .max else if x = Str.ofString "min" then some .min else if x = Str.ofString "divmod" then some .dvm else none
/-- the built-ins that the language knows: the module must not bind them -/
def bltNames : List String := ["len", "abs", "int", "all", "any", "repr", "tuple", "list", "isinstance", "bool", "str", "dict", "max", "min", "range", "enumerate", "zip", "sorted", "set", "divmod"]
def trA (r : Expr → Option Ep) : List Expr → Option (List Ep)
  | [] => some []
  | e :: es => match noStar e, r e, trA r es with
    | true, some a, some as => some (a :: as)
    | _, _, _ => none
def trOp (r : Expr → Option Ep) : Option Expr → Option (Option Ep)
  | none => some none
  | some e => match r e with
    | some a => some (some a)
    | none => none
def trB (r : Expr → Option Ep) (op : BoolOp) : List Expr → Option Ep
  | [] => none
  | [e] => r e
  | e :: f :: es => match r e, trB r op (f :: es) with
    | some a, some b => match op with
      | .And => some (.and a b)
      | .Or => some (.or a b)
    | _, _ => none
def trBT (r : Expr → Option Tp) (op : BoolOp) : List Expr → Option Tp
  | [] => none
  | [e] => r e
  | e :: f :: es => match r e, trBT r op (f :: es) with
    | some a, some b => match op with
      | .And => some (.and a b)
      | .Or => some (.or a b)
    | _, _ => none
def locK (T : Tc) (x : Str) : Bool := ((T.raw.names.lookup x == some .local) && (T.sc.names.lookup x == some .local)) || ((T.raw.names.lookup x == some .cell) && (T.sc.names.lookup x == some .cell))
def trG (T : Tc) : Nat → Expr → Option Tg
  | 0, _ => none
  | n + 1, .Name x _ => match T.N.findIdx? (· == x) with
    | some i => if locK T x then some (.name i) else none
    | none => none
  | n + 1, .Tuple es _ _ => match es.mapM (fun e => if noStar e then trG T n e else none) with
    | some ts => if T.cm then some (.tup ts) else none
    | none => none
  | _, _ => none
def isTup : Expr → Bool
  | .Tuple _ _ _ => true
  | _ => false
def trI (r : Expr → Option Ep) (T : Tc) (tg : Expr) : Expr → Option It'
  | .Call (.Name f p) args [] pos =>
    if f = Str.ofString "range" then
      (if glb T f then match args with
        | [a] => if noStar a then (r a).map .rng1 else none
        | [a, b] => match noStar a, noStar b, r a, r b with
          | true, true, some x, some y => some (.rng2 x y)
          | _, _, _, _ => none
        | _ => none
      else none)
    else if f = Str.ofString "zip" then
      (if glb T f && isTup tg then match args with
        | [a, b] => match noStar a, noStar b, r a, r b with
          | true, true, some x, some y => some (.zip x y)
          | _, _, _, _ => none
        | _ => none
      else none)
    else if f = Str.ofString "enumerate" then
      (if glb T f && isTup tg then match args with
        | [a] => match noStar a, r a with
          | true, some x => some (.enum x)
          | _, _ => none
        | _ => none
      else none)
    else (r (.Call (.Name f p) args [] pos)).map .seq
  | e => if noSet e then (r e).map .seq else none
def trCall (r : Expr → Option Ep) (T : Tc) (f : Str) (args : List Expr) : Option Ep :=
  if !glb T f then none
  else if f = Str.ofString "isinstance" then match args with
    | [a, .Name t _] => match tyNm t, noStar a, glb T t, r a with
      | some ty, true, true, some x => some (.b1 (.isi ty) x)
      | _, _, _, _ => none
    | _ => none
  else if !T.cm then none
  else match b1Nm f with
    | some b => match args with
      | [a] => match noStar a, r a with
        | true, some x => some (.b1 b x)
        | _, _ => none
      | _ => none
    | none => match b2Nm f with
      | some b => match args with
        | [a, d] => match noStar a, noStar d, r a, r d with
          | true, true, some x, some y => some (.b2 b x y)
          | _, _, _, _ => none
        | _ => none
      | none => if T.pf f then match args with
          | .Name y _ :: es => match slotOf T y, trA r es with
            | some i, some xs => some (.callp f i xs)
            | _, _ => none
          | _ => none
        else match (T.kw f).find? (fun sh => sh.ks.isEmpty && sh.n == args.length) with
          | some sh => match args with
            | _ :: _ => (trA r args).map fun xs => .callk f xs sh.ix
            | [] => none
          | none => (trA r args).map (.call f)
def sameKs : List Keyword → List Str → Bool
  | [], [] => true
  | k :: kws, x :: ks => (k.arg == some x) && noStar k.value && sameKs kws ks
  | _, _ => false
/-- f(a, .., k = v, ..) -/
def trCallK (r : Expr → Option Ep) (T : Tc) (f : Str) (args : List Expr) (kws : List Keyword) : Option Ep :=
  if !(T.cm && glb T f) then none
  else match (T.kw f).find? (fun sh => sameKs kws sh.ks && sh.n == args.length) with
    | some sh => match trA r args, trA r (kws.map (·.value)) with
      | some xs, some ys => some (.callk f (xs ++ ys) sh.ix)
      | _, _ => none
    | none => none
def trNest (r : Expr → Option Ep) (T : Tc) (f : Str) (args : List Expr) : Option Ep := match args with
  | [.Call (.Name g _) [a] [] _] =>
    if f = Str.ofString "sorted" ∧ g = Str.ofString "set" then (if T.cm && (glb T f && glb T g && noStar a) then (r a).map .srs else none)
    else if f = Str.ofString "tuple" ∧ g = Str.ofString "range" then (if T.cm && (glb T f && glb T g && noStar a) then (r a).map .trg else none)
    else none
  | [.Name x _] => if f = Str.ofString "len" ∧ glb T f = true then match slotOf T x with
      | some i => if T.ow.contains i then some (.olen i) else none
      | none => none
    else none
  | _ => none
def trIn (r : Expr → Option Ep) (T : Tc) (a : Expr) (o : CmpOp) (b : Expr) : Option Ep := match o, b with
  | .In, .Name x _ => match slotOf T x with
    | some i => if T.ow.contains i then (r a).map fun y => .oin false y i else none
    | none => none
  | .NotIn, .Name x _ => match slotOf T x with
    | some i => if T.ow.contains i then (r a).map fun y => .oin true y i else none
    | none => none
  | _, _ => none
def noCall0 : Expr → Bool
  | .Call (.Name _ _) [] [] _ => false
  | _ => true
def glbName (T : Tc) : Expr → Option Str
  | .Name x _ => match slotOf T x with
    | some _ => none
    | none => if glb T x then some x else none
  | _ => none
def trMeth (r : Expr → Option Ep) (T : Tc) (o : Expr) (m : Str) (pa : Pos) (args : List Expr) (pos : Pos) : Option Ep := match args with
  | [a] => match noStar a, pa.endLine == pos.line, r a with
    | true, true, some y =>
      if m = Str.ofString "get" then (glbName T o).map fun x => .gget x y
      else if m = Str.ofString "count" then (if noCall0 o then (r o).map fun x => .cnt x y else none)
      else if m = Str.ofString "index" then (if noCall0 o then (r o).map fun x => .idx x y else none)
      else none
    | _, _, _ => none
  | _ => none
def ownOf (T : Tc) (scope : Scope) : List (Str × Nat) := scope.names.filterMap fun y => if y.2 == .local || y.2 == .cell then (T.N.findIdx? (· == y.1)).map fun i => (y.1, i) else none
def blkT (T : Tc) (scope : Scope) : Tc := { T with sc := relS scope T.sc, raw := scope, ec := fun _ _ => none, sd := fun _ => none }
def trTs (r : Expr → Option Tp) : List Expr → Option (List Tp)
  | [] => some []
  | [t] => (r t).map fun x => [x]
  | _ => none
def trComp (rE : Tc → Expr → Option Ep) (rT : Tc → Expr → Option Tp) (T : Tc) (elt : Expr) (gens : List Comprehension) (scope : Scope) : Option Ep := match gens with
  | [⟨tg, iter, ifs, 0⟩] => match trI (rE T) T tg iter, trG (blkT T scope) 8 tg, trTs (rT (blkT T scope)) ifs, rE (blkT T scope) elt with
    | some it, some t, some cs, some x => if T.cm && blkC T.N T.sc scope (ownOf T scope) && (slotsT t).all (fun j => ((ownOf T scope).map (·.2)).contains j) && noSet iter then some (.comp x t it cs ((ownOf T scope).map (·.2))) else none
    | _, _, _, _ => none
  | _ => none
def namesOf : List Expr → Option (List Str)
  | [] => some []
  | .Name x _ :: es => (namesOf es).map (x :: ·)
  | _ => none
def trEc (T : Tc) (f : Expr) (args : List Expr) (kws : List Keyword) : Option (Nat × PyData) := match f, kws, namesOf args with
  | .Name f _, [], some ns => T.ec f ns
  | _, _, _ => none
/-- a lambda's own -/
def lamT (T : Tc) (scope : Scope) : Tc := { T with sc := scope, raw := scope, ow := [], cm := false, ec := fun _ _ => none, sd := fun _ => none }
def noPar (p : Arguments) : Bool := p.posonlyargs.isEmpty && p.args.isEmpty && p.vararg.isNone && p.kwonlyargs.isEmpty && p.kwarg.isNone && p.defaults.isEmpty && p.kw_defaults.isEmpty
/-- x(lambda: f(a, ..)) -/
def trSaid (rE : Tc → Expr → Option Ep) (T : Tc) (x : Str) (args : List Expr) : Option Ep := match T.sd x, args with
  | some ws, [.Lambda params (.Call (.Name f _) (a :: as) [] _) scope _] =>
    if T.cm && glb T x && noPar params && LamX.lamSB T.sc scope && glb (lamT T scope) f && !T.pf f then (trA (rE (lamT T scope)) (a :: as)).map (.said x ws f) else none
  | _, _ => none
def stepE (rE : Tc → Expr → Option Ep) (rT : Tc → Expr → Option Tp) (T : Tc) : Expr → Option Ep
  | .Constant k _ _ => (conD k).map .con
  | .Name x _ => match slotOf T x with
    | some i => some (.var i)
    | none => if glb T x then some (.glob x) else none
  | .BinOp a o b _ => match o, a with
    | .Mult, .List es _ => match trA (rE T) es, rE T b with
      | some xs, some y => some (.repl xs y)
      | _, _ => none
    | _, _ => match opOf o, rE T a, rE T b with
      | some bo, some x, some y => some (.bin bo x y)
      | _, _, _ => none
  | .UnaryOp .USub a _ => (rE T a).map .neg
  | .UnaryOp .Not a _ => (rE T a).map .not
  | .Compare a ops cs _ => match ops, cs with
    | [o], [b] => match trIn (rE T) T a o b with
      | some z => some z
      | none => match cmpOf o, rE T a, rE T b with
        | some co, some x, some y => if behindInMarks o b then none else some (.cmp co x y)
        | _, _, _ => none
    | [o, o'], [b, d] => match cmpOf o, cmpOf o', rE T a, rE T b, rE T d with
      | some co, some co', some x, some y, some z => if lastMarks [o, o'] [b, d] then none else some (.chain co co' x y z)
      | _, _, _, _, _ => none
    | _, _ => none
  | .BoolOp op vs _ => match vs with
    | a :: b :: r => trB (rE T) op (a :: b :: r)
    | _ => none
  | .IfExp t a b _ => match rT T t, rE T a, rE T b with
    | some c, some x, some y => some (.ite c x y)
    | _, _, _ => none
  | .Tuple es _ _ => (trA (rE T) es).map .tup
  | .List es _ => (trA (rE T) es).map .lst
  | .Subscript a s _ => match s with
    | .Slice lo hi none _ => match rE T a, trOp (rE T) lo, trOp (rE T) hi with
      | some x, some l, some h => some (.sl x l h)
      | _, _, _ => none
    | .Slice none none (some (.UnaryOp .USub (.Constant (.int 1) _ _) _)) _ => (rE T a).map .rev
    | _ => if noSlice s then match a with
        | .Name x _ => match slotOf T x with
          | some i => if T.ow.contains i then (rE T s).map (.oix i) else (rE T s).map (.ix (.var i))
          | none => match glb T x, rE T s with
            | true, some y => some (.ix (.glob x) y)
            | _, _ => none
        | _ => match rE T a, rE T s with
          | some x, some y => some (.ix x y)
          | _, _ => none
      else none
  | .Call f args kws pos => match trEc T f args kws with
    | some (i, d) => some (.xcon i d)
    | none => match f, kws with
      | .Name f _, [] => match trSaid rE T f args with
        | some x => some x
        | none => match trNest (rE T) T f args with
          | some x => some x
          | none => trCall (rE T) T f args
      | .Name f _, k :: kws => trCallK (rE T) T f args (k :: kws)
      | .Attribute o m pa, [] => trMeth (rE T) T o m pa args pos
      | _, _ => none
  | .ListComp elt gens scope _ => trComp rE rT T elt gens scope
  | .Attribute _ _ _ => some .bad
  | .Dict ks vs _ => match ks, vs with
    | [], [] => some .dct0
    | [some a], [b] => match rE T a, rE T b with
      | some x, some y => some (.dct1 x y)
      | _, _ => none
    | _, _ => none
  | _ => none
def stepT (rE : Tc → Expr → Option Ep) (rT : Tc → Expr → Option Tp) (T : Tc) (e : Expr) : Option Tp := match e with
  | .UnaryOp .Not a _ => (rT T a).map .not
  | .BoolOp op vs _ => trBT (rT T) op vs
  | .IfExp _ _ _ _ => none
  | .Compare a ops cs _ => match ops, cs with
    | [o], [b] => match trIn (rE T) T a o b with
      | some z => some (.leaf z)
      | none => match cmpOf o, rE T a, rE T b with
        | some co, some x, some y => if behindInMarks o b then none else some (.leaf (.cmp co x y))
        | _, _, _ => none
    | [o, o'], [b, d] => match cmpOf o, cmpOf o', rE T a, rE T b, rE T d with
      | some co, some co', some x, some y, some z => if lastMarks [o, o'] [b, d] then none else some (.leaf (.chain co co' x y z))
      | _, _, _, _, _ => none
    | _, _ => none
  | e => if plainTest e then (rE T e).map .leaf else none
def trs : Nat → (Tc → Expr → Option Ep) × (Tc → Expr → Option Tp)
  | 0 => (fun _ _ => none, fun _ _ => none)
  | n + 1 => (stepE (trs n).1 (trs n).2, stepT (trs n).1 (trs n).2)
/-- is it a new list? -/
def fresh (T : Tc) : Ep → Bool
  | .lst _ => true
  | .repl _ _ => true
  | .comp _ _ _ _ _ => true
  | .call f es => T.fr f && !es.isEmpty
  | .bin .add _ _ => true
  | .b1 .list _ => true
  | .srs _ => true
  | _ => false
end Wh

set_option Elab.async false
set_option linter.all false
set_option maxRecDepth 100000
set_option maxHeartbeats 2000000
set_option exponentiation.threshold 5000
/-! Wh13: the translation of expressions is sound. -/
namespace Wh
open PySem PySem.Spec PyProof.Rows L2 Evl
variable [Tbl]

/-- what a context must bring -/
structure Ct (X : Cx) (c : Cfg) (k : Nat) (T : Tc) : Prop where
  hN : X.N = T.N
  hsc : X.env.scope = T.sc
  nd : T.N.Nodup
  kind : T.sc.kind = .function
  calm : T.cm = true → X.calm = true
  gd : X.A.guards = some []
  room : T.cm = true → Room (k + 5) X.A
  un : X.A.units + 64 < cLine
  xe : X.xe = fun _ _ => False
  call : CallOk X c.call k
  callL : CallOkL X c.call T.fr k
  callK : CallOkK X c.call T.kw k
  glob : GlobOk X.K X.w X.mg c.glob
  blt : ∀ b ∈ bltNames, X.mg (Str.ofString b) = none
  fn : ∀ x, T.raw.names.lookup x = some .cell → X.fn x = true
  exc : CallOkX X c.exc k
  said : ∀ x ws, T.sd x = some ws → SaysTo X x ws
  ec : ∀ f ns i d, T.ec f ns = some (i, d) → ∀ (args : List Expr) (p pos : Pos), namesOf args = some ns → PE X (.Call (.Name f p) args [] pos) (tE X.K fun ρ => match ρ[i]? with
    | some (some .x) => some (d, ρ)
    | _ => none)

section
variable {X : Cx} {c : Cfg} {k : Nat} {T : Tc}
theorem findIdx_get {N : List Str} {x : Str} {i : Nat} (h : N.findIdx? (· == x) = some i) : N[i]? = some x := by
  obtain ⟨hi, h1, _⟩ := List.findIdx?_eq_some_iff_getElem.mp h
  rw [List.getElem?_eq_getElem hi]
  simp only [beq_iff_eq] at h1
  rw [h1]
theorem vis_of {sc : Scope} {x : Str} (h : visK (sc.names.lookup x) = true) : Vis sc x := by
  unfold visK at h
  split at h
  · exact .inl (by assumption)
  · exact .inr (.inl (by assumption))
  · exact .inr (.inr (by assumption))
  · cases h
theorem plain_of {x : Str} (h : plainName x = true) : (x == ("__debug__" : Str)) = false ∧ (x == ("__classdict__" : Str)) = false := by
  unfold plainName at h
  simpa using h
theorem slot_of (C : Ct X c k T) {x : Str} {i : Nat} (h : slotOf T x = some i) : X.N[i]? = some x ∧ Vis X.env.scope x ∧ (x == ("__debug__" : Str)) = false ∧ (x == ("__classdict__" : Str)) = false := by
  unfold slotOf at h
  split at h
  · cases h
  · rename_i j hj
    split at h
    · rename_i hc
      cases h
      rw [Bool.and_eq_true] at hc
      refine ⟨by rw [C.hN]; exact findIdx_get hj, by rw [C.hsc]; exact vis_of hc.1, plain_of hc.2⟩
    · cases h
theorem gl_of (C : Ct X c k T) {x : Str} (h : glb T x = true) : Gl X x ∧ (x == ("__debug__" : Str)) = false := by
  unfold glb at h
  rw [Bool.and_eq_true] at h
  refine ⟨?_, (plain_of h.2).1⟩
  show X.env.scope.names.lookup x = _
  rw [C.hsc]
  exact beq_iff_eq.mp h.1
theorem star_of {e : Expr} {es : List Expr} (env : PySem.Env) (h : noStar e = true) : starEach (e :: es) env = (false, eval e env) :: starEach es env := by
  cases e <;> first | rfl | (simp [noStar] at h)
theorem ix_plain {b : Expr} (h : noSlice b = true) : PlainIx b := by
  intro o i
  cases b <;> first | rfl | (simp [noSlice] at h)
theorem set_fold {e : Expr} (env : PySem.Env) (h : noSet e = true) : ∀ x, foldedSetIterable e env x = pure x := by
  intro x
  cases e <;> first | rfl | (simp [noSet] at h)
theorem test_plain {e : Expr} {env : PySem.Env} (h : plainTest e = true) : ∀ whole, isTrue e env whole = (do let v ← whole; standAt e.pos; holding [v] (truthy v)) := by
  intro whole
  cases e with
  | UnaryOp op a p => cases op <;> first | rfl | (simp [plainTest] at h)
  | BoolOp _ _ _ => simp [plainTest] at h
  | IfExp _ _ _ _ => simp [plainTest] at h
  | Compare _ _ _ _ => simp [plainTest] at h
  | _ => rfl

/-! what the recursion brings -/
def SE (c : Cfg) (k : Nat) (r : Tc → Expr → Option Ep) : Prop := ∀ {X : Cx} {T : Tc}, Ct X c k T → ∀ {e : Expr} {x : Ep}, r T e = some x → PE X e (tE X.K (ev c x))
def ST (c : Cfg) (k : Nat) (r : Tc → Expr → Option Tp) : Prop := ∀ {X : Cx} {T : Tc}, Ct X c k T → ∀ {e : Expr} {x : Tp}, r T e = some x → PT X e (tT X.K (evT c x))
variable {rE : Tc → Expr → Option Ep} {rT : Tc → Expr → Option Tp}
theorem a_of (hE : SE c k rE) (C : Ct X c k T) : ∀ {es : List Expr} {xs : List Ep}, trA (rE T) es = some xs → PA X es (tA X.K (evs c xs)) ∧ (∀ pos, (backTo pos (starEach es X.env)).any (·.1) = false) ∧ (∀ e r, es = e :: r → noStar e = true)
  | [], xs, h => by
    simp only [trA] at h
    cases h
    exact ⟨a_nil, fun _ => rfl, fun _ _ z => by cases z⟩
  | e :: es, xs, h => by
    simp only [trA] at h
    split at h
    · rename_i a as h1 h2 h3
      cases h
      obtain ⟨ih, ih2, _⟩ := a_of hE C h3
      have hs := star_of (es := es) X.env h1
      refine ⟨a_cons (hE C h2) ih hs, fun pos => ?_, fun e' r z => by cases z; exact h1⟩
      rw [hs]
      show (false || (backTo pos (starEach es X.env)).any (·.1)) = false
      rw [ih2 pos]; rfl
    · cases h
theorem evs_len : ∀ {xs : List Ep} {ρ ρ' : En} {ys : List PyData}, evs c xs ρ = some (ys, ρ') → ys.length = xs.length
  | [], _, _, _, h => by simp only [evs] at h; cases h; rfl
  | x :: xs, ρ, ρ', ys, h => by
    simp only [evs] at h
    obtain ⟨y, ρ1, e1, h⟩ := bnd_eq h
    obtain ⟨zs, ρ2, e2, h⟩ := bnd_eq h
    cases h
    simp [evs_len e2]
theorem b_of (hE : SE c k rE) (C : Ct X c k T) {op : BoolOp} {pos : Pos} : ∀ {es : List Expr} {x : Ep}, trB (rE T) op es = some x → PE X (.BoolOp op es pos) (tE X.K (ev c x))
  | [], x, h => by simp only [trB] at h; cases h
  | [e], x, h => by
    simp only [trB] at h
    exact pe_one (hE C h)
  | e :: f :: es, x, h => by
    simp only [trB] at h
    split at h
    · rename_i a b h1 h2
      have ih := b_of hE C (op := op) (pos := pos) h2
      cases op with
      | And =>
        cases h
        exact e_and (hE C h1) ih
      | Or =>
        cases h
        exact e_or (hE C h1) ih
    · cases h
theorem bt_of (hT : ST c k rT) (C : Ct X c k T) {op : BoolOp} {pos : Pos} : ∀ {es : List Expr} {x : Tp}, trBT (rT T) op es = some x → PW X (.BoolOp op es pos) (tT X.K (evT c x))
  | [], x, h => by simp only [trBT] at h; cases h
  | [e], x, h => by
    simp only [trBT] at h
    cases op with
    | And => exact pw_and1 (hT C h)
    | Or => exact pw_or1 (hT C h)
  | e :: f :: es, x, h => by
    simp only [trBT] at h
    split at h
    · rename_i a b h1 h2
      have ih := bt_of hT C (op := op) (pos := pos) h2
      cases op with
      | And =>
        cases h
        exact t_and (hT C h1) ih
      | Or =>
        cases h
        exact t_or (hT C h1) ih
    · cases h
theorem o_of (hE : SE c k rE) (C : Ct X c k T) : ∀ {e : Option Expr} {x : Option Ep}, trOp (rE T) e = some x → PO X e (tO X.K (evO c x))
  | none, x, h => by
    simp only [trOp] at h
    cases h
    exact o_none
  | some e, x, h => by
    simp only [trOp] at h
    split at h
    · rename_i a h1
      cases h
      exact o_some (hE C h1)
    · cases h
/-! targets -/
theorem loc_of (C : Ct X c k T) {x : Str} (h : locK T x = true) : Loc X.env.scope x ∧ (X.fn x = true ∨ X.env.scope.names.lookup x = some .local) := by
  unfold locK at h
  rw [C.hsc]
  simp only [Bool.or_eq_true, Bool.and_eq_true, beq_iff_eq] at h
  rcases h with ⟨h1, h2⟩ | ⟨h1, h2⟩
  · exact ⟨.inl h2, .inr h2⟩
  · exact ⟨.inr h2, .inl (C.fn x h1)⟩
theorem assign_star {e : Expr} {es : List Expr} (env : PySem.Env) (h : noStar e = true) : assignEach (e :: es) env = (false, assign e env) :: assignEach es env := by
  cases e <;> first | rfl | (simp [noStar] at h)
theorem g_of (C : Ct X c k T) : ∀ {n : Nat} {e : Expr} {t : Tg}, trG T n e = some t → PG X e (tG X.K (slotsT t) (bindT t))
  | 0, e, t, h => by simp only [trG] at h; cases h
  | n + 1, e, t, h => by
    cases e with
    | Name x p =>
      simp only [trG] at h
      split at h
      · rename_i i hi
        split at h
        · rename_i hl
          cases h
          obtain ⟨h1, h2⟩ := loc_of C hl
          exact g_name (by rw [C.hN]; exact C.nd) (by rw [C.hN]; exact findIdx_get hi) h1 h2
        · cases h
      · cases h
    | Tuple es kk p =>
      simp only [trG] at h
      split at h
      · rename_i ts hts
        by_cases hcm : T.cm = true
        case neg =>
          rw [if_neg hcm] at h
          cases h
        rw [if_pos hcm] at h
        cases h
        have key : ∀ {es : List Expr} {ts : List Tg}, es.mapM (fun e => if noStar e then trG T n e else none) = some ts → PGs X es (tGs X.K (slotsTs ts) (bindTs ts)) ∧ (assignEach es X.env).length = ts.length ∧ (assignEach es X.env).findIdx? (·.1) = none := by
          intro es
          induction es with
          | nil =>
            intro ts h
            simp only [List.mapM_nil] at h
            cases h
            exact ⟨gs_nil, rfl, rfl⟩
          | cons e es ih =>
            intro ts h
            rw [List.mapM_cons] at h
            cases hn : noStar e with
            | false => rw [hn] at h; cases h
            | true =>
              rw [hn] at h
              simp only [if_true] at h
              cases hg : trG T n e with
              | none => rw [hg] at h; cases h
              | some t =>
                rw [hg] at h
                cases hm : es.mapM (fun e => if noStar e then trG T n e else none) with
                | none => simp only [hm] at h; cases h
                | some ts' =>
                  simp only [hm] at h
                  cases h
                  obtain ⟨i1, i2, i3⟩ := ih hm
                  have ha := assign_star (es := es) X.env hn
                  refine ⟨gs_cons (g_of C hg) i1 (by rw [ha]; rfl), by rw [ha]; simp [i2], ?_⟩
                  rw [ha, List.findIdx?_cons]
                  simp [i3]
        obtain ⟨k1, k2, k3⟩ := key hts
        exact g_tup (C.calm hcm) k1 k2 k3
      · cases h
    | _ => simp only [trG] at h; cases h
/-! what is walked -/
theorem blt_of (C : Ct X c k T) {b : String} (h : b ∈ bltNames) : X.mg (Str.ofString b) = none := C.blt b h
theorem i_of (hE : SE c k rE) (C : Ct X c k T) {tg e : Expr} {x : It'} (h : trI (rE T) T tg e = some x) : PI X tg e (tIt X.K (evI c x)) := by
  have seq : ∀ {e : Expr} {x : It'}, (rE T e).map It'.seq = some x → PI X tg e (tIt X.K (evI c x)) := fun {e x} h => by
    obtain ⟨y, h1, h2⟩ := Option.map_eq_some_iff.mp h
    subst h2
    exact i_seq (hE C h1)
  unfold trI at h
  split at h
  · rename_i f p args pos
    split at h
    · rename_i hf
      subst hf
      split at h
      · rename_i hg
        obtain ⟨g1, _⟩ := gl_of C hg
        split at h
        · rename_i a
          split at h
          · rename_i hs
            obtain ⟨y, h1, h2⟩ := Option.map_eq_some_iff.mp h
            subst h2
            exact i_rng1 g1 (blt_of C (by decide)) (hE C h1) (star_of X.env hs)
          · cases h
        · rename_i a b
          split at h
          · rename_i x y s1 s2 h1 h2
            cases h
            exact i_rng2 g1 (blt_of C (by decide)) (hE C h1) (hE C h2) (star_of X.env s1) (star_of X.env s2)
          · cases h
        · cases h
      · cases h
    · split at h
      · rename_i hf
        subst hf
        split at h
        · rename_i hg
          rw [Bool.and_eq_true] at hg
          obtain ⟨g1, _⟩ := gl_of C hg.1
          split at h
          · rename_i a b
            split at h
            · rename_i x y s1 s2 h1 h2
              cases h
              cases tg <;> first | (cases hg.2; done) | skip
              exact i_zip g1 (blt_of C (by decide)) (hE C h1) (hE C h2) (star_of X.env s1) (star_of X.env s2)
            · cases h
          · cases h
        · cases h
      · split at h
        · rename_i hf
          subst hf
          split at h
          · rename_i hg
            rw [Bool.and_eq_true] at hg
            obtain ⟨g1, _⟩ := gl_of C hg.1
            split at h
            · rename_i a
              split at h
              · rename_i x s1 h1
                cases h
                cases tg <;> first | (cases hg.2; done) | skip
                exact i_enum g1 (blt_of C (by decide)) (hE C h1) (star_of X.env s1)
              · cases h
            · cases h
          · cases h
        · exact seq h
  · split at h
    · exact seq h
    · cases h
/-! calls -/
theorem tyNm_of {x : Str} {t : Ty} (h : tyNm x = some t) : x = Str.ofString t.nm := by
  unfold tyNm at h
  repeat' split at h
  all_goals (cases h; first | assumption | done)
theorem b1Nm_of {x : Str} {t : B1} (h : b1Nm x = some t) : x = Str.ofString t.nm ∧ (∀ y, t ≠ .isi y) := by
  unfold b1Nm at h
  repeat' split at h
  all_goals (cases h; first | exact ⟨by assumption, fun y z => by cases z⟩ | done)
theorem b2Nm_of {x : Str} {t : B2} (h : b2Nm x = some t) : x = Str.ofString t.nm := by
  unfold b2Nm at h
  repeat' split at h
  all_goals (cases h; first | assumption | done)
theorem find_sh {l : List Kw} {p : Kw → Bool} {sh : Kw} (h : l.find? p = some sh) : sh ∈ l ∧ p sh = true := ⟨List.mem_of_find?_eq_some h, List.find?_some h⟩
theorem trA_len {r : Expr → Option Ep} : ∀ {es : List Expr} {xs : List Ep}, trA r es = some xs → xs.length = es.length
  | [], _, h => by simp only [trA] at h; cases h; rfl
  | e :: es, _, h => by
    simp only [trA] at h
    split at h
    · rename_i h3
      cases h
      simp [trA_len h3]
    · cases h
theorem evs_app : ∀ (xs ys : List Ep) (ρ : En), evs c (xs ++ ys) ρ = bnd (evs c xs ρ) fun us ρ => bnd (evs c ys ρ) fun vs ρ => some (us ++ vs, ρ)
  | [], ys, ρ => by
    simp only [List.nil_append, evs, bnd]
    cases evs c ys ρ <;> rfl
  | x :: xs, ys, ρ => by
    simp only [List.cons_append, evs]
    cases ev c x ρ with
    | none => rfl
    | some p =>
      obtain ⟨u, ρ1⟩ := p
      simp only [bnd]
      rw [evs_app xs ys ρ1]
      simp only [bnd]
      cases evs c xs ρ1 with
      | none => rfl
      | some p2 =>
        obtain ⟨us, ρ2⟩ := p2
        simp only
        cases evs c ys ρ2 <;> rfl
theorem ev_callk0 (f : Str) (xs : List Ep) (ix : List (Nat ⊕ PyData)) : ev c (.callk f xs ix) = fun ρ => bnd (bnd (evs c xs ρ) fun us ρ => bnd (some (([] : List PyData), ρ)) fun ys ρ => some (us ++ ys, ρ)) fun xs ρ => match pickD xs ix with
    | some ys => match c.call f none ys with
      | some (x, none) => some (x, ρ)
      | _ => none
    | none => none := by
  funext ρ
  simp only [ev]
  cases evs c xs ρ with
  | none => rfl
  | some p => obtain ⟨us, ρ1⟩ := p; simp only [bnd, List.append_nil] <;> rfl
theorem ev_callk1 (f : Str) (xs ys : List Ep) (ix : List (Nat ⊕ PyData)) : ev c (.callk f (xs ++ ys) ix) = fun ρ => bnd (bnd (evs c xs ρ) fun us ρ => bnd (evs c ys ρ) fun ys ρ => some (us ++ ys, ρ)) fun xs ρ => match pickD xs ix with
    | some ys => match c.call f none ys with
      | some (x, none) => some (x, ρ)
      | _ => none
    | none => none := by
  funext ρ
  simp only [ev]
  rw [evs_app] <;> rfl
theorem kws_of (hE : SE c k rE) (C : Ct X c k T) : ∀ {kws : List Keyword} {ks : List Str} {ys : List Ep}, sameKs kws ks = true → trA (rE T) (kws.map (·.value)) = some ys → PK X kws (tA X.K (evs c ys)) ∧ kws.map (·.arg) = ks.map some ∧ ys.length = ks.length
  | [], [], ys, _, h => by
    simp only [List.map_nil, trA] at h
    cases h
    exact ⟨k_nil, rfl, rfl⟩
  | [], _ :: _, _, h, _ => by cases h
  | _ :: _, [], _, h, _ => by cases h
  | ⟨nm, e, kp⟩ :: kws, x :: ks, ys, hk, h => by
    simp only [sameKs, Bool.and_eq_true, beq_iff_eq] at hk
    simp only [List.map_cons, trA] at h
    split at h
    · rename_i a as h1 h2 h3
      cases h
      obtain ⟨i1, i2, i3⟩ := kws_of hE C hk.2 h3
      refine ⟨k_cons (hE C h2) i1, ?_, by simp [i3]⟩
      simp only [List.map_cons, i2, hk.1.1]
    · cases h
theorem callk_of (hE : SE c k rE) (C : Ct X c k T) {f : Str} {args : List Expr} {kws : List Keyword} {p pos : Pos} {x : Ep} (h : trCallK (rE T) T f args kws = some x) : PE X (.Call (.Name f p) args kws pos) (tE X.K (ev c x)) ∧ fresh T x = false := by
  unfold trCallK at h
  split at h
  · cases h
  rename_i hg
  have hg' : T.cm = true ∧ glb T f = true := by simpa using hg
  obtain ⟨g1, g2⟩ := gl_of C hg'.2
  have room : Room k X.A := (C.room hg'.1).mono (by omega)
  split at h
  · rename_i sh hsh
    obtain ⟨m1, m2⟩ := find_sh hsh
    rw [Bool.and_eq_true] at m2
    have hn : sh.n = args.length := by simpa using m2.2
    split at h
    · rename_i xs ys h1 h2
      cases h
      obtain ⟨a1, a2, a3⟩ := a_of hE C h1
      obtain ⟨b1, b2, b3⟩ := kws_of hE C m2.1 h2
      refine ⟨?_, rfl⟩
      cases args with
      | nil =>
        simp only [trA] at h1
        cases h1
        exact e_callk0 C.callK m1 (by rw [hn]; rfl) room C.gd g1 g2 b1 b2 (fun ρ us ρ' e => by rw [evs_len e]; exact b3)
      | cons e es =>
        have hs := star_of (es := es) X.env (a3 e es rfl)
        rw [ev_callk1]
        exact e_callk C.callK m1 room C.gd g1 g2 a1 b1 b2 (fun ρ us ρ' e => by rw [evs_len e, trA_len h1, hn]) (fun ρ us ρ' e => by rw [evs_len e, b3]) hs (a2 pos)
    · cases h
  · cases h
theorem nest_of (hE : SE c k rE) (C : Ct X c k T) {f : Str} {args : List Expr} {p pos : Pos} {x : Ep} (h : trNest (rE T) T f args = some x) :
    PE X (.Call (.Name f p) args [] pos) (tE X.K (ev c x)) ∧ (fresh T x = true → PE X (.Call (.Name f p) args [] pos) (tEL X.K (ev c x))) := by
  unfold trNest at h
  split at h
  · rename_i g pg a pos2
    split at h
    · rename_i hf
      obtain ⟨rfl, rfl⟩ := hf
      split at h
      · rename_i hg
        simp only [Bool.and_eq_true] at hg
        obtain ⟨y, h1, rfl⟩ := Option.map_eq_some_iff.mp h
        have hL := l_srs (pos := pos) (p := p) (p2 := pg) (pos2 := pos2) (C.calm hg.1) (gl_of C hg.2.1.1).1 (blt_of C (by decide)) (gl_of C hg.2.1.2).1 (blt_of C (by decide)) (hE C h1) (star_of X.env hg.2.2)
        refine ⟨e_of_L hL fun ρ z ρ' e => ?_, fun _ => hL⟩
        obtain ⟨w, ρ1, e1, e⟩ := bnd_eq e
        obtain ⟨w', e3, e⟩ := ret_eq e
        cases e
        have key : ∀ xs, srsL xs = some z → ∃ ys, z = .list ys := fun xs h => by
          unfold srsL at h
          split at h
          · split at h
            · cases h; exact ⟨_, rfl⟩
            · cases h
          · cases h
        cases w <;> simp only [srsD] at e3 <;> first | (cases e3; done) | exact key _ e3
      · cases h
    · split at h
      · rename_i hf
        obtain ⟨rfl, rfl⟩ := hf
        split at h
        · rename_i hg
          simp only [Bool.and_eq_true] at hg
          obtain ⟨y, h1, rfl⟩ := Option.map_eq_some_iff.mp h
          exact ⟨e_trg (C.calm hg.1) (gl_of C hg.2.1.1).1 (blt_of C (by decide)) (gl_of C hg.2.1.2).1 (blt_of C (by decide)) (hE C h1) (star_of X.env hg.2.2), fun z => by cases z⟩
        · cases h
      · cases h
  · rename_i y py
    split at h
    · rename_i hf
      obtain ⟨rfl, hg⟩ := hf
      split at h
      · rename_i i hi
        split at h
        · cases h
          obtain ⟨s1, s2, s3, s4⟩ := slot_of C hi
          refine ⟨?_, fun z => by cases z⟩
          have := e_olen (pos := pos) (p := p) (px := py) (gl_of C hg).1 (blt_of C (b := "len") (by decide)) s1 s2 s3 s4
          exact this
        · cases h
      · cases h
    · cases h
  · cases h
theorem in_of (hE : SE c k rE) (C : Ct X c k T) {a b : Expr} {o : CmpOp} {pos : Pos} {x : Ep} (h : trIn (rE T) T a o b = some x) : PE X (.Compare a [o] [b] pos) (tE X.K (ev c x)) ∧ PT X (.Compare a [o] [b] pos) (tT X.K (evT c (.leaf x))) ∧ fresh T x = false := by
  unfold trIn at h
  split at h
  · rename_i y py
    split at h
    · rename_i i hi
      obtain ⟨s1, s2, s3, s4⟩ := slot_of C hi
      split at h
      · obtain ⟨z, h1, rfl⟩ := Option.map_eq_some_iff.mp h
        refine ⟨?_, ?_, rfl⟩
        · have := e_oin (pos := pos) (px := py) (neg := false) rfl s1 s2 s3 s4 (hE C h1)
          exact this
        · have := t_oin (pos := pos) (px := py) (neg := false) rfl s1 s2 s3 s4 (hE C h1)
          exact this
      · cases h
    · cases h
  · rename_i y py
    split at h
    · rename_i i hi
      obtain ⟨s1, s2, s3, s4⟩ := slot_of C hi
      split at h
      · obtain ⟨z, h1, rfl⟩ := Option.map_eq_some_iff.mp h
        refine ⟨?_, ?_, rfl⟩
        · have := e_oin (pos := pos) (px := py) (neg := true) rfl s1 s2 s3 s4 (hE C h1)
          exact this
        · have := t_oin (pos := pos) (px := py) (neg := true) rfl s1 s2 s3 s4 (hE C h1)
          exact this
      · cases h
    · cases h
  · cases h
theorem call_of (hE : SE c k rE) (C : Ct X c k T) {f : Str} {args : List Expr} {p pos : Pos} {x : Ep} (h : trCall (rE T) T f args = some x) :
    PE X (.Call (.Name f p) args [] pos) (tE X.K (ev c x)) ∧ (fresh T x = true → PE X (.Call (.Name f p) args [] pos) (tEL X.K (ev c x))) := by
  unfold trCall at h
  split at h
  · cases h
  rename_i hg
  obtain ⟨g1, g2⟩ := gl_of C (by simpa using hg)
  have hu : X.A.units + 64 < cLine := C.un
  split at h
  · rename_i hf
    subst hf
    split at h
    · rename_i a t pt
      split at h
      · rename_i ty y h1 h2 h3 h4
        cases h
        have ht := tyNm_of h1
        subst ht
        refine ⟨e_isi g1 (blt_of C (by decide)) (gl_of C h3).1 (blt_of C (by cases ty <;> decide)) (hE C h4) (star_of X.env h2), fun z => by cases z⟩
      · cases h
    · cases h
  by_cases hcm : T.cm = true
  case neg =>
    rw [if_pos (by simpa using hcm)] at h
    cases h
  rw [if_neg (by simpa using hcm)] at h
  have room : Room k X.A := (C.room hcm).mono (by omega)
  have calm := C.calm hcm
  · split at h
    · rename_i b hb
      obtain ⟨e1, e2⟩ := b1Nm_of hb
      subst e1
      split at h
      · rename_i a
        split at h
        · rename_i y h1 h2
          cases h
          refine ⟨e_b1 calm C.gd hu e2 g1 (blt_of C (by cases b <;> first | decide | exact absurd rfl (e2 _))) (hE C h2) (star_of X.env h1), fun z => ?_⟩
          cases b <;> first | (cases z; done) | skip
          exact l_list g1 (blt_of C (by decide)) (hE C h2) (star_of X.env h1)
        · cases h
      · cases h
    · split at h
      · rename_i b hb
        have e1 := b2Nm_of hb
        subst e1
        split at h
        · rename_i a d
          split at h
          · rename_i y z s1 s2 h1 h2
            cases h
            have hs2 := star_of (es := []) X.env s2
            refine ⟨e_b2 calm g1 (blt_of C (by cases b <;> decide)) (hE C h1) (hE C h2) (star_of X.env s1) hs2 (by rw [hs2]; rfl), fun z => by cases z⟩
          · cases h
        · cases h
      · split at h
        · split at h
          · rename_i y py es
            split at h
            · rename_i i xs h1 h2
              cases h
              obtain ⟨s1, s2, s3, s4⟩ := slot_of C h1
              obtain ⟨a1, a2, _⟩ := a_of hE C h2
              exact ⟨e_callp C.call room C.gd g1 g2 s1 s2 s3 s4 a1 rfl (a2 pos), fun z => by cases z⟩
            · cases h
          · cases h
        · split at h
          · rename_i sh hsh
            obtain ⟨m1, m2⟩ := find_sh hsh
            rw [Bool.and_eq_true] at m2
            have hks : sh.ks = [] := by simpa using m2.1
            have hn : sh.n = args.length := by simpa using m2.2
            split at h
            · rename_i e es
              obtain ⟨xs, h1, h2⟩ := Option.map_eq_some_iff.mp h
              subst h2
              obtain ⟨a1, a2, a3⟩ := a_of hE C h1
              have hs := star_of (es := es) X.env (a3 e es rfl)
              refine ⟨?_, fun z => by cases z⟩
              rw [ev_callk0]
              exact e_callk C.callK m1 room C.gd g1 g2 a1 k_nil (by rw [hks]; rfl) (fun ρ ys ρ' e => by rw [evs_len e, trA_len h1, hn]) (fun ρ ys ρ' e => by cases e; rw [hks]; rfl) hs (a2 pos)
            · cases h
          obtain ⟨xs, h1, h2⟩ := Option.map_eq_some_iff.mp h
          subst h2
          obtain ⟨a1, a2, a3⟩ := a_of hE C h1
          cases args with
          | nil =>
            simp only [trA] at h1
            cases h1
            refine ⟨e_call0 C.call room C.gd g1 g2, fun z => ?_⟩
            simp only [fresh, List.isEmpty_nil, Bool.not_true, Bool.and_false] at z
            cases z
          | cons e es =>
            have hs := star_of (es := es) X.env (a3 e es rfl)
            have hpl := a2 pos
            rw [hs] at hpl
            exact ⟨e_call C.call room C.gd g1 g2 a1 hs hpl, fun z => l_call C.callL (Bool.and_eq_true_iff.mp z).1 room C.gd g1 g2 a1 hs hpl⟩
/-! comprehensions -/
theorem base_of {o : Expr} {m : Str} (env : PySem.Env) (h : noCall0 o = true) : attributeBase o m env (eval o env) = eval o env := by
  unfold attributeBase
  split
  · cases h
  · rfl
theorem gname_of (C : Ct X c k T) {o : Expr} {x : Str} (h : glbName T o = some x) : ∃ p, o = .Name x p ∧ glb T x = true := by
  unfold glbName at h
  split at h
  · split at h
    · cases h
    · split at h
      · cases h; exact ⟨_, rfl, by assumption⟩
      · cases h
  · cases h
theorem meth_of (hE : SE c k rE) (C : Ct X c k T) {o : Expr} {m : Str} {pa pos : Pos} {args : List Expr} {x : Ep} (h : trMeth (rE T) T o m pa args pos = some x) : PE X (.Call (.Attribute o m pa) args [] pos) (tE X.K (ev c x)) ∧ fresh T x = false := by
  unfold trMeth at h
  split at h
  · rename_i a
    split at h
    · rename_i y s1 hl h1
      have hs := star_of (es := []) X.env s1
      split at h
      · rename_i hm
        subst hm
        obtain ⟨z, h2, rfl⟩ := Option.map_eq_some_iff.mp h
        obtain ⟨p, rfl, hg⟩ := gname_of C h2
        obtain ⟨g1, g2⟩ := gl_of C hg
        exact ⟨e_gget g1 C.glob g2 (hE C h1) ⟨rfl, by rw [hs]; rfl, hl, by rw [hs]; rfl⟩, rfl⟩
      · split at h
        · rename_i hm
          subst hm
          split at h
          · rename_i hn
            obtain ⟨z, h2, rfl⟩ := Option.map_eq_some_iff.mp h
            exact ⟨e_cnt (hE C h2) (hE C h1) (base_of X.env hn) hs hl, rfl⟩
          · cases h
        · split at h
          · rename_i hm
            subst hm
            split at h
            · rename_i hn
              obtain ⟨z, h2, rfl⟩ := Option.map_eq_some_iff.mp h
              exact ⟨e_idx (hE C h2) (hE C h1) (base_of X.env hn) hs hl, rfl⟩
            · cases h
          · cases h
    · cases h
  · cases h
theorem blk_ct (C : Ct X c k T) {s : Shared} {H : Hp} {scope : Scope} {a : Addr} {cl : List (Str × Addr)} {fp : List Addr} (hk : scope.kind = .function) : Ct (X.blk s H scope (compEnvC scope cl a X.env) fp) c k (blkT T scope) where
  hN := C.hN
  hsc := by
    show relS scope X.env.scope = relS scope T.sc
    rw [C.hsc]
  nd := C.nd
  kind := hk
  calm := C.calm
  gd := C.gd
  room := C.room
  un := C.un
  xe := rfl
  call := C.call
  callL := C.callL
  callK := C.callK
  glob := C.glob
  blt := C.blt
  fn := fun x h => by
    show (scope.names.lookup x == some .cell) = true
    rw [beq_iff_eq]
    exact h
  exc := C.exc
  said := fun _ _ h => nomatch h
  ec := fun _ _ _ _ h => nomatch h
theorem ts_of (hT : ST c k rT) (C : Ct X c k T) : ∀ {es : List Expr} {xs : List Tp}, trTs (rT T) es = some xs → PTs X es (tT X.K (evTs c xs))
  | [], xs, h => by
    simp only [trTs] at h
    cases h
    exact ts_nil
  | [e], xs, h => by
    simp only [trTs] at h
    obtain ⟨y, h1, h2⟩ := Option.map_eq_some_iff.mp h
    subst h2
    exact ts_one (hT C h1)
  | _ :: _ :: _, xs, h => by simp only [trTs] at h; cases h
theorem comp_parts (hE : SE c k rE) (hT : ST c k rT) (C : Ct X c k T) {elt : Expr} {gens : List Comprehension} {scope : Scope} {x : Ep} (h : trComp rE rT T elt gens scope = some x) :
    ∃ tg iter ifs own t it cs y, gens = [⟨tg, iter, ifs, 0⟩] ∧ x = .comp y t it cs (own.map (·.2)) ∧ PI X tg iter (tIt X.K (evI c it)) ∧ BlkOk X.N X.env.scope scope own ∧ (∀ j ∈ slotsT t, j ∈ own.map (·.2)) ∧
      (∀ (s : Shared) (H : Hp) (C : Addr) (cl : List (Str × Addr)) (fp : List Addr), PG (X.blk s H scope (compEnvC scope cl C X.env) fp) tg (tG X.K (slotsT t) (bindT t))) ∧
      (∀ (s : Shared) (H : Hp) (C : Addr) (cl : List (Str × Addr)) (fp : List Addr), PTs (X.blk s H scope (compEnvC scope cl C X.env) fp) ifs (tT X.K (evTs c cs))) ∧
      (∀ (s : Shared) (H : Hp) (C : Addr) (cl : List (Str × Addr)) (fp : List Addr), PE (X.blk s H scope (compEnvC scope cl C X.env) fp) elt (tE X.K (ev c y))) ∧ (∀ x, foldedSetIterable iter X.env x = pure x) ∧ X.calm = true := by
  unfold trComp at h
  split at h
  · rename_i tg iter ifs
    split at h
    · rename_i it t cs y h2 h3 h4 h5
      split at h
      · rename_i hc
        cases h
        simp only [Bool.and_eq_true] at hc
        obtain ⟨⟨⟨hcm, hb⟩, hs⟩, hn⟩ := hc
        have ok := blkOk_by hb
        refine ⟨tg, iter, ifs, ownOf T scope, t, it, cs, y, rfl, rfl, i_of hE C h2, by rw [C.hN, C.hsc]; exact ok, fun j hj => ?_, fun s H a cl fp => g_of (blk_ct C ok.kind) h3, fun s H a cl fp => ts_of hT (blk_ct C ok.kind) h4, fun s H a cl fp => hE (blk_ct C ok.kind) h5, set_fold X.env hn, C.calm hcm⟩
        have := List.all_eq_true.mp hs j hj
        simpa using this
      · cases h
    · cases h
  · cases h
omit [Tbl] in
theorem ev_comp (y : Ep) (t : Tg) (it : It') (cs : List Tp) (own : List Nat) : ev c (.comp y t it cs own) = fun ρ => if own.all (notOwn ρ) then bnd (evI c it ρ) fun xs ρ1 => if own.all (notOwn ρ1) ∧ xs.length ≤ 100000 then bnd (cmpI (stepC t (evTs c cs) (ev c y) own ρ1) xs ρ1) fun ys ρ6 => some (.list ys, ρ6) else none else none := by
  funext ρ
  simp only [ev] <;> rfl
theorem comp_list {y : Ep} {t : Tg} {it : It'} {cs : List Tp} {own : List Nat} {ρ ρ' : En} {x : PyData} (h : ev c (.comp y t it cs own) ρ = some (x, ρ')) : ∃ xs, x = .list xs := by
  rw [ev_comp] at h
  simp only at h
  split at h
  · obtain ⟨xs, ρ1, e1, h⟩ := bnd_eq h
    split at h
    · obtain ⟨ys, ρ2, e2, h⟩ := bnd_eq h
      cases h
      exact ⟨_, rfl⟩
    · cases h
  · cases h
theorem comp_of (hE : SE c k rE) (hT : ST c k rT) (C : Ct X c k T) {elt : Expr} {gens : List Comprehension} {scope : Scope} {pos : Pos} {x : Ep} (h : trComp rE rT T elt gens scope = some x) :
    PE X (.ListComp elt gens scope pos) (tEL X.K (ev c x)) ∧ (∀ ρ y ρ', ev c x ρ = some (y, ρ') → ∃ xs, y = .list xs) := by
  obtain ⟨tg, iter, ifs, own, t, it, cs, y, rfl, rfl, h1, h2, h3, h4, h5, h6, h7, hcm⟩ := comp_parts hE hT C h
  refine ⟨?_, fun ρ z ρ' e => comp_list e⟩
  rw [ev_comp]
  exact l_comp hcm (by rw [C.hN]; exact C.nd) h1 h2 rfl h3 h4 h5 h6 h7
/-! x(lambda: f(a, ..)) -/
theorem ev_xcon (i : Nat) (d : PyData) : ev c (.xcon i d) = fun ρ => match ρ[i]? with
    | some (some .x) => some (d, ρ)
    | _ => none := by
  funext ρ
  simp only [ev] <;> rfl
theorem ev_said (x f : Str) (ws : List (Str × PyData)) (es : List Ep) : ev c (.said x ws f es) = fun ρ => bnd (evs c es ρ) fun xs ρ => match c.call f none xs with
    | some (x, none) => some (.tuple [.str "told", x], ρ)
    | _ => match c.exc f xs with
      | some e => match ws.lookup e with
        | some w => some (w, ρ)
        | none => none
      | none => none := by
  funext ρ
  simp only [ev] <;> rfl
theorem stars_no {r : Expr → Option Ep} : ∀ {es : List Expr} {xs : List Ep}, trA r es = some xs → ∀ (pos : Pos) (env : PySem.Env), (backTo pos (starEach es env)).any (·.1) = false
  | [], _, _, _, _ => rfl
  | e :: es, xs, h, pos, env => by
    simp only [trA] at h
    split at h
    · rename_i a as h1 h2 h3
      rw [star_of env h1]
      exact stars_no h3 pos env
    · cases h
theorem lam_ct (C : Ct X c k T) {scope : Scope} (L : LamX.LamS T.sc scope) {A : Around} {outer : List PySem.Env} {s : Shared} {H : Hp} {E : XK} {f c' : Addr} (hg : A.guards = some []) (hr : Room k (A.deeper (LamX.lamEnv X scope s.heap.objs.size f c'))) : Ct (LamX.lamCx X A outer s H E scope f c').nox c k (lamT T scope) where
  hN := C.hN
  hsc := rfl
  nd := C.nd
  kind := L.kind
  calm := fun h => nomatch h
  gd := hg
  room := fun h => nomatch h
  un := by
    have := hr.un
    show (A.deeper (LamX.lamEnv X scope s.heap.objs.size f c')).units + 64 < cLine
    omega
  xe := rfl
  call := C.call
  callL := C.callL
  callK := C.callK
  glob := C.glob
  blt := C.blt
  fn := fun x h => absurd rfl (L.own _ (PySem.mem_of_lookup h)).2
  exc := C.exc
  said := fun _ _ h => nomatch h
  ec := fun _ _ _ _ h => nomatch h
theorem par_none {p : Arguments} (h : noPar p = true) : p = ⟨[], [], none, [], [], none, []⟩ := by
  obtain ⟨a, b, d, e, f, g, i⟩ := p
  simp only [noPar, Bool.and_eq_true, List.isEmpty_iff, Option.isNone_iff_eq_none] at h
  obtain ⟨⟨⟨⟨⟨⟨h1, h2⟩, h3⟩, h4⟩, h5⟩, h6⟩, h7⟩ := h
  subst h1 h2 h3 h4 h5 h6 h7
  rfl
theorem said_of (hE : SE c k rE) (C : Ct X c k T) {x : Str} {args : List Expr} {p pos : Pos} {z : Ep} (h : trSaid rE T x args = some z) :
    PE X (.Call (.Name x p) args [] pos) (tE X.K (ev c z)) ∧ (fresh T z = true → PE X (.Call (.Name x p) args [] pos) (tEL X.K (ev c z))) := by
  unfold trSaid at h
  split at h
  · rename_i ws params f pf a as bpos scope lpos hsd
    split at h
    · rename_i hc
      simp only [Bool.and_eq_true] at hc
      obtain ⟨⟨⟨⟨⟨hcm, hgx⟩, hpar⟩, hlam⟩, hgf⟩, hpf⟩ := hc
      obtain ⟨us, h1, rfl⟩ := Option.map_eq_some_iff.mp h
      refine ⟨?_, fun z => by cases z⟩
      have L := LamX.lamS_by hlam
      have hp := par_none hpar
      subst hp
      obtain ⟨g1, g2⟩ := gl_of C hgx
      have star : noStar a = true := by
        simp only [trA] at h1
        split at h1
        · assumption
        · cases h1
      unfold glb at hgf
      rw [Bool.and_eq_true] at hgf
      rw [ev_said]
      refine e_said (C.said x ws hsd) C.call C.exc g1 g2 ((C.room hcm).mono (by omega)) C.gd (by rw [C.hsc]; exact L) rfl (fun _ _ _ _ _ => rfl) (beq_iff_eq.mp hgf.1) (plain_of hgf.2).1 (fun env => star_of env star) (fun env => ?_) fun A outer s H E fa c' hgA hrA => ?_
      · have h2 := stars_no h1 bpos env
        rw [star_of env star] at h2
        exact h2
      · obtain ⟨a1, _, _⟩ := a_of hE (lam_ct C L hgA hrA) h1
        exact a1
    · cases h
  · cases h
/-! expressions -/
def SE2 (c : Cfg) (k : Nat) (r : Tc → Expr → Option Ep) : Prop := ∀ {X : Cx} {T : Tc}, Ct X c k T → ∀ {e : Expr} {x : Ep}, r T e = some x → fresh T x = true → PE X e (tEL X.K (ev c x))
theorem lst_ok {xs : List Ep} {ρ ρ' : En} {ys : List PyData} (hl : xs.length ≤ sizeLine) (h : evs c xs ρ = some (ys, ρ')) : ys.length ≤ sizeLine := by rw [evs_len h]; exact hl
theorem never_if {P : Prop} [Decidable P] {e : Expr} {f : En → Option (PyData × En)} (hp : P → PE X e (tE X.K f)) : PE X e (tE X.K fun ρ => if P then f ρ else none) := by
  by_cases h : P
  · simp only [if_pos h]; exact hp h
  · simp only [if_neg h]
    exact PE.never fun σ H Q q => by
      obtain ⟨ρ, F, x, ρ', _, e, _⟩ := q
      cases e
theorem never_ifL {P : Prop} [Decidable P] {e : Expr} {f : En → Option (PyData × En)} (hp : P → PE X e (tEL X.K f)) : PE X e (tEL X.K fun ρ => if P then f ρ else none) := by
  by_cases h : P
  · simp only [if_pos h]; exact hp h
  · simp only [if_neg h]
    exact PE.never fun σ H Q q => by
      obtain ⟨ρ, F, x, ρ', _, e, _⟩ := q
      cases e
theorem ev_lst (xs : List Ep) : ev c (.lst xs) = fun ρ => if xs.length ≤ sizeLine then bnd (evs c xs ρ) fun ys ρ => some (.list ys, ρ) else none := by funext ρ; simp only [ev]
theorem ev_tup (xs : List Ep) : ev c (.tup xs) = fun ρ => if xs.length ≤ sizeLine then bnd (evs c xs ρ) fun ys ρ => some (.tuple ys, ρ) else none := by funext ρ; simp only [ev]
theorem ev_repl (xs : List Ep) (y : Ep) : ev c (.repl xs y) = fun ρ => if xs.length ≤ sizeLine then bnd (evs c xs ρ) fun xs ρ => bnd (ev c y ρ) fun y ρ => match y with
      | .int k => if -(2 ^ 63) ≤ k ∧ k < 2 ^ 63 ∧ xs.length * k.toNat ≤ sizeLine then some (.list (List.replicate k.toNat xs).flatten, ρ) else none
      | _ => none
    else none := by funext ρ; simp only [ev] <;> rfl
theorem stepE_ok (hE : SE c k rE) (hT : ST c k rT) : SE c k (stepE rE rT) ∧ SE2 c k (stepE rE rT) := by
  have both : ∀ {X : Cx} {T : Tc}, Ct X c k T → ∀ {e : Expr} {x : Ep}, stepE rE rT T e = some x → PE X e (tE X.K (ev c x)) ∧ (fresh T x = true → PE X e (tEL X.K (ev c x))) := by
    intro X T C e x h
    have hu : X.A.units + 64 < cLine := C.un
    cases e with
    | Constant kk j pos =>
      simp only [stepE] at h
      obtain ⟨d, h1, h2⟩ := Option.map_eq_some_iff.mp h
      subst h2
      refine ⟨?_, fun z => by cases z⟩
      have := e_con (X := X) (k := kk) (j := j) (pos := pos) (d := d) (by cases kk <;> first | exact h1 | cases h1)
      exact this
    | Name n pos =>
      simp only [stepE] at h
      split at h
      · rename_i i hi
        cases h
        obtain ⟨s1, s2, s3, s4⟩ := slot_of C hi
        exact ⟨e_var s1 s2 s3 s4, fun z => by cases z⟩
      · split at h
        · rename_i hg
          cases h
          obtain ⟨g1, g2⟩ := gl_of C hg
          exact ⟨e_glob g1 C.glob g2, fun z => by cases z⟩
        · cases h
    | BinOp a o b pos =>
      simp only [stepE] at h
      split at h
      · rename_i es p2
        split at h
        · rename_i xs y h1 h2
          cases h
          obtain ⟨a1, _, _⟩ := a_of hE C h1
          have hL : PE X (.BinOp (.List es p2) .Mult b pos) (tEL X.K (ev c (.repl xs y))) := by
            rw [ev_repl]
            exact never_ifL fun hl => l_repl a1 (fun ρ ys ρ' e => lst_ok hl e) (hE C h2)
          refine ⟨e_of_L hL fun ρ z ρ' e => ?_, fun _ => hL⟩
          rw [ev_repl] at e
          simp only at e
          split at e
          · obtain ⟨zs, ρ1, e1, e⟩ := bnd_eq e
            obtain ⟨w, ρ2, e2, e⟩ := bnd_eq e
            split at e
            · split at e
              · cases e; exact ⟨_, rfl⟩
              · cases e
            · cases e
          · cases e
        · cases h
      · split at h
        · rename_i bo u v h1 h2 h3
          cases h
          refine ⟨e_bin h1 (hE C h2) (hE C h3), fun z => ?_⟩
          cases o <;> first | (cases h1; cases z; done) | (cases h1; done) | skip
          cases h1
          exact l_cat (hE C h2) (hE C h3)
        · cases h
    | UnaryOp op a pos =>
      cases op <;> simp only [stepE] at h <;> first | (cases h; done) | skip
      · obtain ⟨y, h1, h2⟩ := Option.map_eq_some_iff.mp h
        subst h2
        exact ⟨e_not (hE C h1), fun z => by cases z⟩
      · obtain ⟨y, h1, h2⟩ := Option.map_eq_some_iff.mp h
        subst h2
        exact ⟨e_neg (hE C h1), fun z => by cases z⟩
    | Compare a ops cs pos =>
      simp only [stepE] at h
      split at h
      · split at h
        · rename_i z hz
          cases h
          obtain ⟨i1, i2, i3⟩ := in_of hE C (pos := pos) hz
          exact ⟨i1, fun z => by rw [i3] at z; cases z⟩
        split at h
        · rename_i co u v h1 h2 h3
          split at h
          · cases h
          · rename_i hm
            cases h
            exact ⟨e_cmp hu h1 (by simpa using hm) (hE C h2) (hE C h3), fun z => by cases z⟩
        · cases h
      · split at h
        · rename_i co co' u v w h1 h2 h3 h4 h5
          split at h
          · cases h
          · rename_i hm
            cases h
            exact ⟨e_chain hu h1 h2 (by simpa using hm) (hE C h3) (hE C h4) (hE C h5), fun z => by cases z⟩
        · cases h
      · cases h
    | BoolOp op vs pos =>
      simp only [stepE] at h
      split at h
      · rename_i a b r
        refine ⟨b_of hE C h, fun z => ?_⟩
        simp only [trB] at h
        split at h
        · cases op <;> (cases h; cases z)
        · cases h
      · cases h
    | IfExp t a b pos =>
      simp only [stepE] at h
      split at h
      · rename_i cc u v h1 h2 h3
        cases h
        exact ⟨e_ite (hT C h1) (hE C h2) (hE C h3), fun z => by cases z⟩
      · cases h
    | Tuple es kk pos =>
      simp only [stepE] at h
      obtain ⟨xs, h1, h2⟩ := Option.map_eq_some_iff.mp h
      subst h2
      obtain ⟨a1, _, _⟩ := a_of hE C h1
      refine ⟨?_, fun z => by cases z⟩
      rw [ev_tup]
      exact never_if fun hl => e_tup a1 fun ρ ys ρ' e => lst_ok hl e
    | List es pos =>
      simp only [stepE] at h
      obtain ⟨xs, h1, h2⟩ := Option.map_eq_some_iff.mp h
      subst h2
      obtain ⟨a1, _, _⟩ := a_of hE C h1
      have hL : PE X (.List es pos) (tEL X.K (ev c (.lst xs))) := by
        rw [ev_lst]
        exact never_ifL fun hl => l_lst a1 fun ρ ys ρ' e => lst_ok hl e
      refine ⟨e_of_L hL fun ρ z ρ' e => ?_, fun _ => hL⟩
      rw [ev_lst] at e
      simp only at e
      split at e
      · obtain ⟨zs, ρ1, e1, e⟩ := bnd_eq e
        cases e; exact ⟨_, rfl⟩
      · cases e
    | Subscript a s pos =>
      simp only [stepE] at h
      split at h
      · split at h
        · rename_i u l hh h1 h2 h3
          cases h
          exact ⟨e_sl (hE C h1) (o_of hE C h2) (o_of hE C h3), fun z => by cases z⟩
        · cases h
      · obtain ⟨y, h1, rfl⟩ := Option.map_eq_some_iff.mp h
        exact ⟨e_rev (hE C h1), fun z => by cases z⟩
      · split at h
        · rename_i hns
          have hp := ix_plain hns
          split at h
          · rename_i y py
            split at h
            · rename_i i hi
              obtain ⟨s1, s2, s3, s4⟩ := slot_of C hi
              split at h
              · obtain ⟨w, h1, h2⟩ := Option.map_eq_some_iff.mp h
                subst h2
                refine ⟨?_, fun z => by cases z⟩
                have := e_oix (pos := pos) (px := py) s1 s2 s3 s4 (hE C h1) hp
                exact this
              · obtain ⟨w, h1, h2⟩ := Option.map_eq_some_iff.mp h
                subst h2
                exact ⟨e_ix (e_var s1 s2 s3 s4) (hE C h1) hp, fun z => by cases z⟩
            · split at h
              · rename_i w hg h1
                cases h
                obtain ⟨g1, g2⟩ := gl_of C hg
                exact ⟨e_ix (e_glob g1 C.glob g2) (hE C h1) hp, fun z => by cases z⟩
              · cases h
          · split at h
            · rename_i u v h1 h2
              cases h
              exact ⟨e_ix (hE C h1) (hE C h2) hp, fun z => by cases z⟩
            · cases h
        · cases h
    | Call f args kws pos =>
      simp only [stepE] at h
      split at h
      · rename_i i d hec
        cases h
        refine ⟨?_, fun z => by cases z⟩
        unfold trEc at hec
        split at hec
        · rename_i f' pf ns hns
          rw [ev_xcon]
          exact C.ec f' ns i d hec args pf pos hns
        · cases hec
      split at h
      · split at h
        · rename_i hn
          cases h
          exact said_of hE C hn
        split at h
        · rename_i hn
          cases h
          exact nest_of hE C hn
        · exact call_of hE C h
      · obtain ⟨h1, h2⟩ := callk_of hE C (pos := pos) h
        exact ⟨h1, fun z => by rw [h2] at z; cases z⟩
      · obtain ⟨h1, h2⟩ := meth_of hE C h
        exact ⟨h1, fun z => by rw [h2] at z; cases z⟩
      · cases h
    | Attribute o m p =>
      simp only [stepE] at h
      cases h
      refine ⟨PE.never fun σ H Q hq => ?_, fun z => by cases z⟩
      obtain ⟨ρ, F, z, ρ', rep, e, q⟩ := hq
      simp only [ev] at e
      cases e
    | Dict ks vs pos =>
      simp only [stepE] at h
      split at h
      · cases h
        exact ⟨e_dct0, fun z => by cases z⟩
      · split at h
        · rename_i u v h1 h2
          cases h
          exact ⟨e_dct1 (hE C h1) (hE C h2), fun z => by cases z⟩
        · cases h
      · cases h
    | ListComp elt gens scope pos =>
      simp only [stepE] at h
      obtain ⟨h1, h2⟩ := comp_of hE hT C (pos := pos) h
      exact ⟨e_of_L h1 h2, fun _ => h1⟩
    | _ => simp only [stepE] at h; cases h
  exact ⟨fun {X T} C {e x} h => (both C h).1, fun {X T} C {e x} h => (both C h).2⟩
theorem stepT_ok (hE : SE c k rE) (hT : ST c k rT) : ST c k (stepT rE rT) := by
  intro X T C e x h
  have hu : X.A.units + 64 < cLine := C.un
  have leaf : ∀ {e : Expr} {x : Tp}, (if plainTest e then (rE T e).map Tp.leaf else none) = some x → PT X e (tT X.K (evT c x)) := fun {e x} h => by
    split at h
    · rename_i hp
      obtain ⟨y, h1, h2⟩ := Option.map_eq_some_iff.mp h
      subst h2
      exact t_leaf (hE C h1) (test_plain hp)
    · cases h
  cases e with
  | UnaryOp op a pos =>
    cases op with
    | Not =>
      simp only [stepT] at h
      obtain ⟨y, h1, h2⟩ := Option.map_eq_some_iff.mp h
      subst h2
      exact t_not (hT C h1)
    | _ => exact leaf h
  | BoolOp op vs pos =>
    simp only [stepT] at h
    exact (bt_of hT C h).pt
  | IfExp _ _ _ _ => simp only [stepT] at h; cases h
  | Compare a ops cs pos =>
    simp only [stepT] at h
    split at h
    · split at h
      · rename_i z hz
        cases h
        exact (in_of hE C (pos := pos) hz).2.1
      split at h
      · rename_i co u v h1 h2 h3
        split at h
        · cases h
        · rename_i hm
          cases h
          exact t_cmp hu h1 (by simpa using hm) (hE C h2) (hE C h3)
      · cases h
    · split at h
      · rename_i co co' u v w h1 h2 h3 h4 h5
        split at h
        · cases h
        · rename_i hm
          cases h
          exact t_chain hu h1 h2 (by simpa using hm) (hE C h3) (hE C h4) (hE C h5)
      · cases h
    · cases h
  | _ => exact leaf h
theorem trs_ok : ∀ n : Nat, SE c k (trs n).1 ∧ SE2 c k (trs n).1 ∧ ST c k (trs n).2
  | 0 => ⟨fun {X T} C {e x} h => (by cases h), fun {X T} C {e x} h => (by cases h), fun {X T} C {e x} h => (by cases h)⟩
  | n + 1 => by
    obtain ⟨h1, _, h3⟩ := trs_ok n
    obtain ⟨q1, q2⟩ := stepE_ok h1 h3
    exact ⟨q1, q2, stepT_ok h1 h3⟩
end
end Wh

set_option Elab.async false
set_option linter.all false
set_option maxRecDepth 100000
set_option maxHeartbeats 2000000
set_option exponentiation.threshold 5000
/-! Wh14: statements from the text; defs; the table. -/
namespace Wh
open PySem PySem.Spec PyProof.Rows L2 Evl
variable [Tbl]

def pureOf {α : Type} : Sem α → Option α
  | .pure a => some a
  | _ => none
theorem pureOf_eq {α : Type} {t : Sem α} {a : α} (h : pureOf t = some a) : t = pure a := by
  unfold pureOf at h
  split at h
  · cases h; rfl
  · cases h
def envS (sc : Scope) : PySem.Env := { scope := sc, locals := 0, globals := 0, cells := [] }
def swp (T : Tc) (ts vs : List Expr) : Option (Option (List Str)) := pureOf (swappedStores [.Tuple ts 0 ⟨0, 0, 0, 0⟩] (.Tuple vs 0 ⟨0, 0, 0, 0⟩) (envS T.sc))
def isComp : Expr → Bool
  | .ListComp _ _ _ _ => true
  | .SetComp _ _ _ _ => true
  | .DictComp _ _ _ _ _ => true
  | _ => false
def trSs (r : Stmt → Option Sm) : List Stmt → Option (List Sm)
  | [] => some []
  | s :: ss => match r s, trSs r ss with
    | some a, some as => some (a :: as)
    | _, _ => none
def nmSlot (T : Tc) (x : Str) : Option Nat := match T.N.findIdx? (· == x) with
  | some i => if locK T x then some i else none
  | none => none
def trSet (rE : Tc → Expr → Option Ep) (T : Tc) (x : Str) (e : Expr) : Option Sm := match nmSlot T x, rE T e with
  | some i, some u => if T.ow.contains i && fresh T u then some (.seto i u) else some (.set i u)
  | _, _ => none
/-- names and what they take: slots, which are lists of one's own, expressions -/
def trAO (rE : Tc → Expr → Option Ep) (T : Tc) : List Expr → List Expr → Option (List Nat × List Bool × List Ep)
  | [], [] => some ([], [], [])
  | .Name x _ :: ts, e :: es => match nmSlot T x, noStar e, rE T e, trAO rE T ts es with
    | some i, true, some u, some (is, os, us) => some (i :: is, (T.ow.contains i && fresh T u) :: os, u :: us)
    | _, _, _, _ => none
  | _, _ => none
def allLoc (T : Tc) (xs : List Str) : Bool := xs.all fun x => T.sc.names.lookup x == some .local
def trPar (rE : Tc → Expr → Option Ep) (T : Tc) (ts vs : List Expr) : Option Sm := match swp T ts vs with
  | none => none
  | some none => match trG T 8 (.Tuple ts 0 ⟨0, 0, 0, 0⟩), trA (rE T) vs with
    | some (.tup tt), some xs => some (.unp tt (.tup xs))
    | _, _ => none
  | some (some nms) => match ts, vs with
    | [.Name x _, .Name y _], [a, b] => match nmSlot T x, nmSlot T y, trA (rE T) [a, b] with
      | some i, some j, some xs => if T.cm && i != j && (T.sc.names.lookup x == some .local) && (T.sc.names.lookup y == some .local) && decide (nms = [x, y]) then (match trAO rE T ts vs with
          | some ([i', j'], os, us) => if os.any id && decide (i' = i) && decide (j' = j) then some (.paro [i, j] os us) else some (.par [i, j] xs)
          | _ => some (.par [i, j] xs)) else none
      | _, _, _ => none
    | [.Name x _, .Name y _, .Name z _], [a, b, d] => match trAO rE T ts vs with
      | some ([i, j, l], os, us) => if T.cm && i != j && i != l && j != l && allLoc T [x, y, z] && decide (nms = [x, y, z]) && decide (nmSlot T x = some i) && decide (nmSlot T y = some j) && decide (nmSlot T z = some l) then some (.paro [i, j, l] os us) else none
      | _ => none
    | _, _ => none
/-- the class that is raised, called with a text -/
def raised (T : Tc) : Option Expr → Option Expr → Option Str
  | some (.Call (.Name x _) [.Constant (.str _) _ _] [] _), none => if T.cm && glb T x && T.cl.contains x then some x else none
  | _, _ => none
def stepS (rE : Tc → Expr → Option Ep) (rT : Tc → Expr → Option Tp) (T : Tc) (fr : Bool) (r : Stmt → Option Sm) : Stmt → Option Sm
  | .Expr e _ => match e with
    | .Constant (.str _) _ _ => some .pass
    | .Call (.Attribute (.Name x _) m pa) [a] [] pc => if m = Str.ofString "append" then match slotOf T x, noStar a, rE T a with
        | some i, true, some u => if pa.endLine == pc.line then some (.app i u) else none
        | _, _, _ => none
      else none
    | e => if isComp e then none else (rE T e).map .expr
  | .Return v _ => match v with
    | some e => match rE T e with
      | some u => if fr then (if fresh T u then some (.ret u) else none) else some (.ret u)
      | none => none
    | none => if fr then none else some .retN
  | .Assign ts v pos => match ts with
    | [.Name x px] => match v with
      | .ListComp _ _ _ _ => trSet rE T x v
      | v => if isComp v then none else trSet rE T x v
    | [.Subscript (.Name x _) b _] => match slotOf T x, rE T b, rE T v with
      | some i, some u, some w => if noSlice b && !isComp v then some (.seti i u w) else none
      | _, _, _ => none
    | [.Tuple ts _ _] => match v with
      | .Tuple vs _ _ => trPar rE T ts vs
      | v => if isComp v then none else match trG T 8 (.Tuple ts 0 ⟨0, 0, 0, 0⟩), rE T v with
        | some (.tup tt), some u => some (.unp tt u)
        | _, _ => none
    | _ => none
  | .If t a b _ => match rT T t, trSs r a, trSs r b with
    | some c, some x, some y => some (.ite c x y)
    | _, _, _ => none
  | .For tg it body orelse _ => match orelse, trG T 8 tg, trI (rE T) T tg it, trSs r body with
    | [], some t, some i, some b => if T.cm && noSet it then some (.for_ t i b) else none
    | _, _, _, _ => none
  | .While t body orelse _ => match orelse, rT T t, trSs r body with
    | [], some c, some b => some (.wh c b)
    | _, _, _ => none
  | .Pass _ => some .pass
  | .Break _ => some .brk
  | .Continue _ => some .cont
  | .Raise e d _ => some (.fail (raised T e d))
  | _ => none
def trS (rE : Tc → Expr → Option Ep) (rT : Tc → Expr → Option Tp) (T : Tc) (fr : Bool) : Nat → Stmt → Option Sm
  | 0 => fun _ => none
  | n + 1 => stepS rE rT T fr (trS rE rT T fr n)
/-- a def's body -/
def trBody (T : Tc) (fr : Bool) (body : List Stmt) : Option (List Sm) := trSs (trS (trs 30).1 (trs 30).2 T fr 12) body

section
variable {X : Cx} {c : Cfg} {k : Nat} {T : Tc} {rE : Tc → Expr → Option Ep} {rT : Tc → Expr → Option Tp} {fr : Bool}
theorem blk_kind (C : Ct X c k T) : X.env.blockKind = .function := by
  unfold PySem.Env.blockKind
  rw [C.hsc, C.kind]; rfl
theorem kind_of (C : Ct X c k T) (x : Str) : X.env.kindOf x = T.sc.names.lookup x := by
  show X.env.scope.names.lookup x = _
  rw [C.hsc]
theorem swapped_sc (ts : List Expr) (v : Expr) (env env' : PySem.Env) (h : env.scope = env'.scope) : swappedStores ts v env = swappedStores ts v env' := by
  unfold swappedStores PySem.Env.blockKind PySem.Env.kindOf
  rw [h]
theorem swp_of (C : Ct X c k T) {ts vs : List Expr} {r : Option (List Str)} {kt k2 : Nat} {pt p2 : Pos} (h : swp T ts vs = some r) : swappedStores [.Tuple ts kt pt] (.Tuple vs k2 p2) X.env = pure r := by
  rw [swapped_sc _ _ X.env (envS T.sc) C.hsc]
  have e : swappedStores [.Tuple ts kt pt] (.Tuple vs k2 p2) (envS T.sc) = swappedStores [.Tuple ts 0 ⟨0, 0, 0, 0⟩] (.Tuple vs 0 ⟨0, 0, 0, 0⟩) (envS T.sc) := rfl
  rw [e]
  exact pureOf_eq h
theorem swaps_sc (v : Expr) (t : Option Expr) (l : Nat) (env env' : PySem.Env) (h : env.scope = env'.scope) : swapsWith v t l env = swapsWith v t l env' := by
  unfold swapsWith PySem.Env.blockKind PySem.Env.kindOf
  rw [h]
theorem swaps_no {v : Expr} (h : isComp v = false) (t : Option Expr) (l : Nat) (env : PySem.Env) : swapsWith v t l env = pure false := by
  cases v <;> first | rfl | (simp [isComp] at h)
theorem sole_no {v : Expr} (h : isComp v = false) (t : Expr) (l : Nat) (env : PySem.Env) : swapsWithSole [t] v l env = pure false := swaps_no h _ _ _
theorem nm_of (C : Ct X c k T) {x : Str} {i : Nat} (h : nmSlot T x = some i) : X.N[i]? = some x ∧ Loc X.env.scope x ∧ (X.fn x = true ∨ X.env.scope.names.lookup x = some .local) := by
  unfold nmSlot at h
  split at h
  · rename_i j hj
    split at h
    · rename_i hl
      cases h
      exact ⟨by rw [C.hN]; exact findIdx_get hj, loc_of C hl⟩
    · cases h
  · cases h
/-- swapsWith of a comprehension to a name is a plain answer -/
theorem swaps_comp (C : Ct X c k T) {elt : Expr} {gs : List Comprehension} {scope : Scope} {pos py : Pos} {y : Str} {l : Nat} : swapsWith (.ListComp elt gs scope pos) (some (.Name y py)) l X.env = pure true ∧ X.env.scope.names.lookup y = some .local ∨ swapsWith (.ListComp elt gs scope pos) (some (.Name y py)) l X.env = pure false := by
  have e : swapsWith (.ListComp elt gs scope pos) (some (.Name y py)) l X.env = pure (X.env.blockKind == .function && X.env.kindOf y == some .local && py.line == pos.line && !(scope.names.any fun (n, k) => n == y && (k == .local || k == .cell))) := rfl
  cases hb : (X.env.blockKind == .function && X.env.kindOf y == some .local && py.line == pos.line && !(scope.names.any fun (n, k) => n == y && (k == .local || k == .cell))) with
  | true =>
    rw [e, hb]
    simp only [Bool.and_eq_true, beq_iff_eq] at hb
    exact .inl ⟨rfl, hb.1.1.2⟩
  | false => rw [e, hb]; exact .inr rfl
variable (hE : SE c k rE) (hE2 : SE2 c k rE) (hT : ST c k rT)
/-- name = value, as readings -/
theorem set_of (C : Ct X c k T) {x : Str} {i : Nat} {px pos : Pos} {v : Expr} {u : Ep} (hn : nmSlot T x = some i) (hv : isComp v = false) {t : TE} (he : PE X v t) : PS X (.Assign [.Name x px] v pos) (tAsg t (gName i)) := by
  obtain ⟨h1, h2, h3⟩ := nm_of C hn
  exact ps_set (by rw [C.hN]; exact C.nd) h1 h2 he (swaps_no hv _ _ _) h3
include hE hE2 hT in
theorem trSet_ok (C : Ct X c k T) {x : Str} {px pos : Pos} {v : Expr} {s : Sm} (hc : isComp v = false) (h : trSet rE T x v = some s) : PS X (.Assign [.Name x px] v pos) (tS X.K fr (ex c s)) := by
  unfold trSet at h
  split at h
  · rename_i i u h1 h2
    split at h
    · rename_i hf
      rw [Bool.and_eq_true] at hf
      cases h
      exact s_of_seto (set_of C (u := u) h1 hc (hE2 C h2 hf.2))
    · cases h
      exact s_of_set (set_of C (u := u) h1 hc (hE C h2))
  · cases h
variable {qE : Tc → Expr → Option Ep} {qT : Tc → Expr → Option Tp} (hq : rE = stepE qE qT) (hqE : SE c k qE) (hqT : ST c k qT)
include hE hE2 hq hqE hqT in
theorem trSetC_ok (C : Ct X c k T) {x : Str} {px pos p2 : Pos} {elt : Expr} {gens : List Comprehension} {scope : Scope} {s : Sm} (h : trSet rE T x (.ListComp elt gens scope p2) = some s) : PS X (.Assign [.Name x px] (.ListComp elt gens scope p2) pos) (tS X.K fr (ex c s)) := by
  unfold trSet at h
  split at h
  · rename_i i u h1 h2
    obtain ⟨n1, n2, n3⟩ := nm_of C h1
    have hND : X.N.Nodup := by rw [C.hN]; exact C.nd
    have h2' : trComp qE qT T elt gens scope = some u := by
      rw [hq] at h2
      simpa only [stepE] using h2
    have hL : PS X (.Assign [.Name x px] (.ListComp elt gens scope p2) pos) (tAsg (tEL X.K (ev c u)) (gName i)) := by
      rcases swaps_comp C (elt := elt) (gs := gens) (scope := scope) (pos := p2) (py := px) (y := x) (l := pos.line) with ⟨hsw, hl⟩ | hsw
      · obtain ⟨tg, iter, ifs, own, t, it, cs, y, rfl, rfl, g1, g2, g3, g4, g5, g6, g7, g8⟩ := comp_parts hqE hqT C h2'
        rw [ev_comp]
        exact s_setLc g8 hND n1 hl hsw g1 g2 rfl g3 g4 g5 g6 g7
      · exact ps_set hND n1 n2 (comp_of hqE hqT C h2').1 hsw n3
    have hl := (comp_of hqE hqT C (pos := p2) h2').2
    split at h
    · cases h
      exact s_of_seto hL
    · cases h
      exact s_of_setL hL hl
  · cases h
theorem name_star (x : Str) (p : Pos) : noStar (.Name x p) = true := rfl
include hE hE2 in
theorem ao_of (C : Ct X c k T) : ∀ {ts es : List Expr} {is : List Nat} {os : List Bool} {us : List Ep}, trAO rE T ts es = some (is, os, us) → PA X es (tAF X.K os (evs c us))
  | [], [], is, os, us, h => by simp only [trAO] at h; cases h; exact af_nil
  | [], _ :: _, is, os, us, h => by simp only [trAO] at h; cases h
  | t :: ts, [], is, os, us, h => by cases t <;> (simp only [trAO] at h; cases h)
  | t :: ts, e :: es, is, os, us, h => by
    cases t <;> simp only [trAO] at h <;> first | (cases h; done) | skip
    split at h
    · rename_i i u is' os' us' h1 h2 h3 h4
      cases h
      have ih := ao_of C h4
      have hs := star_of (es := es) X.env h2
      cases hf : (T.ow.contains i && fresh T u) with
      | false => exact af_dat (hE C h3) ih hs
      | true =>
        rw [Bool.and_eq_true] at hf
        exact af_own (hE2 C h3 hf.2) ih hs
    · cases h
include hE hE2 in
theorem trPar_ok (C : Ct X c k T) {ts vs : List Expr} {kt k2 : Nat} {pt p2 pos : Pos} {s : Sm} (h : trPar rE T ts vs = some s) : PS X (.Assign [.Tuple ts kt pt] (.Tuple vs k2 p2) pos) (tS X.K fr (ex c s)) := by
  unfold trPar at h
  split at h
  · cases h
  · rename_i hsw
    split at h
    · rename_i tt xs h1 h2
      cases h
      obtain ⟨a1, _, _⟩ := a_of hE C h2
      have hg : PG X (.Tuple ts kt pt) (tG X.K (slotsT (.tup tt)) (bindT (.tup tt))) := by
        have := g_of C (n := 8) (e := .Tuple ts kt pt) (t := .tup tt) (by simpa only [trG] using h1)
        exact this
      refine s_unp (tg := .Tuple ts kt pt) ?_
      refine ps_asg ?_ hg rfl (swp_of C hsw) rfl
      rw [ev_tup]
      exact never_if fun hl => e_tup a1 fun ρ ys ρ' e => lst_ok hl e
    · cases h
  · rename_i nms hsw
    split at h
    · rename_i x px y py
      split at h
      · rename_i i j xs h1 h2 h3
        split at h
        · rename_i hc
          simp only [Bool.and_eq_true, beq_iff_eq, bne_iff_ne, ne_eq, decide_eq_true_eq] at hc
          obtain ⟨⟨⟨⟨hcm, hij⟩, hx⟩, hy⟩, hnm⟩ := hc
          subst hnm
          obtain ⟨n1, _, _⟩ := nm_of C h1
          obtain ⟨m1, _, _⟩ := nm_of C h2
          obtain ⟨a1, _, _⟩ := a_of hE C h3
          have hND : X.N.Nodup := by rw [C.hN]; exact C.nd
          have hw := swp_of C (kt := kt) (k2 := k2) (pt := pt) (p2 := p2) hsw
          have plain := s_par2 (fr := fr) (C.calm hcm) hND n1 m1 hij (by rw [C.hsc]; exact hx) (by rw [C.hsc]; exact hy) a1 hw (pos := pos) rfl
          split at h
          · rename_i i' j' os us h4
            split at h
            · cases h
              exact s_paro2 (C.calm hcm) hND n1 m1 hij (by rw [C.hsc]; exact hx) (by rw [C.hsc]; exact hy) (ao_of hE hE2 C h4) hw rfl
            · cases h
              exact plain
          · cases h
            exact plain
        · cases h
      · cases h
    · rename_i x px y py z pz a b d
      split at h
      · rename_i i j l os us h4
        split at h
        · rename_i hc
          cases h
          simp only [Bool.and_eq_true, beq_iff_eq, bne_iff_ne, ne_eq, decide_eq_true_eq, allLoc, List.all_cons, List.all_nil] at hc
          obtain ⟨⟨⟨⟨⟨⟨⟨⟨hcm, hij⟩, hil⟩, hjl⟩, hx, hy, hz, _⟩, hnm⟩, s1⟩, s2⟩, s3⟩ := hc
          subst hnm
          obtain ⟨n1, _, _⟩ := nm_of C s1
          obtain ⟨n2, _, _⟩ := nm_of C s2
          obtain ⟨n3, _, _⟩ := nm_of C s3
          have hND : X.N.Nodup := by rw [C.hN]; exact C.nd
          have hw := swp_of C (kt := kt) (k2 := k2) (pt := pt) (p2 := p2) hsw
          exact s_paro3 (C.calm hcm) hND n1 n2 n3 hij hil hjl (by rw [C.hsc]; exact hx) (by rw [C.hsc]; exact hy) (by rw [C.hsc]; exact hz) (ao_of hE hE2 C h4) hw rfl
        · cases h
      · cases h
    · cases h
theorem ss_of {r : Stmt → Option Sm} (hr : ∀ {st s}, r st = some s → PS X st (tS X.K fr (ex c s))) : ∀ {ss : List Stmt} {xs : List Sm}, trSs r ss = some xs → PSs X ss (tS X.K fr (exs c xs))
  | [], xs, h => by
    simp only [trSs] at h
    cases h
    exact ss_nil
  | s :: ss, xs, h => by
    simp only [trSs] at h
    split at h
    · rename_i a as h1 h2
      cases h
      exact ss_cons (hr h1) (ss_of hr h2)
    · cases h
include hE hE2 hT hq hqE hqT in
theorem stepS_ok (C : Ct X c k T) {r : Stmt → Option Sm} (hr : ∀ {st s}, r st = some s → PS X st (tS X.K fr (ex c s))) {st : Stmt} {s : Sm} (h : stepS rE rT T fr r st = some s) : PS X st (tS X.K fr (ex c s)) := by
  have hp : PassesOwn (model X.prog X.w) X.A X.env X.xe := by rw [C.xe]; exact PassesOwn.never
  cases st with
  | Expr e pos =>
    simp only [stepS] at h
    split at h
    · cases h; exact s_doc
    · rename_i x px m pa a pc
      split at h
      · rename_i hm
        subst hm
        split at h
        · rename_i i u h1 h2 h3
          split at h
          · rename_i hl
            cases h
            obtain ⟨s1, s2, s3, s4⟩ := slot_of C h1
            exact s_app s1 s2 s3 s4 (hE C h3) (star_of X.env h2) hl
          · cases h
        · cases h
      · cases h
    · split at h
      · cases h
      · rename_i hc
        obtain ⟨u, h1, h2⟩ := Option.map_eq_some_iff.mp h
        subst h2
        exact s_expr (hE C h1) (swaps_no (by simpa using hc) _ _ _)
  | Return v pos =>
    simp only [stepS] at h
    split at h
    · split at h
      · rename_i e u h1
        cases fr with
        | true =>
          simp only [if_true] at h
          split at h
          · rename_i hf
            cases h
            exact s_retL (hE2 C h1 hf)
          · cases h
        | false =>
          cases h
          exact s_ret (hE C h1)
      · cases h
    · cases fr with
      | true => cases h
      | false => cases h; exact s_retN
  | Assign ts v pos =>
    simp only [stepS] at h
    split at h
    · rename_i x px
      split at h
      · exact trSetC_ok hE hE2 hq hqE hqT C h
      · split at h
        · cases h
        · rename_i hc
          exact trSet_ok hE hE2 hT C (by simpa using hc) h
    · rename_i x px b ps
      split at h
      · rename_i i u w h1 h2 h3
        split at h
        · rename_i hc
          simp only [Bool.and_eq_true, Bool.not_eq_true'] at hc
          cases h
          obtain ⟨s1, s2, s3, s4⟩ := slot_of C h1
          refine s_seti s1 s2 s3 s4 (hE C h3) (hE C h2) (sole_no hc.2 _ _ _) ?_ rfl fun vv => ?_
          · cases v <;> rfl
          · have hb := hc.1
            cases b <;> first | rfl | (simp [noSlice] at hb)
        · cases h
      · cases h
    · rename_i ts kt pt
      split at h
      · exact trPar_ok hE hE2 C h
      · split at h
        · cases h
        · rename_i hnt hc
          split at h
          · rename_i tt u h1 h2
            cases h
            have hg : PG X (.Tuple ts kt pt) (tG X.K (slotsT (.tup tt)) (bindT (.tup tt))) := g_of C (n := 8) (e := .Tuple ts kt pt) (t := .tup tt) (by simpa only [trG] using h1)
            refine s_unp (tg := .Tuple ts kt pt) (ps_asg (hE C h2) hg (sole_no (by simpa using hc) _ _ _) ?_ rfl)
            cases v <;> first | rfl | exact (hnt _ _ _ rfl).elim
          · cases h
    · cases h
  | If t a b pos =>
    simp only [stepS] at h
    split at h
    · rename_i cc x y h1 h2 h3
      cases h
      exact s_ite (hT C h1) (ss_of hr h2) (ss_of hr h3)
    · cases h
  | For tg it body orelse pos =>
    simp only [stepS] at h
    split at h
    · rename_i t i b h1 h2 h3
      split at h
      · rename_i hn
        cases h
        rw [Bool.and_eq_true] at hn
        exact s_for hp (C.calm hn.1) (i_of hE C h2) (g_of C h1) (ss_of hr h3) (set_fold X.env hn.2)
      · cases h
    · cases h
  | While t body orelse pos =>
    simp only [stepS] at h
    split at h
    · rename_i cc b h1 h2
      cases h
      exact s_wh hp (hT C h1) (ss_of hr h2)
    · cases h
  | Pass pos => simp only [stepS] at h; cases h; exact s_pass
  | Break pos => simp only [stepS] at h; cases h; exact s_brk
  | Continue pos => simp only [stepS] at h; cases h; exact s_cont
  | Raise a b pos => simp only [stepS] at h; cases h; exact s_never
  | _ => simp only [stepS] at h; cases h
end
/-- a def's body, as translated -/
theorem body_ok {X : Cx} {c : Cfg} {k : Nat} {T : Tc} {fr : Bool} (C : Ct X c k T) {body : List Stmt} {xs : List Sm} (h : trBody T fr body = some xs) : PSs X body (tS X.K fr (exs c xs)) := by
  obtain ⟨h1, h2, h3⟩ := trs_ok (c := c) (k := k) 30
  obtain ⟨q1, q2, q3⟩ := trs_ok (c := c) (k := k) 29
  have all : ∀ n, ∀ {st s}, trS (trs 30).1 (trs 30).2 T fr n st = some s → PS X st (tS X.K fr (ex c s)) := by
    intro n
    induction n with
    | zero => intro st s h; cases h
    | succ n ih => intro st s h; exact stepS_ok h1 h2 h3 rfl q1 q3 C ih h
  exact ss_of (all 12) h
end Wh

set_option Elab.async false
set_option linter.all false
set_option maxRecDepth 100000
set_option maxHeartbeats 2000000
set_option exponentiation.threshold 5000
/-! Wh14b: statements that raise. -/
namespace Wh
open PySem PySem.Spec PyProof.Rows L2 Evl
variable [Tbl]
/-- a class of the program that can be raised with a text -/
structure ClsOk (X : Cx) (x : Str) (C : Addr) : Prop where
  mg : X.mg x = some (.ref C)
  kp : PySem.W.keepIn X.K (.ref C) = true
  ex : ∃ (B newId initId : String) (bmB : List Value), ExcBaseFacts B newId initId bmB ∧ PySem.W.excIn X.K C bmB newId = true
  rs : Raises X (.ref C)
/-- the reading of statements that raise -/
def tR (K : PySem.W.Frag) (mg : Str → Option Value) (g : En → Option Str) (W : WX) : TS := fun _ σ H => ∃ ρ F e C, Rep K ρ σ F H ∧ g ρ = some e ∧ mg e = some (.ref C) ∧ ∀ ρ' σ' F' H', Rep K ρ' σ' F' H' → Stp ρ σ F H ρ' σ' F' H' → W (.ref C) none σ' H'
section
variable {X : Cx} {c : Cfg} {k : Nat} {T : Tc} {rE : Tc → Expr → Option Ep} {rT : Tc → Expr → Option Tp} {W : WX} {fr : Bool}
/-- only a call of a def is translated to one -/
theorem call_inv {e : Expr} {f : Str} {es : List Ep} (h : stepE rE rT T e = some (.call f es)) : ∃ p args pos, e = .Call (.Name f p) args [] pos ∧ glb T f = true ∧ T.cm = true ∧ trA (rE T) args = some es := by
  cases e with
  | Call g args kws pos =>
    simp only [stepE] at h
    split at h
    · cases h
    split at h
    · rename_i f' p hec
      split at h
      · rename_i z hz
        cases h
        unfold trSaid at hz
        split at hz
        · split at hz
          · obtain ⟨_, _, z⟩ := Option.map_eq_some_iff.mp hz
            cases z
          · cases hz
        · cases hz
      split at h
      · rename_i z hz
        cases h
        unfold trNest at hz
        repeat' split at hz
        all_goals first
          | (obtain ⟨_, _, z⟩ := Option.map_eq_some_iff.mp hz; cases z; done)
          | cases hz
      · unfold trCall at h
        split at h
        · cases h
        rename_i hg
        split at h
        · repeat' split at h
          all_goals cases h
        split at h
        · cases h
        rename_i hcm
        split at h
        · repeat' split at h
          all_goals cases h
        split at h
        · repeat' split at h
          all_goals cases h
        split at h
        · repeat' split at h
          all_goals cases h
        split at h
        · split at h
          · obtain ⟨_, _, z⟩ := Option.map_eq_some_iff.mp h
            cases z
          · cases h
        · obtain ⟨xs, h1, z⟩ := Option.map_eq_some_iff.mp h
          cases z
          exact ⟨p, args, pos, rfl, by simpa using hg, by simpa using hcm, h1⟩
    · unfold trCallK at h
      repeat' split at h
      all_goals cases h
    · unfold trMeth at h
      repeat' split at h
      all_goals first
        | (obtain ⟨_, _, z⟩ := Option.map_eq_some_iff.mp h; cases z; done)
        | cases h
    · cases h
  | BoolOp op vs p =>
    simp only [stepE] at h
    split at h
    · simp only [trB] at h
      repeat' split at h
      all_goals cases h
    · cases h
  | ListComp elt gens scope p =>
    simp only [stepE] at h
    unfold trComp at h
    repeat' split at h
    all_goals cases h
  | Compare a ops cs p =>
    simp only [stepE] at h
    split at h
    · split at h
      · rename_i z hz
        cases h
        unfold trIn at hz
        repeat' split at hz
        all_goals first
          | (obtain ⟨_, _, z⟩ := Option.map_eq_some_iff.mp hz; cases z; done)
          | cases hz
      · repeat' split at h
        all_goals cases h
    · repeat' split at h
      all_goals cases h
    · cases h
  | UnaryOp op a p =>
    cases op <;> simp only [stepE] at h
    all_goals first
      | (obtain ⟨_, _, z⟩ := Option.map_eq_some_iff.mp h; cases z; done)
      | (cases h; done)
  | _ =>
    simp only [stepE] at h
    repeat' split at h
    all_goals first
      | (obtain ⟨_, _, z⟩ := Option.map_eq_some_iff.mp h; cases z; done)
      | (cases h; done)
theorem PG_nox {tg : Expr} {g : TG} (h : PG X.nox tg g) : PG X tg g := ⟨fun pins s σ H x u R I r hw =>
  wpAny_mono (h.run pins s σ H x u R (I.wish _) r hw) (fun _ _ ⟨σ', H', I', q⟩ => ⟨σ', H', I'.unwish, q⟩) fun _ _ z => False.elim z⟩
theorem xcall_of (hE : SE c k rE) (C : Ct X.nox c k T) (tk : L2.Takes X W) {e : Expr} {f : Str} {u : Ep} {es : List Ep} (h : stepE rE rT T e = some (.call f (u :: es))) : PE X e (tX X.K X.mg (evs c (u :: es)) (c.exc f) W) := by
  obtain ⟨p, args, pos, rfl, hg, hcm, h1⟩ := call_inv h
  obtain ⟨a1, _, a3⟩ := a_of hE C h1
  obtain ⟨g1, g2⟩ := gl_of C hg
  cases args with
  | nil => simp only [trA] at h1; cases h1
  | cons a as =>
    have hs := star_of (es := as) X.env (a3 a as rfl)
    have hp := stars_no h1 pos X.env
    rw [hs] at hp
    exact x_call C.exc tk ((C.room hcm).mono (by omega)) C.gd g1 g2 (PA_nox a1) hs hp
/-- an expression that raises -/
theorem xc_of (hE : SE c k rE) (C : Ct X.nox c k T) (tk : L2.Takes X W) {e : Expr} {u : Ep} (h : stepE rE rT T e = some u) : PE X e (fun σ H _ => ∃ ρ F en Ca, Rep X.K ρ σ F H ∧ exC c u ρ = some en ∧ X.mg en = some (.ref Ca) ∧ ∀ ρ' F' H', Rep X.K ρ' σ F' H' → StpE ρ σ F H ρ' F' H' → W (.ref Ca) none σ H') := by
  refine ⟨fun pins s σ H Q I hw => ?_⟩
  obtain ⟨ρ, F, en, Ca, rep, e1, hm, q⟩ := hw
  unfold exC at e1
  split at e1
  · rename_i f u' es
    split at e1
    · rename_i xs ρ1 e2
      exact (xcall_of hE C tk h).run pins s σ H Q I ⟨ρ, F, xs, ρ1, en, Ca, rep, e2, e1, hm, fun F' H' r st => q ρ1 F' H' r st⟩
    · cases e1
  · cases e1
theorem never_R {st : Stmt} {g : En → Option Str} (h : ∀ ρ, g ρ = none) : PS X st (tR X.K X.mg g W) := ⟨fun pins s σ H D I hw => by
  obtain ⟨ρ, F, en, Ca, rep, e1, hm, q⟩ := hw
  rw [h] at e1
  cases e1⟩
theorem sx_cons {st : Stmt} {rest : List Stmt} {s : Sm} {ss : List Sm} (h1 : PS X st (tS X.K fr (ex c s))) (h2 : PS X st (tR X.K X.mg (exR c s) W)) (h3 : PSs X rest (tR X.K X.mg (exRs c ss) W)) : PSs X (st :: rest) (tR X.K X.mg (exRs c (s :: ss)) W) := by
  refine ⟨fun pins s' σ H D I hw => ?_⟩
  obtain ⟨ρ, F, en, Ca, rep, e1, hm, q⟩ := hw
  unfold exRs at e1
  split at e1
  · rename_i ρ1 e2
    refine (pss_cons h1 h3).run pins s' σ H D I ⟨ρ, F, .next, ρ1, rep, e2, fun σ1 F1 H1 rep1 st1 => ?_⟩
    exact ⟨ρ1, F1, en, Ca, rep1, e1, hm, fun ρ' σ' F' H' r st => q ρ' σ' F' H' r (st1.trans st)⟩
  · cases e1
  · exact (pss_cons h2 h3).run pins s' σ H D I ⟨ρ, F, en, Ca, rep, e1, hm, q⟩
theorem sx_of {r : Stmt → Option Sm} (hr : ∀ {st s}, r st = some s → PS X.nox st (tS X.K fr (ex c s))) (hx : ∀ {st s}, r st = some s → PS X st (tR X.K X.mg (exR c s) W)) : ∀ {ss : List Stmt} {xs : List Sm}, trSs r ss = some xs → PSs X ss (tR X.K X.mg (exRs c xs) W)
  | [], xs, h => by
    simp only [trSs] at h
    cases h
    refine ⟨fun pins s σ H D I hw => ?_⟩
    obtain ⟨ρ, F, en, Ca, rep, e1, hm, q⟩ := hw
    unfold exRs at e1
    cases e1
  | st :: ss, xs, h => by
    simp only [trSs] at h
    split at h
    · rename_i a as h1 h2
      cases h
      exact sx_cons (PS_nox (hr h1)) (hx h1) (sx_of hr hx h2)
    · cases h
theorem par_R {ts vs : List Expr} {s : Sm} (h : trPar rE T ts vs = some s) (ρ : En) : exR c s ρ = none := by
  unfold trPar at h
  repeat' split at h
  all_goals first
    | (cases h; done)
    | (cases h; simp only [exR]; done)
    | (cases h; simp only [exR, exC]; done)
variable {qE : Tc → Expr → Option Ep} {qT : Tc → Expr → Option Tp}
theorem stepX_ok (hq : rE = stepE qE qT) (hqE : SE c k qE) (hT : ST c k rT) (C : Ct X.nox c k T) (tk : L2.Takes X W) (hc : X.calm = true) (hcl : ∀ x ∈ T.cl, ∃ Ca, ClsOk X x Ca) {r : Stmt → Option Sm} (hr : ∀ {st s}, r st = some s → PS X.nox st (tS X.K fr (ex c s))) (hx : ∀ {st s}, r st = some s → PS X st (tR X.K X.mg (exR c s) W)) {st : Stmt} {s : Sm} (h : stepS rE rT T fr r st = some s) :
    PS X st (tR X.K X.mg (exR c s) W) := by
  have none_of : (∀ ρ, exR c s ρ = none) → PS X st (tR X.K X.mg (exR c s) W) := never_R
  subst hq
  cases st with
  | Raise a b pos =>
    simp only [stepS] at h
    cases h
    unfold raised
    split
    · rename_i x px m j p2 pos'
      split
      · rename_i hg
        simp only [Bool.and_eq_true] at hg
        obtain ⟨⟨hcm, hgx⟩, hin⟩ := hg
        obtain ⟨Ca, hC⟩ := hcl x (by simpa using hin)
        obtain ⟨B, newId, initId, bmB, F, q⟩ := hC.ex
        obtain ⟨g1, g2⟩ := gl_of C hgx
        refine (ps_raise hc tk (pmk_own F q hC.mg hC.kp hC.rs g1 g2)).wk fun D σ H hw => ?_
        obtain ⟨ρ, F', en, Ca', rep, e1, hm, q'⟩ := hw
        simp only [exR] at e1
        cases e1
        have e2 := hC.mg
        rw [hm] at e2
        cases e2
        exact q' ρ σ F' H rep Stp.refl
      · exact never_R fun ρ => by simp only [exR]
    · exact never_R fun ρ => by simp only [exR]
  | Expr e pos =>
    simp only [stepS] at h
    split at h
    · cases h; exact never_R fun ρ => by simp only [exR]
    · split at h
      · split at h
        · split at h
          · cases h; exact never_R fun ρ => by simp only [exR]
          · cases h
        · cases h
      · cases h
    · split at h
      · cases h
      · rename_i hcm
        obtain ⟨u, h1, h2⟩ := Option.map_eq_some_iff.mp h
        subst h2
        refine (ps_expr (xc_of hqE C tk h1) (swaps_no (by simpa using hcm) _ _ _)).wk fun D σ H hw => ?_
        obtain ⟨ρ, F, en, Ca, rep, e1, hm, q⟩ := hw
        simp only [exR] at e1
        exact ⟨ρ, F, en, Ca, rep, e1, hm, fun ρ' F' H' r st => q ρ' σ F' H' r st.toStp⟩
  | Return v pos =>
    simp only [stepS] at h
    split at h
    · rename_i e
      split at h
      · rename_i u h1
        have fin : PS X (.Return (some e) pos) (tR X.K X.mg (exR c (.ret u)) W) := by
          refine (ps_ret (xc_of hqE C tk h1)).wk fun D σ H hw => ?_
          obtain ⟨ρ, F, en, Ca, rep, e1, hm, q⟩ := hw
          simp only [exR] at e1
          exact ⟨ρ, F, en, Ca, rep, e1, hm, fun ρ' F' H' r st => q ρ' σ F' H' r st.toStp⟩
        cases fr with
        | true =>
          simp only [if_true] at h
          split at h
          · cases h; exact fin
          · cases h
        | false => cases h; exact fin
      · cases h
    · cases fr with
      | true => cases h
      | false => cases h; exact never_R fun ρ => by simp only [exR]
  | If t a b pos =>
    simp only [stepS] at h
    split at h
    · rename_i cc x y h1 h2 h3
      cases h
      refine (ps_if (PT.nox (hT C h1)) (sx_of hr hx h2) (sx_of hr hx h3)).wk fun D σ H hw => ?_
      obtain ⟨ρ, F, en, Ca, rep, e1, hm, q⟩ := hw
      simp only [exR] at e1
      split at e1
      · rename_i ρ1 e2
        exact ⟨ρ, F, true, ρ1, rep, e2, fun F1 H1 rep1 st1 => L2.iteT ⟨ρ1, F1, en, Ca, rep1, e1, hm, fun ρ' σ' F' H' r st => q ρ' σ' F' H' r (st1.toStp.trans st)⟩⟩
      · rename_i ρ1 e2
        exact ⟨ρ, F, false, ρ1, rep, e2, fun F1 H1 rep1 st1 => L2.iteF ⟨ρ1, F1, en, Ca, rep1, e1, hm, fun ρ' σ' F' H' r st => q ρ' σ' F' H' r (st1.toStp.trans st)⟩⟩
      · cases e1
    · cases h
  | Assign ts v pos =>
    simp only [stepS] at h
    split at h
    · rename_i x px
      have fin : ∀ {s : Sm}, isComp v = false → trSet (stepE qE qT) T x v = some s → PS X (.Assign [.Name x px] v pos) (tR X.K X.mg (exR c s) W) := fun {s} hv h => by
        unfold trSet at h
        split at h
        · rename_i i u h1 h2
          split at h
          · cases h; exact never_R fun ρ => by simp only [exR]
          · cases h
            obtain ⟨n1, n2, n3⟩ := nm_of C h1
            refine (ps_set (X := X) (by rw [show X.N = T.N from C.hN]; exact C.nd) n1 n2 (xc_of hqE C tk h2) (swaps_no hv _ _ _) n3).wk fun D σ H hw => ?_
            obtain ⟨ρ, F, en, Ca, rep, e1, hm, q⟩ := hw
            simp only [exR] at e1
            exact ⟨ρ, F, en, Ca, rep, e1, hm, fun ρ' F' H' r st => q ρ' σ F' H' r st.toStp⟩
        · cases h
      split at h
      · rename_i elt gens scope p2
        unfold trSet at h
        split at h
        · rename_i i u h1 h2
          have hu : ∀ ρ, exC c u ρ = none := fun ρ => by
            simp only [stepE] at h2
            unfold trComp at h2
            repeat' split at h2
            all_goals first
              | (cases h2; done)
              | (cases h2; simp only [exC])
          split at h
          · cases h; exact never_R fun ρ => by simp only [exR]
          · cases h
            exact never_R fun ρ => by simp only [exR]; exact hu ρ
        · cases h
      · split at h
        · cases h
        · rename_i hcm
          exact fin (by simpa using hcm) h
    · rename_i x px b ps
      split at h
      · split at h
        · cases h; exact never_R fun ρ => by simp only [exR]
        · cases h
      · cases h
    · rename_i ts kt pt
      split at h
      · exact never_R fun ρ => par_R h ρ
      · split at h
        · cases h
        · rename_i hnt hcm
          split at h
          · rename_i tt u h1 h2
            cases h
            have hg : PG X.nox (.Tuple ts kt pt) (tG X.K (slotsT (.tup tt)) (bindT (.tup tt))) := g_of C (n := 8) (e := .Tuple ts kt pt) (t := .tup tt) (by simpa only [trG] using h1)
            refine (ps_asg (xc_of hqE C tk h2) (PG_nox hg) (sole_no (by simpa using hcm) _ _ _) (by cases v <;> first | rfl | exact (hnt _ _ _ rfl).elim) rfl).wk fun D σ H hw => ?_
            obtain ⟨ρ, F, en, Ca, rep, e1, hm, q⟩ := hw
            simp only [exR] at e1
            exact ⟨ρ, F, en, Ca, rep, e1, hm, fun ρ' F' H' r st => q ρ' σ F' H' r st.toStp⟩
          · cases h
    · cases h
  | For tg it body orelse pos =>
    simp only [stepS] at h
    repeat' split at h
    all_goals first
      | (cases h; done)
      | (cases h; exact never_R fun ρ => by simp only [exR])
  | While t body orelse pos =>
    simp only [stepS] at h
    repeat' split at h
    all_goals first
      | (cases h; done)
      | (cases h; exact never_R fun ρ => by simp only [exR])
  | Pass pos => simp only [stepS] at h; cases h; exact never_R fun ρ => by simp only [exR]
  | Break pos => simp only [stepS] at h; cases h; exact never_R fun ρ => by simp only [exR]
  | Continue pos => simp only [stepS] at h; cases h; exact never_R fun ρ => by simp only [exR]
  | _ => simp only [stepS] at h; cases h
end
/-- a def's body that raises -/
theorem bodyX_ok {X : Cx} {c : Cfg} {k : Nat} {T : Tc} {fr : Bool} {W : WX} (C : Ct X.nox c k T) (tk : L2.Takes X W) (hc : X.calm = true) (hcl : ∀ x ∈ T.cl, ∃ Ca, ClsOk X x Ca) {body : List Stmt} {xs : List Sm} (h : trBody T fr body = some xs) : PSs X body (tR X.K X.mg (exRs c xs) W) := by
  obtain ⟨h1, h2, h3⟩ := trs_ok (c := c) (k := k) 30
  obtain ⟨q1, q2, q3⟩ := trs_ok (c := c) (k := k) 29
  have all : ∀ n, ∀ {st s}, trS (trs 30).1 (trs 30).2 T fr n st = some s → PS X.nox st (tS X.K fr (ex c s)) := by
    intro n
    induction n with
    | zero => intro st s h; cases h
    | succ n ih => intro st s h; exact stepS_ok h1 h2 h3 rfl q1 q3 C ih h
  have allx : ∀ n, ∀ {st s}, trS (trs 30).1 (trs 30).2 T fr n st = some s → PS X st (tR X.K X.mg (exR c s) W) := by
    intro n
    induction n with
    | zero => intro st s h; cases h
    | succ n ih => intro st s h; exact stepX_ok rfl q1 h3 C tk hc hcl (all n) ih h
  exact sx_of (all 12) (allx 12) h
end Wh

set_option Elab.async false
set_option linter.all false
set_option maxRecDepth 100000
set_option maxHeartbeats 2000000
set_option exponentiation.threshold 5000
/-! Wh15: the table of defs keeps its promises; the law's end. -/
namespace Wh
open PySem PySem.Spec PyProof.Rows L2 Evl
variable [Tbl]

def penTab (tab : List (Str × Fn)) (x : Str) : Bool := match tab.lookup x with
  | some f => f.pen
  | none => false
def frTab (tab : List (Str × Fn)) (x : Str) : Bool := match tab.lookup x with
  | some f => f.fr
  | none => false
def kwTab (tab : List (Str × Fn)) (x : Str) : List Kw := match tab.lookup x with
  | some f => f.kw
  | none => []
/-- a class of the program that can be raised with a text -/
structure ClsK (K : PySem.W.Frag) (mg : Str → Option Value) (x : Str) (C : Addr) : Prop where
  mg : mg x = some (.ref C)
  kp : PySem.W.keepIn K (.ref C) = true
  ex : ∃ (B newId initId : String) (bmB : List Value), ExcBaseFacts B newId initId bmB ∧ PySem.W.excIn K C bmB newId = true
  sub : PySem.W.subIn K (.ref C) (.type "BaseException") = some true
  ty : PySem.W.typeIn K (.ref C) = some (.type "type")
/-- a def of the text is the table's -/
structure DefOk (K : PySem.W.Frag) (mg : Str → Option Value) (tab : List (Str × Fn)) (cs : List (Addr × Addr)) (x : Str) (f : Fn) (fa : Addr) (fd : FuncData) (st : Stmt) (N ps : List Str) (ow : List Nat) (sd : Str → Option (List (Str × PyData))) (cl : List Str) : Prop where
  F : Fun K x x st fa fd
  say : ∀ y ws, sd y = some ws → SayD K mg y ws ∧ ∃ c P, (c, P) ∈ cs ∧ fd.code = .ref c ∧ (P, (x ++ ".<locals>.") ++ "<lambda>") ∈ Tbl.T ∧ ∀ p ∈ Tbl.T, p.1 = P → p.2 = (x ++ ".<locals>.") ++ "<lambda>"
  cls : ∀ y ∈ cl, ∃ C, ClsK K mg y C
  mg : mg x = some (.ref fa)
  bs : Binds K fd ps []
  S : FnScope N ps (defScope st)
  np : ps.length = f.np
  ns : N.length = f.ns
  le : f.np ≤ f.ns
  kws : ∀ sh ∈ f.kw, KwOk K fd ps sh
  tr : trBody ⟨N, defScope st, defScope st, ow, penTab tab, frTab tab, kwTab tab, true, fun _ _ => none, sd, cl⟩ f.fr (defBody st) = some f.body
def TabOk (K : PySem.W.Frag) (mg : Str → Option Value) (tab : List (Str × Fn)) (cs : List (Addr × Addr)) : Prop := ∀ x f, tab.lookup x = some f → ∃ fa fd st N ps ow sd cl, DefOk K mg tab cs x f fa fd st N ps ow sd cl

section
variable {K : PySem.W.Frag} {F H : Hp}
theorem start_get {N : List Str} {vs : List V} {i : Nat} {v : V} (h : vs[i]? = some v) : (L2.start N vs)[i]? = some (some v) := by
  unfold L2.start
  have hi := lt_of_get h
  rw [List.getElem?_append_left (by simpa using hi), List.getElem?_map, h]; rfl
/-- the slots at a def's entry: data alone -/
theorem rep_start {f : Fn} {N : List Str} {vs : List V} {xs : List PyData} (e : Wl F H) (ha : RpA K F vs xs) (hn : N.length = f.ns) (hp : xs.length = f.np) (hle : f.np ≤ f.ns) : Rep K (startE f none xs) (L2.start N vs) F H ∧ ∀ a, ¬ Own (startE f none xs) (L2.start N vs) a := by
  have get : ∀ (i : Nat) (s : Sv), (startE f none xs)[i]? = some (some s) → ∃ x, xs[i]? = some x ∧ s = .d x := fun i s h => by
    unfold startE at h
    simp only [List.nil_append] at h
    by_cases hi : i < xs.length
    · rw [List.getElem?_append_left (by simpa using hi), List.getElem?_map, List.getElem?_eq_getElem hi] at h
      simp only [Option.map_some, Option.some.injEq] at h
      exact ⟨_, List.getElem?_eq_getElem hi, h.symm⟩
    · rw [List.getElem?_append_right (by simpa using hi), List.getElem?_replicate] at h
      split at h <;> cases h
  refine ⟨⟨?_, e, fun i x h => ?_, fun i b ys h => ?_, fun i j b b' ys zs p h => ?_, fun i h => ?_⟩, fun a o => ?_⟩
  · have := ha.len
    simp [startE, L2.start]
    omega
  · obtain ⟨y, h1, h2⟩ := get i _ h
    cases h2
    obtain ⟨v, g1, g2⟩ := ha.get h1
    exact ⟨v, start_get g1, g2⟩
  · obtain ⟨y, _, h2⟩ := get i _ h
    cases h2
  · obtain ⟨y, _, h2⟩ := get i _ h
    cases h2
  · obtain ⟨y, _, h2⟩ := get i _ h
    cases h2
  · obtain ⟨i, b, ys, h1, _⟩ := o
    obtain ⟨y, _, h2⟩ := get i _ h1
    cases h2
/-- .. with a borrowed list ahead -/
theorem rep_startP {f : Fn} {N : List Str} {p : Addr} {ws vs : List V} {pen xs : List PyData} (e : Wl F H) (hf : F p = none) (hh : H p = some (.lst ws)) (hw : RpA K F ws pen) (ha : RpA K F vs xs) (hn : N.length = f.ns) (hp : xs.length + 1 = f.np) (hle : f.np ≤ f.ns) :
    Rep K (startE f (some pen) xs) (L2.start N (.ref p :: vs)) F H ∧ (∀ a, Own (startE f (some pen) xs) (L2.start N (.ref p :: vs)) a → a = p) ∧ (L2.start N (.ref p :: vs))[0]? = some (some (.ref p)) := by
  have get : ∀ (i : Nat) (s : Sv), (startE f (some pen) xs)[i]? = some (some s) → (i = 0 ∧ s = .own true pen) ∨ ∃ j x, i = j + 1 ∧ xs[j]? = some x ∧ s = .d x := fun i s h => by
    unfold startE at h
    cases i with
    | zero =>
      simp at h
      exact .inl ⟨rfl, h.symm⟩
    | succ j =>
      simp only [List.cons_append, List.nil_append, List.getElem?_cons_succ] at h
      by_cases hi : j < xs.length
      · rw [List.getElem?_append_left (by simpa using hi), List.getElem?_map, List.getElem?_eq_getElem hi] at h
        simp only [Option.map_some, Option.some.injEq] at h
        exact .inr ⟨j, _, rfl, List.getElem?_eq_getElem hi, h.symm⟩
      · rw [List.getElem?_append_right (by simpa using hi), List.getElem?_replicate] at h
        split at h <;> cases h
  have s0 : (L2.start N (.ref p :: vs))[0]? = some (some (.ref p)) := start_get rfl
  refine ⟨⟨?_, e, fun i x h => ?_, fun i b ys h => ?_, fun i j b b' ys zs q h1 h2 _ _ => ?_, fun i h => ?_⟩, fun a o => ?_, s0⟩
  · have := ha.len
    simp [startE, L2.start]
    omega
  · rcases get i _ h with ⟨_, z⟩ | ⟨j, y, rfl, h1, h2⟩
    · cases z
    · cases h2
      obtain ⟨v, g1, g2⟩ := ha.get h1
      exact ⟨v, start_get (by simpa using g1), g2⟩
  · rcases get i _ h with ⟨rfl, z⟩ | ⟨j, y, rfl, h1, h2⟩
    · cases z
      exact ⟨p, ws, s0, hf, hh, hw⟩
    · cases h2
  · rcases get i _ h1 with ⟨rfl, _⟩ | ⟨_, _, _, _, z⟩
    · rcases get j _ h2 with ⟨rfl, _⟩ | ⟨_, _, _, _, z⟩
      · rfl
      · cases z
    · cases z
  · rcases get i _ h with ⟨_, z⟩ | ⟨_, _, _, _, z⟩ <;> cases z
  · obtain ⟨i, b, ys, h1, h2⟩ := o
    rcases get i _ h1 with ⟨rfl, _⟩ | ⟨_, _, _, _, z⟩
    · rw [s0] at h2
      cases h2; rfl
    · cases z
end

section
variable {P : Program} {w : World} {K : PySem.W.Frag} {mg : Str → Option Value} {base : Heap} {tab : List (Str × Fn)} {g : Str → Option PyData} {wf : Nat}
theorem run_parts {c : Cfg} {f : Fn} {p : Option (List PyData)} {xs : List PyData} {x : PyData} {q : Option (List PyData)} (h : runF c f p xs = some (x, q)) :
    p.isSome = f.pen ∧ ¬ (f.pen = true ∧ f.fr = true) ∧ xs.length + (if f.pen then 1 else 0) = f.np ∧ ∃ fl ρ, exs c f.body (startE f p xs) = some (fl, ρ) ∧ (fl = .ret x ∨ (fl = .next ∧ x = .none)) ∧ endF f x ρ = some (x, q) := by
  unfold runF at h
  by_cases hc : ((p.isSome == f.pen) && !(f.pen && f.fr) && (xs.length + (if f.pen then 1 else 0) == f.np) && decide (f.np ≤ f.ns)) = true
  · rw [if_pos hc] at h
    simp only [Bool.and_eq_true, beq_iff_eq, Bool.not_eq_true', decide_eq_true_eq] at hc
    obtain ⟨⟨⟨h1, h2⟩, h3⟩, h4⟩ := hc
    refine ⟨h1, (fun z => by rw [z.1, z.2] at h2; cases h2), h3, ?_⟩
    have fin : ∀ {y ρ}, endF f y ρ = some (x, q) → y = x := fun {y ρ} e => by
      unfold endF at e
      split at e
      · obtain ⟨_, _, z⟩ := Option.map_eq_some_iff.mp e
        cases z; rfl
      · split at e
        · split at e
          · cases e; rfl
          · cases e
        · cases e; rfl
    split at h
    · rename_i y ρ he
      have := fin h
      subst this
      exact ⟨_, ρ, he, .inl rfl, h⟩
    · rename_i ρ he
      have := fin h
      subst this
      exact ⟨_, ρ, he, .inr ⟨rfl, rfl⟩, h⟩
    · cases h
  · rw [if_neg hc] at h
    cases h
/-- a def by its body, no repr around it -/
theorem Fun.okC {CX : CXT} {k : Nat} {x : Str} {st : Stmt} {f : Addr} {fd : FuncData} {N ps : List Str} {sp : Sp} (F : Fun K x x st f fd) (S : FnScope N ps (defScope st)) (many : ∀ {vs : List V} {H : Hp} {Q : VK} {E : XK}, sp vs H Q E → ps.length = vs.length)
    (body : ∀ (A : Around) (fs : List PySem.Env) (s : Shared) (H : Hp) (vs : List V) (Q : VK) (E : XK), Room k (A.deeper (envOfC x (defScope st) s.heap.objs.size f fd.code)) → A.guards = some [] → sp vs H Q E →
      ∃ t, PSs (cxOf CX P w K mg base N x (defScope st) f fd.code A fs s H E) (defBody st) t ∧ t { nx := fun _ H' => Q .non H', rt := Q } (L2.start N vs) H) : FnG P w K mg base CX (k + 1) f fd ps sp := by
  obtain ⟨oc, od, kV, doc, pm, an, cd, ct, osl, rfl, lk, code⟩ := F.ex
  exact ⟨many, fun {A fs s H ar us vs Q E} gd room e0 va bn q => LamX.run_ofS lk code S room e0 bn va (many q).symm fun hr => body A fs s H vs Q E hr gd q⟩
abbrev cfI (g : Str → Option PyData) (wf : Nat) (tab : List (Str × Fn)) (k : Nat) : Cfg := ⟨callI g wf tab k, g, wf, excI g wf tab k⟩
omit [Tbl] in
theorem callI_succ {k : Nat} {y : Str} : callI g wf tab (k + 1) y = fun p xs => match tab.lookup y with
  | none => none
  | some f => runF (cfI g wf tab k) f p xs := rfl
omit [Tbl] in
theorem excI_succ {k : Nat} {y : Str} : excI g wf tab (k + 1) y = fun xs => match tab.lookup y with
  | none => none
  | some f => runX (cfI g wf tab k) f xs := rfl
omit [Tbl] in
theorem callI_look {k : Nat} {y : Str} {p : Option (List PyData)} {xs : List PyData} {r : PyData × Option (List PyData)} (h : callI g wf tab k y p xs = some r) : ∃ f, tab.lookup y = some f := by
  cases k with
  | zero => cases h
  | succ k =>
    rw [callI_succ] at h
    cases hl : tab.lookup y with
    | none => rw [hl] at h; cases h
    | some f => exact ⟨f, rfl⟩
omit [Tbl] in
theorem excI_look {k : Nat} {y : Str} {xs : List PyData} {r : Str} (h : excI g wf tab k y xs = some r) : ∃ f, tab.lookup y = some f := by
  cases k with
  | zero => cases h
  | succ k =>
    rw [excI_succ] at h
    cases hl : tab.lookup y with
    | none => rw [hl] at h; cases h
    | some f => exact ⟨f, rfl⟩
/-- what the table promises at a level -/
def Prm (P : Program) (w : World) (K : PySem.W.Frag) (mg : Str → Option Value) (base : Heap) (g : Str → Option PyData) (wf : Nat) (tab : List (Str × Fn)) (k : Nat) (y : Str) (f : Fn) (fa : Addr) (fd : FuncData) (ps : List Str) : Prop :=
  FnG P w K mg base CX0 (6 * k) fa fd ps (spF K (callI g wf tab k y)) ∧ (f.fr = true → FnG P w K mg base CX0 (6 * k) fa fd ps (spL K (callI g wf tab k y))) ∧ FnG P w K mg base (L2.CX P w) (6 * k) fa fd ps (spX K mg (excI g wf tab k y))
/-- the context of a def's body -/
theorem ct_of {CX : CXT} {E : XK} {cs : List (Addr × Addr)} {x : Str} {f : Fn} {fa : Addr} {fd : FuncData} {st : Stmt} {N ps : List Str} {ow : List Nat} {sd : Str → Option (List (Str × PyData))} {cl : List Str} {k : Nat} (D : DefOk K mg tab cs x f fa fd st N ps ow sd cl) (hG : GlobOk K w mg g) (hB : ∀ b ∈ bltNames, mg (Str.ofString b) = none) (TB : ∀ p ∈ cs, LamX.TabB base mg p.1 p.2)
    (ih : ∀ y f', tab.lookup y = some f' → ∀ {fa fd st N ps ow sd cl}, DefOk K mg tab cs y f' fa fd st N ps ow sd cl → Prm P w K mg base g wf tab k y f' fa fd ps)
    (hT : TabOk K mg tab cs) {A : Around} {fs : List PySem.Env} {s : Shared} {H : Hp} (room : Room (6 * k + 5) (A.deeper (envOfC x (defScope st) s.heap.objs.size fa fd.code))) (gd : A.guards = some []) :
    Ct (cxOf CX P w K mg base N x (defScope st) fa fd.code A fs s H E).nox (cfI g wf tab k) (6 * k) ⟨N, defScope st, defScope st, ow, penTab tab, frTab tab, kwTab tab, true, fun _ _ => none, sd, cl⟩ where
  hN := rfl
  hsc := rfl
  nd := D.S.nd
  kind := D.S.kind
  calm := fun _ => rfl
  gd := gd
  room := fun _ => room
  un := room.units
  xe := rfl
  call := fun y po xs r h => by
    obtain ⟨f', hl⟩ := callI_look h
    obtain ⟨fa', fd', st', N', ps', ow', sd', cl', D'⟩ := hT y f' hl
    exact ⟨fa', fd', ps', (ih y f' hl D').1, D'.mg, D'.F.kp, D'.bs⟩
  callL := fun y xs r hf h => by
    obtain ⟨f', hl⟩ := callI_look h
    obtain ⟨fa', fd', st', N', ps', ow', sd', cl', D'⟩ := hT y f' hl
    refine ⟨fa', fd', ps', (ih y f' hl D').2.1 ?_, D'.mg, D'.F.kp, D'.bs⟩
    have hf' : frTab tab y = true := hf
    unfold frTab at hf'
    rw [hl] at hf'
    exact hf'
  callK := fun y sh xs r hf h => by
    obtain ⟨f', hl⟩ := callI_look h
    obtain ⟨fa', fd', st', N', ps', ow', sd', cl', D'⟩ := hT y f' hl
    refine ⟨fa', fd', ps', (ih y f' hl D').1, D'.mg, D'.F.kp, D'.kws sh ?_⟩
    have hf' : sh ∈ kwTab tab y := hf
    unfold kwTab at hf'
    rw [hl] at hf'
    exact hf'
  glob := hG
  blt := hB
  fn := fun _ _ => rfl
  exc := fun y xs e h => by
    obtain ⟨f', hl⟩ := excI_look h
    obtain ⟨fa', fd', st', N', ps', ow', sd', cl', D'⟩ := hT y f' hl
    exact ⟨fa', fd', ps', (ih y f' hl D').2.2, D'.mg, D'.F.kp, D'.bs⟩
  said := fun y ws h => by
    obtain ⟨S, c, P', hc, hcode, hm, hu⟩ := D.say y ws h
    have e1 : (cxOf CX P w K mg base N x (defScope st) fa fd.code A fs s H E).nox.env.qual = (x ++ ".<locals>.") := rfl
    have e2 : (cxOf CX P w K mg base N x (defScope st) fa fd.code A fs s H E).nox.env.code = fd.code := rfl
    refine ⟨S (cxOf CX P w K mg base N x (defScope st) fa fd.code A fs s H E).nox rfl rfl gd (room.mono (by omega)), c, P', TB (c, P') hc, ?_, ?_, ?_⟩
    · rw [e2]; exact hcode
    · rw [e1]; exact hm
    · rw [e1]; exact hu
  ec := fun _ _ _ _ h => nomatch h
theorem spF_none {vs : List V} {H : Hp} {Q : VK} {E : XK} {c : CallF} (hc : ∀ p xs, c p xs = none) (h : spF K c vs H Q E) : False := by
  rcases h with ⟨F, xs, x, _, _, h, _⟩ | ⟨F, p, ws, pen, vs', xs, x, pen', _, _, _, _, _, _, h, _⟩
  · rw [hc] at h; cases h
  · rw [hc] at h; cases h
theorem tab_ok {cs : List (Addr × Addr)} (hT : TabOk K mg tab cs) (hG : GlobOk K w mg g) (hB : ∀ b ∈ bltNames, mg (Str.ofString b) = none) (TB : ∀ p ∈ cs, LamX.TabB base mg p.1 p.2) : ∀ (k : Nat) (y : Str) (f : Fn), tab.lookup y = some f → ∀ {fa fd st N ps ow sd cl}, DefOk K mg tab cs y f fa fd st N ps ow sd cl →
    Prm P w K mg base g wf tab k y f fa fd ps := by
  intro k
  induction k with
  | zero =>
    intro y f hl fa fd st N ps ow sd cl D
    have no : ∀ {vs H Q E}, spL K (callI g wf tab 0 y) vs H Q E → False := fun {vs H Q E} h => by
      obtain ⟨_, _, _, _, _, h, _⟩ := h
      cases h
    have noX : ∀ {vs H Q E}, spX K mg (excI g wf tab 0 y) vs H Q E → False := fun {vs H Q E} h => by
      obtain ⟨_, _, _, _, _, _, h, _⟩ := h
      cases h
    exact ⟨⟨fun h => (spF_none (fun _ _ => rfl) h).elim, fun _ _ _ _ _ h => (spF_none (fun _ _ => rfl) h).elim⟩, fun _ => ⟨fun h => (no h).elim, fun _ _ _ _ _ h => (no h).elim⟩, ⟨fun h => (noX h).elim, fun _ _ _ _ _ h => (noX h).elim⟩⟩
  | succ k ih =>
    intro y f hl fa fd st N ps ow sd cl D
    have hcall : callI g wf tab (k + 1) y = runF (cfI g wf tab k) f := by
      rw [callI_succ, hl]
    have hexc : excI g wf tab (k + 1) y = runX (cfI g wf tab k) f := by
      rw [excI_succ, hl]
    unfold Prm
    rw [hcall, hexc, show 6 * (k + 1) = 6 * k + 5 + 1 by omega]
    have hct := fun {CX : CXT} {E : XK} {A : Around} {fs : List PySem.Env} {s : Shared} {H : Hp} (room : Room (6 * k + 5) (A.deeper (envOfC y (defScope st) s.heap.objs.size fa fd.code))) (gd : A.guards = some []) => ct_of (P := P) (w := w) (base := base) (wf := wf) (CX := CX) (E := E) D hG hB TB (fun y f' hl {fa fd st N ps ow sd cl} D' => ih y f' hl D') hT (fs := fs) (H := H) room gd
    -- those that raise
    have hXx : FnG P w K mg base (L2.CX P w) (6 * k + 5 + 1) fa fd ps (spX K mg (runX (cfI g wf tab k) f)) := by
      have parts : ∀ {xs : List PyData} {e : Str}, runX (cfI g wf tab k) f xs = some e → xs.length = f.np ∧ exRs (cfI g wf tab k) f.body (startE f none xs) = some e := fun {xs e} h => by
        unfold runX at h
        split at h
        · rename_i hc
          simp only [Bool.and_eq_true, beq_iff_eq] at hc
          exact ⟨hc.1.2, h⟩
        · cases h
      refine Fun.okC D.F D.S (fun {vs H Q E} h => ?_) fun A fs s H vs Q E room gd h => ?_
      · obtain ⟨F, xs, e, C, _, ha, h, _⟩ := h
        rw [D.np, ha.len, (parts h).1]
      · obtain ⟨F, xs, e, C, wl, ha, h, hm, q⟩ := h
        obtain ⟨h1, h2⟩ := parts h
        obtain ⟨rep, no⟩ := rep_start (f := f) (N := N) wl ha D.ns h1 D.le
        have C0 := hct (CX := L2.CX P w) (E := E) (fs := fs) (H := H) room gd
        have tk : L2.Takes (cxOf (L2.CX P w) P w K mg base N y (defScope st) fa fd.code A fs s H E) (fun cls d _ H => E cls d H) := takes_of rfl rfl rfl rfl
        have B := bodyX_ok C0 tk rfl (fun x hx => by
          obtain ⟨Ca, hC⟩ := D.cls x hx
          exact ⟨Ca, hC.mg, hC.kp, hC.ex, raises_own hC.sub hC.ty⟩) D.tr
        refine ⟨_, B, startE f none xs, F, e, C, rep, h2, hm, fun ρ' σ' F' H' rep' st' => q F' H' st'.ext rep'.wl (fun a o ho => ?_) (fun a o ho nt => st'.fr a o ho (no a) nt) st'.alive⟩
        rcases st'.new a o ho with z | z | z
        · exact .inl z
        · exact .inr z
        · exact absurd z (no a)
    -- those that hand back a new list
    have hL : f.fr = true → FnG P w K mg base CX0 (6 * k + 5 + 1) fa fd ps (spL K (runF (cfI g wf tab k) f)) := fun hfr => by
      refine Fun.okC D.F D.S (fun {vs H Q E} h => ?_) fun A fs s H vs Q E room gd h => ?_
      · obtain ⟨F, xs, ys, _, ha, h, _⟩ := h
        obtain ⟨h1, h2, h3, _⟩ := run_parts h
        have hpen : f.pen = false := by rw [← h1]; rfl
        rw [hpen] at h3
        simp at h3
        rw [D.np, ha.len, h3]
      · obtain ⟨F, xs, ys, e, ha, h, q⟩ := h
        obtain ⟨h1, h2, h3, fl, ρ, h4, h5, h6⟩ := run_parts h
        have hpen : f.pen = false := by rw [← h1]; rfl
        rw [hpen] at h3
        simp at h3
        obtain ⟨rep, no⟩ := rep_start (f := f) (N := N) e ha D.ns h3 D.le
        have C := hct (CX := CX0) (E := E) (fs := fs) (H := H) room gd
        have B := (body_ok C D.tr).nox
        rw [hfr] at B
        refine ⟨_, B, startE f none xs, F, fl, ρ, rep, h4, ?_⟩
        rcases h5 with rfl | ⟨rfl, z⟩
        · refine ⟨ys, rfl, fun p ws σ' F' H' rep' st' h0 hf hh hr => q p ws F' H' st'.ext rep'.wl (fun a o ho => ?_) (fun a o ho nt => st'.fr a o ho (no a) nt) st'.alive h0 hf hh hr⟩
          rcases st'.new a o ho with z | z | z
          · exact .inl z
          · exact .inr z
          · exact absurd z (no a)
        · cases z
    refine ⟨?_, hL, hXx⟩
    cases hfr : f.fr with
    | true =>
      refine (hL hfr).imp fun {vs H Q E} h => ?_
      rcases h with ⟨F, xs, x, e, ha, h, q⟩ | ⟨F, p, ws, pen, vs', xs, x, pen', _, _, _, _, _, _, h, _⟩
      · obtain ⟨h1, h2, h3, fl, ρ, h4, h5, h6⟩ := run_parts h
        have hpen : f.pen = false := by rw [← h1]; rfl
        have hx : ∃ ys, x = .list ys := by
          unfold endF at h6
          rw [hpen, hfr] at h6
          simp only [Bool.false_eq_true, if_false, if_true] at h6
          split at h6
          · exact ⟨_, rfl⟩
          · cases h6
        obtain ⟨ys, rfl⟩ := hx
        refine ⟨F, xs, ys, e, ha, h, fun p ws F' H' e1 e2 nw fr al h0 hf hh hr => ?_⟩
        refine q (.ref p) (upd F' p (.lst ws)) H' (e1.trans (Ex.new hf)) (e2.frz hh (fun _ z => by cases z)) (fun a o ho => ?_) fr al (.lst (SqL.of upd_same) (hr.mono (Ex.new hf)))
        · by_cases ea : a = p
          · subst ea; exact .inr h0
          · rw [upd_ne ea] at ho; exact nw a o ho
      · obtain ⟨h1, h2, _⟩ := run_parts h
        exact absurd ⟨h1.symm, hfr⟩ h2
    | false =>
      refine Fun.okC D.F D.S (fun {vs H Q E} h => ?_) fun A fs s H vs Q E room gd h => ?_
      · rcases h with ⟨F, xs, x, _, ha, h, _⟩ | ⟨F, p, ws, pen, vs', xs, x, pen', rfl, _, _, _, _, ha, h, _⟩
        · obtain ⟨h1, h2, h3, _⟩ := run_parts h
          have hpen : f.pen = false := by rw [← h1]; rfl
          rw [hpen] at h3
          simp at h3
          rw [D.np, ha.len, h3]
        · obtain ⟨h1, h2, h3, _⟩ := run_parts h
          have hpen : f.pen = true := by rw [← h1]; rfl
          rw [hpen] at h3
          simp at h3
          rw [D.np, List.length_cons, ha.len, h3]
      · have C := hct (CX := CX0) (E := E) (fs := fs) (H := H) room gd
        have B := (body_ok C D.tr).nox
        rw [hfr] at B
        rcases h with ⟨F, xs, x, e, ha, h, q⟩ | ⟨F, p, ws, pen, vs', xs, x, pen', rfl, e, hf, hh, hw, ha, h, q⟩
        · obtain ⟨h1, h2, h3, fl, ρ, h4, h5, h6⟩ := run_parts h
          have hpen : f.pen = false := by rw [← h1]; rfl
          rw [hpen] at h3
          simp at h3
          obtain ⟨rep, no⟩ := rep_start (f := f) (N := N) e ha D.ns h3 D.le
          refine ⟨_, B, startE f none xs, F, fl, ρ, rep, h4, ?_⟩
          have fin : ∀ v σ' F' H', Rep K ρ σ' F' H' → Stp (startE f none xs) (L2.start N vs) F H ρ σ' F' H' → Rp K F' v x → Q v H' := fun v σ' F' H' rep' st' rp => by
            refine q v F' H' st'.ext rep'.wl (fun a o ho => ?_) (fun a o ho nt => st'.fr a o ho (no a) nt) st'.alive rp
            rcases st'.new a o ho with z | z | z
            · exact .inl z
            · exact .inr z
            · exact absurd z (no a)
          rcases h5 with rfl | ⟨rfl, rfl⟩
          · exact fin
          · exact fun σ' F' H' rep' st' => fin .non σ' F' H' rep' st' .non
        · obtain ⟨h1, h2, h3, fl, ρ, h4, h5, h6⟩ := run_parts h
          have hpen : f.pen = true := by rw [← h1]; rfl
          rw [hpen] at h3
          simp at h3
          obtain ⟨rep, no, s0⟩ := rep_startP (f := f) (N := N) e hf hh hw ha D.ns h3 D.le
          have hpo : penOf ρ = some pen' := by
            unfold endF at h6
            rw [hpen] at h6
            simp only [if_true] at h6
            obtain ⟨z, z1, z2⟩ := Option.map_eq_some_iff.mp h6
            cases z2
            exact z1
          have hρ : ρ[0]? = some (some (.own true pen')) := by
            unfold penOf at hpo
            split at hpo
            · rename_i hq
              cases hpo
              exact hq
            · cases hpo
          refine ⟨_, B, startE f (some pen) xs, F, fl, ρ, rep, h4, ?_⟩
          have fin : ∀ v σ' F' H', Rep K ρ σ' F' H' → Stp (startE f (some pen) xs) (L2.start N (.ref p :: vs')) F H ρ σ' F' H' → Rp K F' v x → Q v H' := fun v σ' F' H' rep' st' rp => by
            obtain ⟨g1, _⟩ := st'.pen 0 pen' hρ
            obtain ⟨p', ws', k1, k2, k3, k4⟩ := rep'.own 0 true pen' hρ
            rw [g1, s0] at k1
            cases k1
            refine q v F' H' ws' st'.ext rep'.wl (fun a o ho => ?_) (fun a o ho na nt => st'.fr a o ho (fun z => na (no a z)) nt) st'.alive k3 k4 rp
            rcases st'.new a o ho with z | z | z
            · exact .inl z
            · exact .inr z
            · have := no a z
              subst this
              rw [k2] at ho; cases ho
          rcases h5 with rfl | ⟨rfl, rfl⟩
          · exact fin
          · exact fun σ' F' H' rep' st' => fin .non σ' F' H' rep' st' .non
end
end Wh

set_option Elab.async false
set_option linter.all false
set_option maxRecDepth 100000
set_option maxHeartbeats 2000000
set_option exponentiation.threshold 5000
/-! Wh16: the law's end. -/
namespace Wh
open PySem PySem.Spec PyProof.Rows L2 Evl
variable [Tbl]

/-- the script's own object -/
abbrev scriptO (vs : List Value) : Obj := { cls := .type "list", data := .seq vs.toArray }
/-- what is tracked: the script, as it stands, and the tables, which are empty -/
def Bare (K : PySem.W.Frag) (a : Addr) (vs : List Value) (xs : List V) (cs : List (Addr × Addr)) (H : Hp) : Prop := ∀ b u, H b = some u → (b = a ∧ u = .frz (scriptO vs) (.lst xs) ∧ K.lookup a = none) ∨ ((∃ p ∈ cs, p.2 = b) ∧ u = .tbl #[])
section
omit [Tbl]
variable {P : Program} {w : World} {K : PySem.W.Frag} {mg mb : Str → Option Value} {s : Shared} {a : Addr} {vs : List Value} {ns : List Int} {H : Hp} {cs : List (Addr × Addr)}
theorem bare_hok (ha : s.heap.get? a = some (scriptO vs)) (rv : Vals (ns.map V.int) vs) (hz : (ns.map V.int).length ≤ sizeLine) (hT : ∀ p ∈ cs, s.heap.get? p.2 = some { cls := .none, data := .fields #[] }) (b : Bare K a vs (ns.map V.int) cs H) : HOk P w H s.heap := fun c u e => by
  rcases b c u e with ⟨rfl, rfl, _⟩ | ⟨⟨p, hp, rfl⟩, rfl⟩
  · exact ⟨ha, hz, vs, _, rv, ha⟩
  · exact hT p hp
/-- an object of another make isn't tracked -/
theorem bare_no (ha : s.heap.get? a = some (scriptO vs)) (hT : ∀ p ∈ cs, s.heap.get? p.2 = some { cls := .none, data := .fields #[] }) (b : Bare K a vs (ns.map V.int) cs H) {d : Addr} {o : Obj} (h : s.heap.get? d = some o) (h1 : ∀ us n, o.data ≠ .seq us n) (h2 : o.data ≠ .fields #[]) : H d = none := by
  cases hx : H d with
  | none => rfl
  | some u =>
    rcases b d u hx with ⟨rfl, _, _⟩ | ⟨⟨p, hp, rfl⟩, _⟩
    · rw [ha] at h; cases h; exact absurd rfl (h1 _ _)
    · rw [hT p hp] at h; cases h; exact absurd rfl h2
theorem bare_ns (ha : s.heap.get? a = some (scriptO vs)) (hT : ∀ p ∈ cs, s.heap.get? p.2 = some { cls := .none, data := .fields #[] }) (b : Bare K a vs (ns.map V.int) cs H) {d : Addr} {m : Str → Option Value} (h : s.heap.Ns d m) : (hidT s.heap H).Ns d m := by
  obtain ⟨ob, es, ep, e1, e2, e3⟩ := h
  exact ⟨ob, es, ep, hidT_get e1 (bare_no ha hT b e1 (fun _ _ z => by rw [e2] at z; cases z) (fun z => by rw [e2] at z; cases z)), e2, e3⟩
theorem bare_mod (KX : K.In s.heap) (gl : s.heap.Ns mainGlobals mg) (bl : s.heap.Ns builtinsNs mb) (hbb : ∀ x : Str, x ≠ "__name__" → mb x = bootBuiltins x) (lim : s.heap.NoLimit) (ha : s.heap.get? a = some (scriptO vs)) (hT : ∀ p ∈ cs, s.heap.get? p.2 = some { cls := .none, data := .fields #[] }) (nT : ∀ p ∈ cs, K.lookup p.2 = none) (b : Bare K a vs (ns.map V.int) cs H) : Mod K mg (hidT s.heap H) := by
  obtain ⟨mc, l1, l2⟩ := lim
  refine ⟨fun c ob e => hidT_get (KX c ob e) ?_, bare_ns ha hT b gl, ⟨mb, bare_ns ha hT b bl, hbb⟩, mc, bare_ns ha hT b l1, l2⟩
  cases hx : H c with
  | none => rfl
  | some u =>
    rcases b c u hx with ⟨rfl, _, hk⟩ | ⟨⟨p, hp, rfl⟩, _⟩
    · rw [hk] at e; cases e
    · rw [nT p hp] at e; cases e
/-- the makers' code objects and tables -/
theorem bare_tab (gl : s.heap.Ns mainGlobals mg) (ha : s.heap.get? a = some (scriptO vs)) (hT : ∀ p ∈ cs, s.heap.get? p.2 = some { cls := .none, data := .fields #[] }) (C : ∀ p ∈ cs, PySem.W.CodeHd s.heap p.1 p.2)
    (hbm : ∃ (bm : Addr) (ob : Obj), mg "__builtins__" = some (.ref bm) ∧ bm ≠ builtinsNs ∧ s.heap.get? bm = some ob ∧ ob.cls = .type "module" ∧ ob.dict = some builtinsNs ∧ ob.data = .plain) (b : Bare K a vs (ns.map V.int) cs H) : ∀ p ∈ cs, LamX.TabB (hidT s.heap H) mg p.1 p.2 := fun p hp => by
  have nG : mainGlobals ≠ p.2 := fun z => by
    obtain ⟨ob, es, ep, e1, e2, e3⟩ := gl
    rw [z, hT p hp] at e1
    cases e1
    cases e2
  refine ⟨?_, ?_, nG⟩
  · obtain ⟨o, us, file, tf, flags, tg, inF, text, tt, e1, r1, r2, r3, r⟩ := C p hp
    refine ⟨o, us, file, tf, flags, tg, inF, text, tt, hidT_get e1 (bare_no ha hT b e1 (fun _ _ z => by rw [r2] at z; cases z) fun z => ?_), r1, r2, r3, r⟩
    rw [r2] at z
    cases z
    simp at r3
  · obtain ⟨bm, ob, b1, b2, b3, b4, b5, b6⟩ := hbm
    have n1 : bm ≠ mainGlobals := fun q => by
      obtain ⟨o, es, ep, e, hd, _⟩ := gl
      rw [q, e] at b3
      cases b3
      rw [hd] at b6
      cases b6
    have n2 : bm ≠ p.2 := fun q => by
      rw [q, hT p hp] at b3
      cases b3
      cases b6
    exact ⟨bm, ob, b1, b2, n1, n2, hidT_get b3 (bare_no ha hT b b3 (fun _ _ z => by rw [b6] at z; cases z) (fun z => by rw [b6] at z; cases z)), b4, b5, b6⟩
/-- the law's def, called with the script, tells True -/
theorem law_goes {k : Nat} {fa : Addr} {fd : FuncData} {x : Str} {sp : Sp} (KX : K.In s.heap) (gl : s.heap.Ns mainGlobals mg) (bl : s.heap.Ns builtinsNs mb) (hbb : ∀ x : Str, x ≠ "__name__" → mb x = bootBuiltins x) (lim : s.heap.NoLimit) (hg : s.gens = #[])
    (hT : ∀ p ∈ cs, s.heap.get? p.2 = some { cls := .none, data := .fields #[] }) (nT : ∀ p ∈ cs, K.lookup p.2 = none) (C : ∀ p ∈ cs, PySem.W.CodeHd s.heap p.1 p.2)
    (hbm : ∃ (bm : Addr) (ob : Obj), mg "__builtins__" = some (.ref bm) ∧ bm ≠ builtinsNs ∧ s.heap.get? bm = some ob ∧ ob.cls = .type "module" ∧ ob.dict = some builtinsNs ∧ ob.data = .plain)
    (ha : s.heap.get? a = some (scriptO vs)) (hi : IntsAre vs ns) (hz : ns.length ≤ sizeLine) (room : Room k callerA) (F : ∀ base : Heap, K.In base → (∀ p ∈ cs, LamX.TabB base mg p.1 p.2) → FnG P w K mg base CX0 k fa fd [x] sp) (hb : BindsTo s fd ⟨[.ref a], []⟩ [(x, .ref a)])
    (hsp : ∀ H : Hp, (∀ p ∈ cs, H p.2 = some (.tbl #[])) → SqL K H a (ns.map V.int) → (∀ b ps, H b = some (.tbl ps) → b ≠ a) → sp [.ref a] H (fun v _ => v = .bl true) E0) :
    codeAny (model P w) callerA (.call (.ref fa) ⟨[.ref a], []⟩) (fun r s' => r = .ok (.ret (.bool true)) ∧ OldK s.heap s'.heap ∧ s'.os = s.os ∧ AllBare s'.gens) s := by
  have rv := vals_ints hi
  have hz' : (ns.map V.int).length ≤ sizeLine := by rw [List.length_map]; exact hz
  have aT : ∀ p ∈ cs, p.2 ≠ a := fun p hp z => by
    have q := hT p hp
    rw [z, ha] at q
    cases q
  have main : ∀ H : Hp, Bare K a vs (ns.map V.int) cs H → (∀ p ∈ cs, H p.2 = some (.tbl #[])) → SqL K H a (ns.map V.int) → codeAny (model P w) callerA (.call (.ref fa) ⟨[.ref a], []⟩) (fun r s' => r = .ok (.ret (.bool true)) ∧ OldK s.heap s'.heap ∧ s'.os = s.os ∧ AllBare s'.gens) s := by
    intro H b hH sq
    have M := bare_mod KX gl bl hbb lim ha hT nT b
    have hok := bare_hok (P := P) (w := w) ha rv hz' hT b
    have e0 : Env0 P w K mg (hidT s.heap H) callerA [] s H := ⟨rfl, M, fun _ _ e => of_hidT e, Nat.le_of_eq (hidT_size _ _), trivial, fun _ z => (nomatch z), hok, .of_eq hg⟩
    have nta : ∀ b ps, H b = some (.tbl ps) → b ≠ a := fun c ps e z => by
      rcases b c _ e with ⟨_, q, _⟩ | ⟨⟨p, hp, q⟩, _⟩
      · cases q
      · exact aT p hp (q.trans z)
    refine codeAny_mono ((F _ M.kin (bare_tab gl ha hT C hbm b)).goes (us := [.ref a]) (vs := [.ref a]) rfl room e0 (.cons rfl .nil) hb (hsp H hH sq nta)) fun r s' q => ?_
    match r, q with
    | .ok (.ret u), ⟨v, H', os, gens, un, hok', rl, qv⟩ =>
      have qv : v = .bl true := qv
      subst qv
      obtain rfl : u = Value.bool true := rl
      have cases_ : ∀ c ob, s.heap.get? c = some ob → s'.heap.get? c = some ob ∨ ∃ p ∈ cs, p.2 = c := fun c ob e => by
        cases hx : H c with
        | none => exact .inl (un.keep c ob e hx (fun z => nomatch z) (by simp))
        | some u =>
          rcases b c u hx with ⟨rfl, rfl, _⟩ | ⟨h, _⟩
          · rw [ha] at e
            cases e
            exact .inl (hok' c _ (un.frzs c _ _ hx)).1
          · exact .inr h
      have grown : ∀ p ∈ cs, ∃ more : Array Value, s'.heap.get? p.2 = some { cls := .none, data := .fields more } := fun p hp => by
        obtain ⟨more, z⟩ := un.tbls p.2 #[] (hH p hp)
        exact ⟨_, hok' p.2 _ z⟩
      refine ⟨rfl, ⟨fun c ob e => ?_, fun c ob e => ?_⟩, os, gens⟩
      · rcases cases_ c ob e with h | ⟨p, hp, rfl⟩
        · exact .inl h
        · obtain ⟨more, hm⟩ := grown p hp
          rw [hT p hp] at e
          cases e
          exact .inr (.inl ⟨((C p hp).tab (hT p hp)).isCodeTable, rfl, #[], more, rfl, by rw [Array.empty_append]; exact hm⟩)
      · rcases cases_ c ob e with h | ⟨p, hp, rfl⟩
        · exact ⟨_, h⟩
        · obtain ⟨more, hm⟩ := grown p hp
          exact ⟨_, hm⟩
    | .ok .next, q => exact q.elim
    | .ok .brk, q => exact q.elim
    | .ok .cont, q => exact q.elim
    | .error _, q => exact q.elim
  have memT : ∀ b : Addr, (∃ p ∈ cs, p.2 = b) ↔ b ∈ cs.map (·.2) := fun b => by simp
  cases hk : K.lookup a with
  | none =>
    refine main (fun b => if b = a then some (.frz (scriptO vs) (.lst (ns.map V.int))) else if b ∈ cs.map (·.2) then some (.tbl #[]) else none) (fun b u e => ?_) (fun p hp => ?_) (.inl (.inr ⟨_, if_pos rfl⟩))
    · by_cases h1 : b = a
      · have e' := (if_pos h1).symm.trans e
        cases e'
        exact .inl ⟨h1, rfl, hk⟩
      · have e' := (if_neg h1).symm.trans e
        by_cases h2 : b ∈ cs.map (·.2)
        · have e2 := (if_pos h2).symm.trans e'
          cases e2
          exact .inr ⟨(memT b).mpr h2, rfl⟩
        · have e2 := (if_neg h2).symm.trans e'
          cases e2
    · exact (if_neg (aT p hp)).trans (if_pos ((memT _).mp ⟨p, hp, rfl⟩))
  | some ob =>
    have e := KX a ob hk
    rw [ha] at e
    cases e
    refine main (fun b => if b ∈ cs.map (·.2) then some (.tbl #[]) else none) (fun b u e => ?_) (fun p hp => if_pos ((memT _).mp ⟨p, hp, rfl⟩)) (.inr ⟨_, vs.toArray, _, hk, rfl, rfl, rfl, by rw [List.size_toArray, hi.length]; exact hz, by simpa using rv⟩)
    by_cases h2 : b ∈ cs.map (·.2)
    · have e2 := (if_pos h2).symm.trans e
      cases e2
      exact .inr ⟨(memT b).mpr h2, rfl⟩
    · have e2 := (if_neg h2).symm.trans e
      cases e2
end
/-- what is data of what is tracked at the start -/
def noTabs (H : Hp) : Hp := fun b => match H b with
  | some (.tbl _) => none
  | o => o
theorem noTabs_at {H : Hp} {b : Addr} {o : HO} (h : noTabs H b = some o) : H b = some o ∧ noT o := by
  unfold noTabs at h
  split at h
  · cases h
  · rename_i hn
    exact ⟨h, fun ps z => hn ps (by rw [h, z])⟩
theorem noTabs_some {H : Hp} {b : Addr} {o : HO} (h : H b = some o) (n : noT o) : noTabs H b = some o := by
  unfold noTabs
  rw [h]
  cases o <;> first | rfl | exact absurd rfl (n _)
theorem sq_noTabs {K : PySem.W.Frag} {H : Hp} {a : Addr} {xs : List V} (h : SqL K H a xs) : SqL K (noTabs H) a xs := by
  rcases h with (h | ⟨ob, h⟩) | h
  · exact .inl (.inl (noTabs_some h fun _ z => by cases z))
  · exact .inl (.inr ⟨ob, noTabs_some h fun _ z => by cases z⟩)
  · exact .inr h
/-- the goal that k_head leaves, from the table: the evaluation tells True of every script -/
theorem walk_tab {l : PySem.W.OpenLaw} {n : Nat} (k : Nat) {q : Program} {loose : List Str} {XP : (Str → Option Value) → Heap → Prop} {YP : World → Heap → Prop} {d : DefRec} {K : Params → PySem.W.Frag} {x : Str} {tab : List (Str × Fn)} {g : Str → Option PyData} {wf : Nat} {f : Fn} {cs : List (Addr × Addr)}
    (hn : l.most = some n) (hn2 : n ≤ sizeLine) (hdf : d.params.defaults = []) (room : Room (6 * k) callerA) (hl : tab.lookup d.name = some f)
    (hY : ∀ (w : World) (h : Heap), YP w h → (K w.params).In h) (hE : ∀ (w : World) (h : Heap), YP w h → ∀ p ∈ cs, h.get? p.2 = some { cls := .none, data := .fields #[] }) (hTb : ∀ p ∈ Tbl.T, ∃ q ∈ cs, q.2 = p.1)
    (hT : ∀ (w : World) (mg : Str → Option Value) (h : Heap), (K w.params).In h → h.Ns mainGlobals mg → (∀ p ∈ cs, (K w.params).lookup p.2 = none ∧ PySem.W.codeHdIn (K w.params) p.1 p.2 = true) ∧ (TabOk (K w.params) mg tab cs ∧ GlobOk (K w.params) w mg g ∧ ∀ b ∈ bltNames, mg (Str.ofString b) = none) ∧ ∃ fa fd st N ow sd cl, DefOk (K w.params) mg tab cs d.name f fa fd st N [x] ow sd cl)
    (run : ∀ ns : List Int, ns.length ≤ n → callI g wf tab k d.name none [.list (ns.map .int)] = some (.bool true, none)) :
    PySem.W.WalkO q loose XP YP l.row.toRowW d [] (fun f vs => PySem.call f vs) := by
  refine Att.attach_call hn hdf fun w s₀ s mg mb fa o pm cd doc a vs ns G Y ho hd hcd hmg hobj hints hlen hg => ?_
  have KX := hY w _ Y
  obtain ⟨ck, ⟨tk, gk, bk⟩, fa', fd, st, N, ow, sd, cl, D⟩ := hT w mg _ KX G.T.g
  have hb : BindsTo s fd ⟨[.ref a], []⟩ [(x, .ref a)] := D.bs s [.ref a] KX rfl
  have e := D.mg
  rw [hmg] at e
  cases e
  refine law_goes (cs := cs) (sp := spF (K w.params) (callI g wf tab k d.name)) KX G.T.g G.T.b G.T.builtins G.T.nolimit hg (hE w _ Y) (fun p hp => (ck p hp).1) (fun p hp => PySem.W.codeHd_of_K KX (ck p hp).2) G.T.bmain hobj hints (Nat.le_trans hlen hn2) room (fun base _ TB => (tab_ok tk gk bk TB k d.name f hl D).1) hb fun H hH sq _ => ?_
  refine .inl ⟨noTabs H, [.list (ns.map .int)], .bool true, ⟨fun b o h => (noTabs_at h).1, fun p hp => ?_, fun b o h => (noTabs_at h).2⟩, .one (.lst (sq_noTabs sq) (RpA.ofInts ns)), run ns hlen, fun v F' H' _ _ _ _ _ rp => ?_⟩
  · obtain ⟨q, hq, e⟩ := hTb p hp
    refine LamX.TabS.nil ?_
    rw [← e]
    exact hH q hq
  · cases rp
    rfl
/-- one def's facts, as the head gives them -/
theorem def_mk {K : PySem.W.Frag} {h : Heap} {mg : Str → Option Value} {tab : List (Str × Fn)} {cs : List (Addr × Addr)} (X : K.In h) (G : h.Ns mainGlobals mg) {x : Str} {f : Fn} {st : Stmt} {N ps : List Str} {ow : List Nat} {sd : Str → Option (List (Str × PyData))} {cl : List Str} {fa : Addr} {od an : Option Addr} {sl : Array (Option Value)} {oc kV dc pm cd ct : Value}
    (S : FnScope N ps (defScope st)) (np : ps.length = f.np) (ns : N.length = f.ns) (le : f.np ≤ f.ns) (tr : trBody ⟨N, defScope st, defScope st, ow, penTab tab, frTab tab, kwTab tab, true, fun _ _ => none, sd, cl⟩ f.fr (defBody st) = some f.body)
    (bn : ∀ (kV doc pm : Value) (an : Option Addr) (cdv ct : Value) (us : List Value), us.length = ps.length → bindArgs (PySem.W.fnOf x x (defArgs st) (defBody st) (defScope st) .none kV doc pm an cdv ct) ⟨us, []⟩ = pure (ps.zip us))
    (a1 : PySem.W.nsIn K mainGlobals x = some (some (.ref fa))) (l1 : K.lookup fa = some ⟨oc, od, .func (PySem.W.fnOf x x (defArgs st) (defBody st) (defScope st) .none kV dc pm an cd ct), sl⟩) (c1 : PySem.W.codeIn K cd x = true) (k1 : PySem.W.keepIn K (.ref fa) = true) (kw : ∀ sh ∈ f.kw, KwOk K (PySem.W.fnOf x x (defArgs st) (defBody st) (defScope st) .none kV dc pm an cd ct) ps sh)
    (say : ∀ y ws, sd y = some ws → SayD K mg y ws ∧ ∃ c P, (c, P) ∈ cs ∧ cd = .ref c ∧ (P, (x ++ ".<locals>.") ++ "<lambda>") ∈ Tbl.T ∧ ∀ p ∈ Tbl.T, p.1 = P → p.2 = (x ++ ".<locals>.") ++ "<lambda>") (cls : ∀ y ∈ cl, ∃ C, ClsK K mg y C) :
    DefOk K mg tab cs x f fa (PySem.W.fnOf x x (defArgs st) (defBody st) (defScope st) .none kV dc pm an cd ct) st N ps ow sd cl :=
  have F := fun_mk (st := st) l1 c1 k1
  ⟨F, say, cls, PySem.W.mg_of X G a1, F.binds bn, S, np, ns, le, kw, tr⟩
/-- a shape without defaults -/
theorem kw_mk {K : PySem.W.Frag} {fd : FuncData} {ps : List Str} {n : Nat} {ks : List Str} {js : List Nat} (h : ∀ us ws : List Value, us.length = n → ws.length = ks.length → ∃ bs, js.mapM (fun j => (us ++ ws)[j]?) = some bs ∧ bindArgs fd ⟨us, ks.zip ws⟩ = pure (ps.zip bs)) : KwOk K fd ps ⟨n, ks, js.map .inl⟩ := by
  refine ⟨fun {F vs zs xs xs2 ys} s us ws _ r1 r2 p1 p2 l1 l2 hp => ?_⟩
  obtain ⟨bs, hb, he⟩ := h us ws (by rw [← r1.length, p1.len]; exact l1) (by rw [← r2.length, p2.len]; exact l2)
  have ra := p1.append p2
  have rv : Vals (vs ++ zs) (us ++ ws) := r1.append r2
  have key : ∀ (js : List Nat) (bs : List Value) (ys : List PyData), js.mapM (fun j => (us ++ ws)[j]?) = some bs → pickD (xs ++ xs2) (js.map Sum.inl) = some ys → ∃ vs', Vals vs' bs ∧ RpA K F vs' ys := by
    intro js
    induction js with
    | nil =>
      intro bs ys h1 h2
      cases h1
      cases h2
      exact ⟨[], .nil, .nil⟩
    | cons j js ih =>
      intro bs ys h1 h2
      rw [List.mapM_cons] at h1
      simp only [List.map_cons, pickD] at h2
      cases hu : (us ++ ws)[j]? with
      | none => rw [hu] at h1; cases h1
      | some u =>
        rw [hu] at h1
        cases hm : js.mapM (fun j => (us ++ ws)[j]?) with
        | none => simp only [hm] at h1; cases h1
        | some bs' =>
          simp only [hm] at h1
          cases h1
          split at h2
          · rename_i y ys' g1 g2
            cases h2
            obtain ⟨vs', i1, i2⟩ := ih bs' ys' hm g2
            obtain ⟨v, q1, q2⟩ := ra.get g1
            obtain ⟨u', w1, w2⟩ := rv.get q1
            rw [hu] at w1
            cases w1
            exact ⟨v :: vs', .cons w2 i1, .cons q2 i2⟩
          · cases h2
  obtain ⟨vs', k1, k2⟩ := key js bs ys hb hp
  exact ⟨bs, vs', .of_eq he, k1, k2⟩
end Wh

set_option Elab.async false
set_option linter.all false
set_option maxRecDepth 100000
set_option maxHeartbeats 2000000
/-! Wh17: the table's premises, from a list. -/
namespace Wh
open PySem PySem.Spec PyProof.Rows L2 Evl
section
variable [Tbl]
def AllDef (K : PySem.W.Frag) (mg : Str → Option Value) (tab : List (Str × Fn)) (cs : List (Addr × Addr)) : List (Str × Fn) → Prop
  | [] => True
  | (x, f) :: r => (∃ fa fd st N ps ow sd cl, DefOk K mg tab cs x f fa fd st N ps ow sd cl) ∧ AllDef K mg tab cs r
theorem all_look {K : PySem.W.Frag} {mg : Str → Option Value} {tab : List (Str × Fn)} {cs : List (Addr × Addr)} : ∀ {l : List (Str × Fn)}, AllDef K mg tab cs l → ∀ x f, l.lookup x = some f → ∃ fa fd st N ps ow sd cl, DefOk K mg tab cs x f fa fd st N ps ow sd cl
  | [], _, _, _, h => nomatch h
  | (y, g) :: r, A, x, f, h => by
    rw [List.lookup_cons] at h
    by_cases e : x = y
    · subst e
      rw [beq_self_eq_true] at h
      cases h
      exact A.1
    · rw [beq_false_of_ne e] at h
      exact all_look A.2 x f h
theorem tab_all {K : PySem.W.Frag} {mg : Str → Option Value} {tab : List (Str × Fn)} {cs : List (Addr × Addr)} (A : AllDef K mg tab cs tab) : TabOk K mg tab cs := fun x f h => all_look A x f h
def AllNo (mg : Str → Option Value) : List String → Prop
  | [] => True
  | b :: r => mg (Str.ofString b) = none ∧ AllNo mg r
theorem no_mem {mg : Str → Option Value} : ∀ {l : List String}, AllNo mg l → ∀ b ∈ l, mg (Str.ofString b) = none
  | _ :: _, A, _, .head _ => A.1
  | _ :: _, A, _, .tail _ h => no_mem A.2 _ h
theorem blt_all {mg : Str → Option Value} (A : AllNo mg bltNames) : ∀ b ∈ bltNames, mg (Str.ofString b) = none := no_mem A
theorem walk_all {l : PySem.W.OpenLaw} {n : Nat} (k : Nat) {q : Program} {loose : List Str} {XP : (Str → Option Value) → Heap → Prop} {YP : World → Heap → Prop} {d : DefRec} {K : Params → PySem.W.Frag} {x : Str} (tab : List (Str × Fn)) (g : Str → Option PyData) (wf : Nat) {f : Fn} (cs : List (Addr × Addr))
    (hn : l.most = some n) (hn2 : n ≤ sizeLine) (hdf : d.params.defaults = []) (room : Room (6 * k) callerA) (hl : tab.lookup d.name = some f)
    (hY : ∀ (w : World) (h : Heap), YP w h → (K w.params).In h) (hE : ∀ (w : World) (h : Heap), YP w h → ∀ p ∈ cs, h.get? p.2 = some { cls := .none, data := .fields #[] }) (hTb : ∀ p ∈ Tbl.T, ∃ q ∈ cs, q.2 = p.1)
    (run : ∀ ns : List Int, ns.length ≤ n → callI g wf tab k d.name none [.list (ns.map .int)] = some (.bool true, none))
    (hT : ∀ (w : World) (mg : Str → Option Value) (h : Heap), (K w.params).In h → h.Ns mainGlobals mg → (∀ p ∈ cs, (K w.params).lookup p.2 = none ∧ PySem.W.codeHdIn (K w.params) p.1 p.2 = true) ∧ (TabOk (K w.params) mg tab cs ∧ GlobOk (K w.params) w mg g ∧ ∀ b ∈ bltNames, mg (Str.ofString b) = none) ∧ ∃ fa fd st N ow sd cl, DefOk (K w.params) mg tab cs d.name f fa fd st N [x] ow sd cl) :
    PySem.W.WalkO q loose XP YP l.row.toRowW d [] (fun f vs => PySem.call f vs) :=
  walk_tab k hn hn2 hdf room hl hY hE hTb hT run
end
def AllG (K : PySem.W.Frag) (w : World) (mg : Str → Option Value) : List (Str × PyData) → Prop
  | [] => True
  | (x, d) :: r => (match d with | .dict kvs => DctG K w mg x kvs | d => DatG K mg x d) ∧ AllG K w mg r
theorem glob_all {K : PySem.W.Frag} {w : World} {mg : Str → Option Value} : ∀ {l : List (Str × PyData)}, AllG K w mg l → GlobOk K w mg (fun x => l.lookup x)
  | [], _, _, _, h => nomatch h
  | (y, g) :: r, A, x, d, h => by
    have h : ((y, g) :: r).lookup x = some d := h
    rw [List.lookup_cons] at h
    by_cases e : x = y
    · subst e
      rw [beq_self_eq_true] at h
      cases h
      exact A.1
    · rw [beq_false_of_ne e] at h
      exact glob_all A.2 x d h
/-! ### the module's constants -/
mutual
def kdB (K : PySem.W.Frag) : Nat → Value → PyData → Bool
  | _, .none, .none => true
  | _, .bool b, .bool c => b == c
  | _, .int i _, .int j => i == j
  | _, .str x _, .str y => x == y
  | n + 1, .ref a, .tuple ds => match K.lookup a with
    | some ⟨.type t, _, .seq its _, _⟩ => decide (t = "tuple") && decide (its.size ≤ sizeLine) && kdA K n its.toList ds
    | _ => false
  | _, _, _ => false
termination_by structural _ _ d => d
def kdA (K : PySem.W.Frag) : Nat → List Value → List PyData → Bool
  | _, [], [] => true
  | n, u :: us, d :: ds => kdB K n u d && kdA K n us ds
  | _, _, _ => false
termination_by structural _ _ ds => ds
end
mutual
theorem kdB_ok {K : PySem.W.Frag} : ∀ (n : Nat) (u : Value) (d : PyData), kdB K n u d = true → ∃ v, RelV v u ∧ ∀ F, Rp K F v d
  | n, u, .none, h => by cases u <;> cases n <;> simp only [kdB] at h <;> first | exact ⟨.non, rfl, fun _ => .non⟩ | cases h
  | n, u, .bool c, h => by
    cases u with
    | bool b => obtain rfl : b = c := (by cases n <;> simpa [kdB] using h); exact ⟨.bl b, rfl, fun _ => .bl _⟩
    | _ => cases n <;> simp only [kdB] at h <;> cases h
  | n, u, .int c, h => by
    cases u with
    | int b t => obtain rfl : b = c := (by cases n <;> simpa [kdB] using h); exact ⟨.int b, ⟨_, rfl⟩, fun _ => .int _⟩
    | _ => cases n <;> simp only [kdB] at h <;> cases h
  | n, u, .str c, h => by
    cases u with
    | str b t => obtain rfl : b = c := (by cases n <;> simpa [kdB] using h); exact ⟨.str b, ⟨_, rfl⟩, fun _ => .str _⟩
    | _ => cases n <;> simp only [kdB] at h <;> cases h
  | 0, u, .tuple ds, h => by cases u <;> simp only [kdB] at h <;> cases h
  | n + 1, u, .tuple ds, h => by
    cases u <;> simp only [kdB] at h <;> first | (cases h; done) | skip
    split at h
    · rename_i a t dd its m sl hl
      rw [Bool.and_eq_true, Bool.and_eq_true, decide_eq_true_eq, decide_eq_true_eq] at h
      obtain ⟨⟨rfl, hz⟩, h⟩ := h
      obtain ⟨vs, rv, rp⟩ := kdA_ok n its.toList ds h
      exact ⟨.ref _, rfl, fun F => .tup (.inr ⟨_, its, m, hl, rfl, rfl, hz, rv⟩) (rp F)⟩
    · cases h
  | n, u, .list ds, h => by cases u <;> cases n <;> simp only [kdB] at h <;> cases h
  | n, u, .dict ds, h => by cases u <;> cases n <;> simp only [kdB] at h <;> cases h
theorem kdA_ok {K : PySem.W.Frag} : ∀ (n : Nat) (us : List Value) (ds : List PyData), kdA K n us ds = true → ∃ vs, Vals vs us ∧ ∀ F, RpA K F vs ds
  | n, [], [], _ => ⟨[], .nil, fun _ => .nil⟩
  | n, [], _ :: _, h => by simp only [kdA] at h; cases h
  | n, _ :: _, [], h => by simp only [kdA] at h; cases h
  | n, u :: us, d :: ds, h => by
    simp only [kdA, Bool.and_eq_true] at h
    obtain ⟨v, r1, p1⟩ := kdB_ok n u d h.1
    obtain ⟨vs, r2, p2⟩ := kdA_ok n us ds h.2
    exact ⟨v :: vs, .cons r1 r2, fun F => .cons (p1 F) (p2 F)⟩
end
def conB (K : PySem.W.Frag) (x : Str) (d : PyData) : Bool := match PySem.W.nsIn K mainGlobals x with
  | some (some u) => kdB K 8 u d
  | _ => false
theorem con_ok {K : PySem.W.Frag} {h : Heap} {mg : Str → Option Value} {x : Str} {d : PyData} (X : K.In h) (G : h.Ns mainGlobals mg) (e : conB K x d = true) : DatG K mg x d := by
  unfold conB at e
  split at e
  · rename_i u hu
    obtain ⟨v, r, p⟩ := kdB_ok 8 u d e
    exact ⟨u, v, PySem.W.mg_of X G hu, r, p⟩
  · cases e
/-- the entries of a written dict, keys that are texts -/
def entB (K : PySem.W.Frag) : List DictEntry → List (PyData × PyData) → Bool
  | [], [] => true
  | e :: es, (.str x, d) :: kvs => e.key.isStr x && !e.refKey && kdB K 8 e.val d && entB K es kvs
  | _, _ => false
theorem ent_ok {K : PySem.W.Frag} {w : World} : ∀ {es : List DictEntry} {kvs : List (PyData × PyData)}, PySem.W.KeysLit w.params es → entB K es kvs = true → es.any (·.refKey) = false ∧ ∀ z : Str, match es.find? (·.key.isStr z) with
    | some e => ∃ v, RelV v e.val ∧ ∀ F, Rp K F v (lookD kvs z)
    | none => lookD kvs z = .none
  | [], [], _, _ => ⟨rfl, fun z => rfl⟩
  | [], _ :: _, _, h => by simp only [entB] at h; cases h
  | _ :: _, [], _, h => by simp only [entB] at h; cases h
  | e :: es, (k, d) :: kvs, ⟨⟨y, t, hk, _⟩, kl⟩, h => by
    cases k <;> simp only [entB] at h <;> first | (cases h; done) | skip
    rename_i x
    simp only [Bool.and_eq_true] at h
    obtain ⟨⟨⟨h1, h2⟩, h3⟩, h4⟩ := h
    obtain ⟨a1, a2⟩ := ent_ok kl h4
    have hs : ∀ z, e.key.isStr z = decide (z = x) := fun z => by
      rw [hk] at h1 ⊢
      have e1 : y = x := by simpa [Value.isStr] using h1
      subst e1
      by_cases hz : z = y
      · subst hz; simp [Value.isStr]
      · have : ¬ y = z := fun e => hz e.symm
        simp [Value.isStr, hz, this]
    refine ⟨?_, fun z => ?_⟩
    · rw [List.any_cons, a1]
      simpa using h2
    · rw [List.find?_cons, hs z]
      by_cases hz : z = x
      · subst hz
        simp only [decide_true, lookD, if_true]
        exact kdB_ok 8 _ _ h3
      · simp only [hz, decide_false, lookD, if_false]
        exact a2 z
theorem dct_ok {K : PySem.W.Frag} {w : World} {h : Heap} {mg : Str → Option Value} {x : Str} {a : Addr} {es : Array DictEntry} {n : Nat} {kvs : List (PyData × PyData)} (X : K.In h) (G : h.Ns mainGlobals mg) (e : PySem.W.nsIn K mainGlobals x = some (some (.ref a)))
    (l : K.lookup a = some ⟨.type "dict", none, .dict es n, #[]⟩) (kl : PySem.W.KeysLit w.params es.toList) (hb : (!(a == sysModules) && entB K es.toList kvs) = true) : DctG K w mg x kvs := by
  rw [Bool.and_eq_true] at hb
  obtain ⟨b1, b2⟩ := ent_ok kl hb.2
  refine ⟨a, es, n, PySem.W.mg_of X G e, ⟨l, kl, by simpa using hb.1⟩, fun z => ?_⟩
  have hz := b2 z
  unfold PySem.W.nsIn
  rw [l]
  simp only
  split at hz
  · rename_i en he
    rw [he]
    exact ⟨_, rfl, hz⟩
  · rename_i he
    rw [he]
    simp only [b1]
    exact ⟨_, rfl, hz⟩
end Wh

set_option Elab.async false
set_option linter.all false
set_option maxRecDepth 100000
set_option maxHeartbeats 2000000
set_option exponentiation.threshold 5000
/-! Wh18: evaluation, for the mathematics. -/
namespace Wh
open PySem PySem.Spec PyProof.Rows L2 Evl
theorem eqD_ii (i j : Int) : eqD (.int i) (.int j) = some (decide (i = j)) := by
  have : eqD (.int i) (.int j) = some (i == j) := by simp [eqD, SeqAt.shaped, PyData.canLay0, PyData.depth, PyData.eqv]
  rw [this]; rfl
theorem eqD_ss (i j : Str) : eqD (.str i) (.str j) = some (decide (i = j)) := rfl
theorem cmp_eq (x y : PyData) : cmpD .eq x y = eqD x y := by cases x <;> rfl
theorem cmp_ne (x y : PyData) : cmpD .ne x y = (eqD x y).map (!·) := by cases x <;> rfl
theorem cmp_lt (i j : Int) : cmpD .lt (.int i) (.int j) = some (decide (i < j)) := rfl
theorem cmp_le (i j : Int) : cmpD .le (.int i) (.int j) = some (decide (i ≤ j)) := rfl
theorem cmp_gt (i j : Int) : cmpD .gt (.int i) (.int j) = some (decide (j < i)) := rfl
theorem cmp_ge (i j : Int) : cmpD .ge (.int i) (.int j) = some (decide (j ≤ i)) := rfl
theorem bin_add (i j : Int) : binD .add (.int i) (.int j) = some (.int (i + j)) := rfl
theorem bin_sub (i j : Int) : binD .sub (.int i) (.int j) = some (.int (i - j)) := rfl
theorem log2_le {n m : Nat} (h : n < 2 ^ (m + 1)) : n.log2 ≤ m := by
  by_cases hn : n = 0
  · subst hn; simp
  · have := (Nat.log2_lt hn).mpr h
    omega
theorem mulOk_of {i j : Int} (hi : i.natAbs < 2 ^ 4096) (hj : j.natAbs < 2 ^ 4096) : mulOk i j = true := by
  have a := log2_le (m := 4095) hi
  have b := log2_le (m := 4095) hj
  simp only [mulOk, decide_eq_true_eq]
  omega
theorem divOk_of {j : Int} (h0 : j ≠ 0) (hj : j.natAbs < 2 ^ 4096) : divOk j = true := by
  have b := log2_le (m := 4095) hj
  simp only [divOk, Bool.and_eq_true, decide_eq_true_eq]
  omega
theorem bin_mul {i j : Int} (hi : i.natAbs < 2 ^ 4096) (hj : j.natAbs < 2 ^ 4096) : binD .mul (.int i) (.int j) = some (.int (i * j)) := by simp [binD, mulOk_of hi hj]
theorem bin_div {i j : Int} (h0 : 0 < j) (hj : j.natAbs < 2 ^ 4096) : binD .fdiv (.int i) (.int j) = some (.int (i / j)) := by
  simp [binD, divOk_of (by omega) hj, Int.fdiv_eq_ediv_of_nonneg _ (Int.le_of_lt h0)]
theorem bin_mod {i j : Int} (h0 : 0 < j) : binD .mod (.int i) (.int j) = some (.int (i % j)) := by
  have : j ≠ 0 := by omega
  simp [binD, this, Int.fmod_eq_emod_of_nonneg _ (Int.le_of_lt h0)]
/-! ### loops -/
theorem gcd_step {a b : Int} (ha : 0 ≤ a) (hb : 0 ≤ b) : Int.gcd b (a % b) = Int.gcd a b := by
  obtain ⟨x, rfl⟩ := Int.eq_ofNat_of_zero_le ha
  obtain ⟨y, rfl⟩ := Int.eq_ofNat_of_zero_le hb
  rw [← Int.natCast_emod]
  simp only [Int.gcd, Int.natAbs_natCast]
  rw [Nat.gcd_comm x y, Nat.gcd_rec y x, Nat.gcd_comm]
theorem wh_gcd {cnd : En → Option (Bool × En)} {bdy : En → Option (Fl × En)} (E : Int → Int → En) (hc : ∀ a b, cnd (E a b) = some (!decide (b = 0), E a b)) (hb : ∀ a b, 0 < b → bdy (E a b) = some (.next, E b (a % b))) :
    ∀ (n : Nat) (a b : Int), 0 ≤ a → 0 ≤ b → b < n → whI cnd bdy n (E a b) = some (.next, E (Int.gcd a b) 0)
  | 0, a, b, _, h, h2 => by omega
  | n + 1, a, b, ha, h, h2 => by
    unfold whI
    rw [hc]
    by_cases e : b = 0
    · subst e
      simp
      congr
      omega
    · have hp : 0 < b := by omega
      simp only [e, decide_false, Bool.not_false]
      rw [hb a b hp]
      simp only []
      have h3 := Int.emod_nonneg a e
      have h4 := Int.emod_lt_of_pos a hp
      rw [wh_gcd E hc hb n b (a % b) h (by omega) (by omega), gcd_step ha h]
theorem forI_inv {step : PyData → En → Option (Fl × En)} (I : En → Prop) : ∀ {xs : List PyData}, (∀ x ∈ xs, ∀ ρ, I ρ → ∃ ρ', step x ρ = some (.next, ρ') ∧ I ρ') → ∀ ρ, I ρ → ∃ ρ', forI step xs ρ = some (.next, ρ') ∧ I ρ'
  | [], _, ρ, h => ⟨ρ, rfl, h⟩
  | x :: xs, hs, ρ, h => by
    obtain ⟨ρ1, e1, i1⟩ := hs x (.head _) ρ h
    unfold forI
    rw [e1]
    exact forI_inv I (fun y hy => hs y (.tail _ hy)) ρ1 i1
theorem cmpI_map {step : PyData → En → Option (Option PyData × En)} {ρ : En} (f : PyData → PyData) : ∀ {xs : List PyData}, (∀ x ∈ xs, step x ρ = some (some (f x), ρ)) → cmpI step xs ρ = some (xs.map f, ρ)
  | [], _ => rfl
  | x :: xs, hs => by
    unfold cmpI
    rw [hs x (.head _)]
    simp only []
    rw [cmpI_map f fun y hy => hs y (.tail _ hy)]
    rfl
/-! ### comprehensions -/
theorem cmpI_filter {step : PyData → En → Option (Option PyData × En)} {ρ : En} (p : PyData → Bool) (f : PyData → PyData) : ∀ {xs : List PyData}, (∀ x ∈ xs, step x ρ = some (if p x then some (f x) else none, ρ)) → cmpI step xs ρ = some ((xs.filter p).map f, ρ)
  | [], _ => rfl
  | x :: xs, hs => by
    unfold cmpI
    rw [hs x (.head _)]
    by_cases h : p x = true
    · simp only [h, if_true, List.filter_cons_of_pos, List.map_cons]
      rw [cmpI_filter p f fun y hy => hs y (.tail _ hy)]
    · have h' : p x = false := by simpa using h
      simp only [h', List.filter_cons]
      exact cmpI_filter p f fun y hy => hs y (.tail _ hy)
theorem cmpI_inv {step : PyData → En → Option (Option PyData × En)} (I : En → Prop) (P : PyData → Prop) : ∀ {xs : List PyData}, (∀ x ∈ xs, ∀ ρ, I ρ → ∃ y ρ', step x ρ = some (some y, ρ') ∧ P y ∧ I ρ') → ∀ ρ, I ρ → ∃ ys ρ', cmpI step xs ρ = some (ys, ρ') ∧ ys.length = xs.length ∧ (∀ y ∈ ys, P y) ∧ I ρ'
  | [], _, ρ, h => ⟨[], ρ, rfl, rfl, (fun _ z => nomatch z), h⟩
  | x :: xs, hs, ρ, h => by
    obtain ⟨y, ρ1, e1, p1, i1⟩ := hs x (.head _) ρ h
    obtain ⟨ys, ρ2, e2, l2, p2, i2⟩ := cmpI_inv I P (fun z hz => hs z (.tail _ hz)) ρ1 i1
    refine ⟨y :: ys, ρ2, ?_, by simp [l2], fun z hz => ?_, i2⟩
    · unfold cmpI
      rw [e1]
      simp only [e2]
    · cases hz with
      | head => exact p1
      | tail _ hz => exact p2 z hz
theorem set_back {ρ : En} {j : Nat} {s : Option Sv} (hj : j < ρ.length) : (ρ.set j s).set j ((ρ[j]?).getD none) = ρ := by
  rw [List.set_set, List.getElem?_eq_getElem hj]
  simp
section
variable {c : Cfg} {elt : Ep} {it : It'} {ρ : En} {xs : List PyData} {j : Nat}
theorem ev_comp1 (g : PyData → PyData) (h1 : notOwn ρ j = true) (hj : j < ρ.length) (hI : evI c it ρ = some (xs, ρ)) (hl : xs.length ≤ 100000) (hs : ∀ x ∈ xs, ev c elt (ρ.set j (some (.d x))) = some (g x, ρ.set j (some (.d x)))) :
    ev c (.comp elt (.name j) it [] [j]) ρ = some (.list (xs.map g), ρ) := by
  unfold ev
  rw [if_pos (by simp [h1]), hI, bnd_some, if_pos ⟨by simp [h1], hl⟩, cmpI_map g fun x hx => by
    simp only [bindT, wipeE, List.length_set, hj, if_true, List.set_set, evTs, bnd_some, hs x hx, backE, set_back hj]]
  rfl
theorem ev_compF {t : Tp} (p : PyData → Bool) (g : PyData → PyData) (h1 : notOwn ρ j = true) (hj : j < ρ.length) (hI : evI c it ρ = some (xs, ρ)) (hl : xs.length ≤ 100000) (ht : ∀ x ∈ xs, evT c t (ρ.set j (some (.d x))) = some (p x, ρ.set j (some (.d x))))
    (hs : ∀ x ∈ xs, ev c elt (ρ.set j (some (.d x))) = some (g x, ρ.set j (some (.d x)))) : ev c (.comp elt (.name j) it [t] [j]) ρ = some (.list ((xs.filter p).map g), ρ) := by
  unfold ev
  rw [if_pos (by simp [h1]), hI, bnd_some, if_pos ⟨by simp [h1], hl⟩, cmpI_filter p g fun x hx => by
    simp only [bindT, wipeE, List.length_set, hj, if_true, List.set_set, evTs, ht x hx, bnd_some]
    cases p x
    · simp only [backE, set_back hj]; rfl
    · simp only [hs x hx, bnd_some, backE, set_back hj]; rfl]
  rfl
theorem bools_map (g : PyData → Bool) : ∀ xs : List PyData, bools (xs.map fun x => .bool (g x)) = some (xs.map g)
  | [] => rfl
  | x :: xs => by simp only [List.map_cons, bools, bools_map g xs, Option.map_some]
/-- all([g(x) for x in it]) -/
theorem ev_all (g : PyData → Bool) (h1 : notOwn ρ j = true) (hj : j < ρ.length) (hI : evI c it ρ = some (xs, ρ)) (hl : xs.length ≤ 100000) (hs : ∀ x ∈ xs, ev c elt (ρ.set j (some (.d x))) = some (.bool (g x), ρ.set j (some (.d x)))) :
    ev c (.b1 .all (.comp elt (.name j) it [] [j])) ρ = some (.bool (xs.all g), ρ) := by
  have h := ev_comp1 (fun x => .bool (g x)) h1 hj hI hl hs
  have e : (xs.map g).all id = xs.all g := by rw [List.all_map]; rfl
  unfold ev
  rw [h, bnd_some]
  simp only [b1D, bools_map, Option.map_some, ret, e]
end
theorem exs_next {c : Cfg} {s : Sm} {ss : List Sm} {ρ ρ' : En} {r : Option (Fl × En)} (h : ex c s ρ = some (.next, ρ')) (h2 : exs c ss ρ' = r) : exs c (s :: ss) ρ = r := by
  unfold exs
  rw [h, bnd_some]
  exact h2
theorem exs_app {c : Cfg} : ∀ {ss ts : List Sm} {ρ ρ' : En} {r : Option (Fl × En)}, exs c ss ρ = some (.next, ρ') → exs c ts ρ' = r → exs c (ss ++ ts) ρ = r
  | [], _, _, _, _, h, h2 => by simp only [exs] at h; cases h; exact h2
  | s :: ss, ts, ρ, ρ', r, h, h2 => by
    simp only [List.cons_append]
    unfold exs at h ⊢
    obtain ⟨f, ρ1, e1, e2⟩ := bnd_eq h
    rw [e1, bnd_some]
    cases f with
    | next => exact exs_app e2 h2
    | brk => cases e2
    | cont => cases e2
    | ret _ => cases e2
def free (s : Option Sv) : Prop := ∀ b xs, s ≠ some (.own b xs)
theorem free_d {x : PyData} : free (some (.d x)) := fun _ _ e => nomatch e
theorem free_n : free none := fun _ _ e => nomatch e
theorem free_not {ρ : En} {i : Nat} {s : Option Sv} (h : ρ[i]? = some s) (f : free s) : notOwn ρ i = true := by
  unfold notOwn
  rw [h]
  match s, f with
  | none, _ => rfl
  | some (.d _), _ => rfl
  | some .x, _ => rfl
  | some (.own b xs), f => exact absurd rfl (f b xs)
abbrev dl (ns : List Int) : Option Sv := some (.d (.list (ns.map .int)))
theorem int_mem {cs : List Int} {x : PyData} (h : x ∈ cs.map PyData.int) : ∃ i, x = .int i := by
  obtain ⟨i, _, e⟩ := List.mem_map.mp h
  exact ⟨i, e.symm⟩
theorem atI_n {α : Type} (xs : List α) (n : Nat) : atI xs (n : Int) = xs[n]? := by
  unfold atI ixN
  simp only [Int.natCast_nonneg, if_true]
  by_cases h : n < xs.length
  · have h' : (n : Int) < xs.length := by omega
    simp only [h', if_true, Option.bind_some, Int.toNat_natCast]
  · have h' : ¬ (n : Int) < xs.length := by omega
    simp only [h', if_false, Option.bind_none]
    rw [List.getElem?_eq_none (by omega)]
theorem at0 {α : Type} (xs : List α) : atI xs 0 = xs[0]? := atI_n xs 0
theorem at1 {α : Type} (xs : List α) : atI xs 1 = xs[1]? := atI_n xs 1
theorem at2 {α : Type} (xs : List α) : atI xs 2 = xs[2]? := atI_n xs 2
theorem at3 {α : Type} (xs : List α) : atI xs 3 = xs[3]? := atI_n xs 3
theorem at4 {α : Type} (xs : List α) : atI xs 4 = xs[4]? := atI_n xs 4
theorem at5 {α : Type} (xs : List α) : atI xs 5 = xs[5]? := atI_n xs 5
theorem at6 {α : Type} (xs : List α) : atI xs 6 = xs[6]? := atI_n xs 6
/-! ### tests, step by step -/
section
variable {c : Cfg} {ρ ρ' : En} {a b : Tp} {x y : Bool} {e : Ep}
theorem evT_or (ha : evT c a ρ = some (x, ρ)) (hb : x = false → evT c b ρ = some (y, ρ)) : evT c (.or a b) ρ = some (x || y, ρ) := by
  unfold evT
  rw [ha, bnd_some]
  cases x
  · exact hb rfl
  · rfl
theorem evT_and (ha : evT c a ρ = some (x, ρ)) (hb : x = true → evT c b ρ = some (y, ρ)) : evT c (.and a b) ρ = some (x && y, ρ) := by
  unfold evT
  rw [ha, bnd_some]
  cases x
  · rfl
  · exact hb rfl
theorem evT_not (ha : evT c a ρ = some (x, ρ)) : evT c (.not a) ρ = some (!x, ρ) := by
  unfold evT
  rw [ha, bnd_some]
theorem evT_leaf (h : ev c e ρ = some (.bool x, ρ')) : evT c (.leaf e) ρ = some (x, ρ') := by
  unfold evT
  rw [h, bnd_some]
  rfl
theorem ex_ite {p q : List Sm} (h : evT c a ρ = some (x, ρ')) : ex c (.ite a p q) ρ = if x then exs c p ρ' else exs c q ρ' := by
  unfold ex
  rw [h, bnd_some]
  cases x <;> rfl
theorem exs_ite {p ss : List Sm} (h : evT c a ρ = some (x, ρ')) (hp : x = true → ∃ v, exs c p ρ' = some (.ret v, ρ')) : exs c (.ite a p [] :: ss) ρ = if x then exs c p ρ' else exs c ss ρ' := by
  show bnd (ex c (.ite a p []) ρ) _ = _
  rw [ex_ite h]
  cases x
  · rfl
  · obtain ⟨v, e⟩ := hp rfl
    show bnd (exs c p ρ') _ = exs c p ρ'
    rw [e]
    rfl
theorem run_ret {f : Fn} {xs : List PyData} {v : PyData} (hc : ((none : Option (List PyData)).isSome == f.pen && !(f.pen && f.fr) && (xs.length + (if f.pen then 1 else 0) == f.np) && decide (f.np ≤ f.ns)) = true) (hf : f.fr = false) (hp : f.pen = false) (h : exs c f.body (startE f none xs) = some (.ret v, ρ)) : runF c f none xs = some (v, none) := by
  unfold runF
  rw [if_pos hc, h]
  simp [endF, hf, hp]
end
end Wh

set_option Elab.async false
set_option linter.all false
set_option maxRecDepth 100000
set_option maxHeartbeats 2000000
set_option exponentiation.threshold 20000
/-! Wh19: fractions as rational numbers. -/
namespace Wh
open PySem PySem.Spec PyProof.Rows L2 Evl
theorem wh_gcdA {cnd : En → Option (Bool × En)} {bdy : En → Option (Fl × En)} (E : Int → Int → En) (hc : ∀ a b, 0 ≤ b → cnd (E a b) = some (!decide (b = 0), E a b)) (hb : ∀ a b, 0 < b → bdy (E a b) = some (.next, E b (a % b))) :
    ∀ (n N : Nat) (a b : Int), 0 ≤ b → b ≤ a → a * b < 2 ^ n → n + 1 ≤ N → whI cnd bdy N (E a b) = some (.next, E (Int.gcd a b) 0) := by
  intro n
  induction n with
  | zero =>
    intro N a b h1 h2 h3 h4
    have hb0 : b = 0 := by
      by_cases e : b = 0
      · exact e
      · have : 1 ≤ a * b := Int.mul_pos (by omega) (by omega)
        omega
    subst hb0
    obtain ⟨N, rfl⟩ : ∃ m, N = m + 1 := ⟨N - 1, by omega⟩
    unfold whI
    rw [hc _ _ h1]
    simp
    congr
    omega
  | succ n ih =>
    intro N a b h1 h2 h3 h4
    obtain ⟨N, rfl⟩ : ∃ m, N = m + 1 := ⟨N - 1, by omega⟩
    unfold whI
    rw [hc _ _ h1]
    by_cases e : b = 0
    · subst e
      simp
      congr
      omega
    · have hp : 0 < b := by omega
      simp only [e, decide_false, Bool.not_false]
      rw [hb a b hp]
      simp only []
      have h5 := Int.emod_nonneg a e
      have h6 := Int.emod_lt_of_pos a hp
      have h7 := Int.emod_add_mul_ediv a b
      have hq : 1 ≤ a / b := Int.le_ediv_of_mul_le hp (by omega)
      have h8 : b * 1 ≤ b * (a / b) := Int.mul_le_mul_of_nonneg_left hq (by omega)
      have h9 : 2 * (a % b) ≤ a := by omega
      have h10 : b * (2 * (a % b)) ≤ b * a := Int.mul_le_mul_of_nonneg_left h9 (by omega)
      have h11 : b * (a % b) < 2 ^ n := by
        have e1 : b * (2 * (a % b)) = 2 * (b * (a % b)) := by rw [Int.mul_left_comm]
        have e2 : b * a = a * b := Int.mul_comm b a
        have e3 : (2 : Int) ^ (n + 1) = 2 * 2 ^ n := by rw [Int.pow_succ]; omega
        omega
      rw [ih N b (a % b) h5 (by omega) h11 (by omega), gcd_step (by omega) h1]
theorem wh_gcdM {cnd : En → Option (Bool × En)} {bdy : En → Option (Fl × En)} (E : Int → Int → En) (hc : ∀ a b, 0 ≤ b → cnd (E a b) = some (!decide (b = 0), E a b)) (hb : ∀ a b, 0 < b → bdy (E a b) = some (.next, E b (a % b)))
    (n N : Nat) (a b : Int) (h1 : 0 ≤ a) (h2 : 0 ≤ b) (h3 : a * b < 2 ^ n) (h4 : n + 2 ≤ N) : whI cnd bdy N (E a b) = some (.next, E (Int.gcd a b) 0) := by
  by_cases h : b ≤ a
  · exact wh_gcdA E hc hb n N a b h2 h h3 (by omega)
  · obtain ⟨N, rfl⟩ : ∃ m, N = m + 1 := ⟨N - 1, by omega⟩
    unfold whI
    rw [hc _ _ h2]
    have e : b ≠ 0 := by omega
    have hp : 0 < b := by omega
    simp only [e, decide_false, Bool.not_false]
    rw [hb a b hp]
    simp only []
    have e2 : a % b = a := Int.emod_eq_of_lt h1 (by omega)
    rw [e2, wh_gcdA E hc hb n N b a h1 (by omega) (by rw [Int.mul_comm]; exact h3) (by omega), Int.gcd_comm]
theorem wh_gcdL {cnd : En → Option (Bool × En)} {bdy : En → Option (Fl × En)} (E : Int → Int → En) (hc : ∀ a b, cnd (E a b) = some (!decide (b = 0), E a b)) (hb : ∀ a b, 0 < b → bdy (E a b) = some (.next, E b (a % b)))
    (n N : Nat) (a b : Int) (h1 : 0 ≤ a) (h2 : 0 ≤ b) (h3 : a * b < 2 ^ n) (h4 : n + 2 ≤ N) : whI cnd bdy N (E a b) = some (.next, E (Int.gcd a b) 0) := wh_gcdM E (fun a b _ => hc a b) hb n N a b h1 h2 h3 h4
/-! ### fractions -/
def frq (q : Rat) : PyData := .tuple [.int q.num, .int (q.den : Int)]
theorem den_pos (q : Rat) : (0 : Int) < (q.den : Int) := by
  have := q.den_pos
  omega
/-- top and bottom divided by the greatest divisor -/
theorem low_pos {t b : Int} (hb : 0 < b) : t / (Int.gcd t b : Int) = (Rat.divInt t b).num ∧ b / (Int.gcd t b : Int) = ((Rat.divInt t b).den : Int) := by
  rw [Rat.num_divInt, Rat.den_divInt, if_neg (by omega), Int.sign_eq_one_of_pos hb, Int.one_mul, Int.gcd_comm b t]
  refine ⟨rfl, ?_⟩
  rw [Int.natCast_ediv, Int.natAbs_of_nonneg (by omega)]
theorem gcd_pos {t b : Int} (hb : b ≠ 0) : 0 < (Int.gcd t b : Int) := by
  have := Int.gcd_pos_of_ne_zero_right t hb
  omega
theorem low_neg {t b : Int} (hb : b < 0) : t.fdiv (0 - (Int.gcd t b : Int)) = (Rat.divInt t b).num ∧ b.fdiv (0 - (Int.gcd t b : Int)) = ((Rat.divInt t b).den : Int) := by
  have hg := gcd_pos (t := t) (b := b) (by omega)
  have e : (0 - (Int.gcd t b : Int)) = -(Int.gcd t b : Int) := by omega
  have key : ∀ z : Int, z.fdiv (-(Int.gcd t b : Int)) = (-z) / (Int.gcd t b : Int) := fun z => by
    have := Int.neg_fdiv_neg (a := -z) (b := (Int.gcd t b : Int))
    rw [Int.neg_neg] at this
    rw [this, Int.fdiv_eq_ediv_of_nonneg _ (by omega)]
  rw [e, key, key, Rat.num_divInt, Rat.den_divInt, if_neg (by omega), Int.sign_eq_neg_one_of_neg hb, Int.gcd_comm b t, Int.natCast_ediv]
  refine ⟨by congr 1; omega, by congr 1; omega⟩
theorem frq_inj {p q : Rat} (h : frq p = frq q) : p = q := by
  unfold frq at h
  injection h with h
  injection h with h1 h2
  injection h1 with h1
  injection h2 with h2
  injection h2 with h2
  exact Rat.ext h1 (by omega)
theorem rat_add (p q : Rat) : Rat.divInt (p.num * q.den + q.num * p.den) (p.den * q.den) = p + q := by
  have h1 := p.den_nz
  have h2 := q.den_nz
  rw [← Rat.divInt_add_divInt _ _ (by omega) (by omega), Rat.num_divInt_den, Rat.num_divInt_den]
theorem rat_sub (p q : Rat) : Rat.divInt (p.num * q.den - q.num * p.den) (p.den * q.den) = p - q := by
  have h1 := p.den_nz
  have h2 := q.den_nz
  rw [← Rat.divInt_sub_divInt _ _ (by omega) (by omega), Rat.num_divInt_den, Rat.num_divInt_den]
theorem rat_mul (p q : Rat) : Rat.divInt (p.num * q.num) (p.den * q.den) = p * q := by
  rw [← Rat.divInt_mul_divInt, Rat.num_divInt_den, Rat.num_divInt_den]
theorem rat_div (p q : Rat) : Rat.divInt (p.num * q.den) (p.den * q.num) = p / q := by
  rw [Rat.div_def, Rat.inv_def, ← Rat.divInt_mul_divInt, Rat.num_divInt_den]
/-- sizes -/
def szI (i : Int) (n : Nat) : Prop := i.natAbs < 2 ^ n
theorem szI.mono {i : Int} {n m : Nat} (h : szI i n) (hm : n ≤ m) : szI i m := Nat.lt_of_lt_of_le h (Nat.pow_le_pow_right (by decide) hm)
theorem szI.mul {i j : Int} {n m : Nat} (h : szI i n) (h' : szI j m) : szI (i * j) (n + m) := by
  unfold szI at *
  rw [Int.natAbs_mul, Nat.pow_add]
  exact Nat.mul_lt_mul_of_lt_of_lt h h'
theorem szI.add {i j : Int} {n m : Nat} (h : szI i n) (h' : szI j m) : szI (i + j) (max n m + 1) := by
  have a := h.mono (Nat.le_max_left n m)
  have b := h'.mono (Nat.le_max_right n m)
  unfold szI at *
  have e := Nat.pow_succ (n := 2) (m := max n m)
  have := Int.natAbs_add_le i j
  omega
theorem szI.sub {i j : Int} {n m : Nat} (h : szI i n) (h' : szI j m) : szI (i - j) (max n m + 1) := by
  have a := h.mono (Nat.le_max_left n m)
  have b := h'.mono (Nat.le_max_right n m)
  unfold szI at *
  have e := Nat.pow_succ (n := 2) (m := max n m)
  have := Int.natAbs_sub_le i j
  omega
def szQ (q : Rat) (n : Nat) : Prop := szI q.num n ∧ szI (q.den : Int) n
theorem szQ.mono {q : Rat} {n m : Nat} (h : szQ q n) (hm : n ≤ m) : szQ q m := ⟨h.1.mono hm, h.2.mono hm⟩
theorem szQ_div {t b : Int} {n : Nat} (hb : b ≠ 0) (h1 : szI t n) (h2 : szI b n) : szQ (Rat.divInt t b) n := by
  have hg := gcd_pos (t := t) (b := b) hb
  constructor
  · unfold szI at *
    rw [Rat.num_divInt]
    refine Nat.lt_of_le_of_lt (Int.natAbs_ediv_le_natAbs ..) ?_
    rw [Int.natAbs_mul]
    have : b.sign.natAbs = 1 := by rw [Int.natAbs_sign_of_ne_zero hb]
    rw [this]; omega
  · unfold szI at *
    rw [Rat.den_divInt, if_neg hb, Int.natAbs_natCast]
    exact Nat.lt_of_le_of_lt (Nat.div_le_self ..) h2
theorem mulOk_sz {i j : Int} {n m : Nat} (hi : szI i n) (hj : szI j m) (h : n + m < 900000) : mulOk i j = true := by
  have a : i.natAbs.log2 ≤ n := Nat.le_trans (log2_le (m := n) (Nat.lt_of_lt_of_le hi (Nat.pow_le_pow_right (by decide) (by omega)))) (Nat.le_refl _)
  have b : j.natAbs.log2 ≤ m := Nat.le_trans (log2_le (m := m) (Nat.lt_of_lt_of_le hj (Nat.pow_le_pow_right (by decide) (by omega)))) (Nat.le_refl _)
  simp only [mulOk, decide_eq_true_eq]
  omega
theorem bin_mulS {i j : Int} {n m : Nat} (hi : szI i n) (hj : szI j m) (h : n + m < 900000) : binD .mul (.int i) (.int j) = some (.int (i * j)) := by simp [binD, mulOk_sz hi hj h]
theorem divOk_sz {j : Int} {n : Nat} (h0 : j ≠ 0) (hj : szI j n) (hn : n < 8900) : divOk j = true := by
  have b := log2_le (m := n) (Nat.lt_of_lt_of_le hj (Nat.pow_le_pow_right (by decide) (by omega)))
  simp only [divOk, Bool.and_eq_true, decide_eq_true_eq]
  omega
theorem bin_divS {i j : Int} {n : Nat} (h0 : 0 < j) (hj : szI j n) (hn : n < 8900) : binD .fdiv (.int i) (.int j) = some (.int (i / j)) := by
  simp [binD, divOk_sz (by omega) hj hn, Int.fdiv_eq_ediv_of_nonneg _ (Int.le_of_lt h0)]
theorem bin_fdivS {i j : Int} {n : Nat} (h0 : j ≠ 0) (hj : szI j n) (hn : n < 8900) : binD .fdiv (.int i) (.int j) = some (.int (i.fdiv j)) := by
  simp [binD, divOk_sz h0 hj hn]
theorem gcd_sz {t b : Int} {n : Nat} (hb : b ≠ 0) (h : szI b n) : szI (Int.gcd t b : Int) n := by
  unfold szI at *
  rw [Int.natAbs_natCast]
  refine Nat.lt_of_le_of_lt ?_ h
  have := Int.gcd_dvd_natAbs_right t b
  exact Nat.le_of_dvd (by omega) this
end Wh

set_option Elab.async false
set_option linter.all false
set_option maxRecDepth 100000
set_option maxHeartbeats 2000000
set_option exponentiation.threshold 20000
/-! Wh20: comprehensions of any target, sizes that repr bears, cuts. -/
namespace Wh
open PySem PySem.Spec PyProof.Rows L2 Evl
section
variable {c : Cfg} {e : Ep} {tg : Tg} {it : It'} {cs : List Tp} {own : List Nat} {ρ ρ1 : En} {xs : List PyData}
theorem ev_compG (g : PyData → PyData) (h0 : own.all (notOwn ρ) = true) (hI : evI c it ρ = some (xs, ρ1)) (h1 : own.all (notOwn ρ1) = true) (hl : xs.length ≤ 100000) (hs : ∀ x ∈ xs, stepC tg (evTs c cs) (ev c e) own ρ1 x ρ1 = some (some (g x), ρ1)) :
    ev c (.comp e tg it cs own) ρ = some (.list (xs.map g), ρ1) := by
  rw [ev_comp]
  simp only [h0, if_true, hI, bnd_some, h1, hl, and_self, if_pos]
  rw [cmpI_map g hs]
  rfl
theorem ev_compGF (p : PyData → Bool) (g : PyData → PyData) (h0 : own.all (notOwn ρ) = true) (hI : evI c it ρ = some (xs, ρ1)) (h1 : own.all (notOwn ρ1) = true) (hl : xs.length ≤ 100000) (hs : ∀ x ∈ xs, stepC tg (evTs c cs) (ev c e) own ρ1 x ρ1 = some (if p x then some (g x) else none, ρ1)) :
    ev c (.comp e tg it cs own) ρ = some (.list ((xs.filter p).map g), ρ1) := by
  rw [ev_comp]
  simp only [h0, if_true, hI, bnd_some, h1, hl, and_self, if_pos]
  rw [cmpI_filter p g hs]
  rfl
theorem ev_allG (g : PyData → Bool) (h0 : own.all (notOwn ρ) = true) (hI : evI c it ρ = some (xs, ρ1)) (h1 : own.all (notOwn ρ1) = true) (hl : xs.length ≤ 100000) (hs : ∀ x ∈ xs, stepC tg (evTs c cs) (ev c e) own ρ1 x ρ1 = some (some (.bool (g x)), ρ1)) :
    ev c (.b1 .all (.comp e tg it cs own)) ρ = some (.bool (xs.all g), ρ1) := by
  have h := ev_compG (fun x => .bool (g x)) h0 hI h1 hl hs
  have e2 : (xs.map g).all id = xs.all g := by rw [List.all_map]; rfl
  unfold ev
  rw [h, bnd_some]
  simp only [b1D, bools_map, Option.map_some, ret, e2]
/-- a comprehension whose element changes what is drawn from -/
theorem ev_compI (I : En → Prop) (P : PyData → Prop) (h0 : own.all (notOwn ρ) = true) (hI : evI c it ρ = some (xs, ρ1)) (h1 : own.all (notOwn ρ1) = true) (hl : xs.length ≤ 100000) (i0 : I ρ1)
    (hs : ∀ x ∈ xs, ∀ ρ2, I ρ2 → ∃ y ρ', stepC tg (evTs c cs) (ev c e) own ρ1 x ρ2 = some (some y, ρ') ∧ P y ∧ I ρ') :
    ∃ ys ρ', ev c (.comp e tg it cs own) ρ = some (.list ys, ρ') ∧ ys.length = xs.length ∧ (∀ y ∈ ys, P y) ∧ I ρ' := by
  obtain ⟨ys, ρ', e1, l, p, i⟩ := cmpI_inv I P hs ρ1 i0
  refine ⟨ys, ρ', ?_, l, p, i⟩
  rw [ev_comp]
  simp only [h0, if_true, hI, bnd_some, h1, hl, and_self, if_pos]
  rw [e1]
  rfl
end
/-- loops with a state: what is kept, item by item -/
theorem forI_fold {step : PyData → En → Option (Fl × En)} {α : Type} (E : α → En → Prop) (f : α → PyData → α) : ∀ {xs : List PyData} {a : α} {ρ : En}, (∀ x ∈ xs, ∀ a ρ, E a ρ → ∃ ρ', step x ρ = some (.next, ρ') ∧ E (f a x) ρ') → E a ρ → ∃ ρ', forI step xs ρ = some (.next, ρ') ∧ E (xs.foldl f a) ρ'
  | [], a, ρ, _, h => ⟨ρ, rfl, h⟩
  | x :: xs, a, ρ, hs, h => by
    obtain ⟨ρ1, e1, h1⟩ := hs x (.head _) a ρ h
    obtain ⟨ρ2, e2, h2⟩ := forI_fold E f (fun y hy => hs y (.tail _ hy)) h1
    refine ⟨ρ2, ?_, h2⟩
    unfold forI
    rw [e1]
    exact e2
theorem forI_cons {step : PyData → En → Option (Fl × En)} {x : PyData} {xs : List PyData} {ρ ρ1 : En} {r : Option (Fl × En)} (h : step x ρ = some (.next, ρ1)) (h2 : forI step xs ρ1 = r) : forI step (x :: xs) ρ = r := by
  unfold forI
  rw [h]
  exact h2
theorem forI_cntS {step : PyData → En → Option (Fl × En)} {N : Nat} (I : Nat → En → Prop) : ∀ {xs : List PyData} {i : Nat} {ρ : En}, i + xs.length ≤ N → (∀ x ∈ xs, ∀ i ρ, i < N → I i ρ → ∃ ρ', step x ρ = some (.next, ρ') ∧ I (i + 1) ρ') → I i ρ → ∃ ρ', forI step xs ρ = some (.next, ρ') ∧ I (i + xs.length) ρ'
  | [], i, ρ, _, _, h => ⟨ρ, rfl, h⟩
  | x :: xs, i, ρ, hl, hs, h => by
    simp only [List.length_cons] at hl
    obtain ⟨ρ1, e1, h1⟩ := hs x (.head _) i ρ (by omega) h
    obtain ⟨ρ2, e2, h2⟩ := forI_cntS I (by omega) (fun y hy => hs y (.tail _ hy)) h1
    refine ⟨ρ2, forI_cons e1 e2, ?_⟩
    rw [List.length_cons, show i + (xs.length + 1) = i + 1 + xs.length by omega]
    exact h2
/-- row by row -/
inductive Al (R : PyData → PyData → Prop) : List PyData → List PyData → Prop
  | nil : Al R [] []
  | cons {x y : PyData} {xs ys : List PyData} : R x y → Al R xs ys → Al R (x :: xs) (y :: ys)
theorem Al.len {R : PyData → PyData → Prop} : ∀ {xs ys : List PyData}, Al R xs ys → ys.length = xs.length
  | _, _, .nil => rfl
  | _, _, .cons _ t => by simp [Al.len t]
theorem cmpI_rel {step : PyData → En → Option (Option PyData × En)} (I : En → Prop) (R : PyData → PyData → Prop) : ∀ {xs : List PyData} {ρ : En}, (∀ x ∈ xs, ∀ ρ, I ρ → ∃ y ρ', step x ρ = some (some y, ρ') ∧ R x y ∧ I ρ') → I ρ → ∃ ys ρ', cmpI step xs ρ = some (ys, ρ') ∧ Al R xs ys ∧ I ρ'
  | [], ρ, _, h => ⟨[], ρ, rfl, .nil, h⟩
  | x :: xs, ρ, hs, h => by
    obtain ⟨y, ρ1, e1, p1, i1⟩ := hs x (.head _) ρ h
    obtain ⟨ys, ρ2, e2, a2, i2⟩ := cmpI_rel I R (fun z hz => hs z (.tail _ hz)) i1
    refine ⟨y :: ys, ρ2, ?_, .cons p1 a2, i2⟩
    unfold cmpI
    rw [e1]
    simp only [e2]
theorem ev_compR {c : Cfg} {e : Ep} {tg : Tg} {it : It'} {cs : List Tp} {own : List Nat} {ρ ρ1 : En} {xs : List PyData} (I : En → Prop) (R : PyData → PyData → Prop) (h0 : own.all (notOwn ρ) = true) (hI : evI c it ρ = some (xs, ρ1)) (h1 : own.all (notOwn ρ1) = true) (hl : xs.length ≤ 100000) (i0 : I ρ1)
    (hs : ∀ x ∈ xs, ∀ ρ2, I ρ2 → ∃ y ρ', stepC tg (evTs c cs) (ev c e) own ρ1 x ρ2 = some (some y, ρ') ∧ R x y ∧ I ρ') : ∃ ys ρ', ev c (.comp e tg it cs own) ρ = some (.list ys, ρ') ∧ Al R xs ys ∧ I ρ' := by
  obtain ⟨ys, ρ', e1, a, i⟩ := cmpI_rel I R hs i0
  refine ⟨ys, ρ', ?_, a, i⟩
  rw [ev_comp]
  simp only [h0, if_true, hI, bnd_some, h1, hl, and_self, if_pos]
  rw [e1]
  rfl
/-- ex of a loop from its parts -/
theorem ex_for {c : Cfg} {tg : Tg} {it : It'} {b : List Sm} {ρ ρ1 : En} {xs : List PyData} {r : Option (Fl × En)} (hI : evI c it ρ = some (xs, ρ1)) (h : forI (fun x ρ => match bindT tg x ρ with
      | none => none
      | some ρ => exs c b ρ) xs ρ1 = r) : ex c (.for_ tg it b) ρ = r := by
  unfold ex
  rw [hI, bnd_some]
  exact h
/-! ### steps -/
section
variable {c : Cfg} {a b d : Ep} {ρ ρ1 ρ2 ρ3 : En} {x y z w : PyData} {f : Str} {ss : List Sm} {i : Nat}
theorem ev_call1 (h : ev c a ρ = some (x, ρ1)) (hc : c.call f none [x] = some (y, none)) : ev c (.call f [a]) ρ = some (y, ρ1) := by
  unfold ev evs
  rw [h, bnd_some]
  simp only [evs, bnd_some, hc]
theorem ev_call2 (h : ev c a ρ = some (x, ρ1)) (h2 : ev c b ρ1 = some (y, ρ2)) (hc : c.call f none [x, y] = some (z, none)) : ev c (.call f [a, b]) ρ = some (z, ρ2) := by
  unfold ev evs
  rw [h, bnd_some]
  unfold evs
  rw [h2]
  simp only [evs, bnd_some, hc]
theorem ev_call3 (h : ev c a ρ = some (x, ρ1)) (h2 : ev c b ρ1 = some (y, ρ2)) (h3 : ev c d ρ2 = some (z, ρ3)) (hc : c.call f none [x, y, z] = some (w, none)) : ev c (.call f [a, b, d]) ρ = some (w, ρ3) := by
  unfold ev evs
  rw [h, bnd_some]
  unfold evs
  rw [h2, bnd_some]
  unfold evs
  rw [h3]
  simp only [evs, bnd_some, hc]
theorem ev_andT (h : ev c a ρ = some (.bool true, ρ1)) : ev c (.and a b) ρ = ev c b ρ1 := by
  show bnd (ev c a ρ) _ = _
  rw [h]
  rfl
theorem ev_andF (h : ev c a ρ = some (.bool false, ρ1)) : ev c (.and a b) ρ = some (.bool false, ρ1) := by
  show bnd (ev c a ρ) _ = _
  rw [h]
  rfl
theorem ev_orT (h : ev c a ρ = some (.bool true, ρ1)) : ev c (.or a b) ρ = some (.bool true, ρ1) := by
  show bnd (ev c a ρ) _ = _
  rw [h]
  rfl
theorem ev_orF (h : ev c a ρ = some (.bool false, ρ1)) : ev c (.or a b) ρ = ev c b ρ1 := by
  show bnd (ev c a ρ) _ = _
  rw [h]
  rfl
theorem ev_b1 {o : B1} (h : ev c a ρ = some (x, ρ1)) (hb : b1D o x = some y) : ev c (.b1 o a) ρ = some (y, ρ1) := by
  unfold ev
  rw [h, bnd_some, hb]
  rfl
theorem ev_bin {o : BOp} (h : ev c a ρ = some (x, ρ1)) (h2 : ev c b ρ1 = some (y, ρ2)) (hb : binD o x y = some z) : ev c (.bin o a b) ρ = some (z, ρ2) := by
  unfold ev
  rw [h, bnd_some, h2, bnd_some, hb]
  rfl
theorem ev_cmp {o : COp} {r : Bool} (h : ev c a ρ = some (x, ρ1)) (h2 : ev c b ρ1 = some (y, ρ2)) (hb : cmpD o x y = some r) : ev c (.cmp o a b) ρ = some (.bool r, ρ2) := by
  unfold ev
  rw [h, bnd_some, h2, bnd_some, hb]
  rfl
theorem ev_ix (h : ev c a ρ = some (x, ρ1)) (h2 : ev c b ρ1 = some (y, ρ2)) (hb : ixD x y = some z) : ev c (.ix a b) ρ = some (z, ρ2) := by
  unfold ev
  rw [h, bnd_some, h2, bnd_some, hb]
  rfl
theorem ev_lst1 (h : ev c a ρ = some (x, ρ1)) : ev c (.lst [a]) ρ = some (.list [x], ρ1) := by
  simp [ev, evs, h, bnd, sizeLine]
theorem ev_lst2 (h : ev c a ρ = some (x, ρ1)) (h2 : ev c b ρ1 = some (y, ρ2)) : ev c (.lst [a, b]) ρ = some (.list [x, y], ρ2) := by
  simp [ev, evs, h, h2, bnd, sizeLine]
theorem ev_lst3 (h : ev c a ρ = some (x, ρ1)) (h2 : ev c b ρ1 = some (y, ρ2)) (h3 : ev c d ρ2 = some (z, ρ3)) : ev c (.lst [a, b, d]) ρ = some (.list [x, y, z], ρ3) := by
  simp [ev, evs, h, h2, h3, bnd, sizeLine]
theorem ev_b2 {o : B2} (h : ev c a ρ = some (x, ρ1)) (h2 : ev c b ρ1 = some (y, ρ2)) (hb : b2D o x y = some z) : ev c (.b2 o a b) ρ = some (z, ρ2) := by
  unfold ev
  rw [h, bnd_some, h2, bnd_some, hb]
  rfl
theorem ev_tup2 (h : ev c a ρ = some (x, ρ1)) (h2 : ev c b ρ1 = some (y, ρ2)) : ev c (.tup [a, b]) ρ = some (.tuple [x, y], ρ2) := by
  simp [ev, evs, h, h2, bnd, sizeLine]
theorem ev_tup3 (h : ev c a ρ = some (x, ρ1)) (h2 : ev c b ρ1 = some (y, ρ2)) (h3 : ev c d ρ2 = some (z, ρ3)) : ev c (.tup [a, b, d]) ρ = some (.tuple [x, y, z], ρ3) := by
  simp [ev, evs, h, h2, h3, bnd, sizeLine]
theorem exs_ret (h : ev c a ρ = some (x, ρ1)) : exs c (.ret a :: ss) ρ = some (.ret x, ρ1) := by
  unfold exs ex
  rw [h]
  rfl
theorem ex_set (h : ev c a ρ = some (x, ρ1)) (hi : i < ρ1.length) : ex c (.set i a) ρ = some (.next, ρ1.set i (some (.d x))) := by
  unfold ex
  rw [h, bnd_some, if_pos hi]
theorem ex_seto {xs : List PyData} (h : ev c a ρ = some (.list xs, ρ1)) (hi : i < ρ1.length) : ex c (.seto i a) ρ = some (.next, ρ1.set i (some (.own false xs))) := by
  unfold ex
  rw [h, bnd_some]
  simp only [if_pos hi]
theorem ex_expr (h : ev c a ρ = some (x, ρ1)) : ex c (.expr a) ρ = some (.next, ρ1) := by
  unfold ex
  rw [h]
  rfl
end
/-! ### what repr bears -/
structure Ok (d : PyData) (n w : Nat) : Prop where
  small : small d = true
  depth : d.depth ≤ n
  wt : wt d ≤ w
  mix : d.hasDict = false ∨ noL d = true
theorem Ok.repr {d : PyData} {n w : Nat} (h : Ok d n w) (hn : n ≤ 60) (hw : w ≤ sizeLine) : reprOk d = true := by
  unfold reprOk
  have h1 := h.depth
  have h2 := h.wt
  simp only [h.small, Bool.true_and, Bool.and_eq_true, decide_eq_true_eq]
  refine ⟨⟨by omega, by omega⟩, ?_⟩
  rcases h.mix with h | h <;> simp [h]
theorem Ok.mono {d : PyData} {n m w v : Nat} (h : Ok d n w) (hn : n ≤ m) (hw : w ≤ v) : Ok d m v := ⟨h.small, Nat.le_trans h.depth hn, Nat.le_trans h.wt hw, h.mix⟩
theorem ok_int {i : Int} (h : szI i 1900) : Ok (.int i) 0 2000 := ⟨by simpa [Wh.small, szI] using h, by simp [PyData.depth], by simp [Wh.wt], .inl (by simp [PyData.hasDict])⟩
theorem ok_bool (b : Bool) : Ok (.bool b) 0 5 := ⟨by simp [Wh.small], by simp [PyData.depth], by simp [Wh.wt], .inl (by simp [PyData.hasDict])⟩
theorem ok_none : Ok .none 0 4 := ⟨by simp [Wh.small], by simp [PyData.depth], by simp [Wh.wt], .inl (by simp [PyData.hasDict])⟩
/-- parts without dicts -/
structure OkA (xs : List PyData) (n w : Nat) : Prop where
  small : smallA xs = true
  depth : PyData.depthAll xs ≤ n
  wt : wtA xs ≤ w
  mix : PyData.hasDictAll xs = false
theorem okA_nil {n w : Nat} : OkA [] n w := ⟨by simp [smallA], by simp [PyData.depthAll], by simp [wtA], by simp [PyData.hasDictAll]⟩
theorem okA_cons {x : PyData} {xs : List PyData} {n w v : Nat} (h : Ok x n w) (hd : x.hasDict = false) (t : OkA xs n v) : OkA (x :: xs) n (w + 2 + v) := by
  have h1 := h.depth
  have h2 := h.wt
  have h3 := t.depth
  have h4 := t.wt
  exact ⟨by simp [smallA, h.small, t.small], by simp only [PyData.depthAll]; omega, by simp only [wtA]; omega, by simp [PyData.hasDictAll, hd, t.mix]⟩
theorem okA_all {n w : Nat} : ∀ {xs : List PyData}, (∀ x ∈ xs, Ok x n w ∧ x.hasDict = false) → OkA xs n (xs.length * (w + 2))
  | [], _ => okA_nil
  | x :: xs, h => by
    have := okA_cons (h x (.head _)).1 (h x (.head _)).2 (okA_all fun y hy => h y (.tail _ hy))
    rw [List.length_cons, Nat.succ_mul, Nat.add_comm]
    exact this
theorem ok_tup {xs : List PyData} {n w : Nat} (h : OkA xs n w) : Ok (.tuple xs) (n + 1) (3 + w) ∧ (PyData.tuple xs).hasDict = false := by
  have h1 := h.depth
  have h2 := h.wt
  exact ⟨⟨by simp [Wh.small, h.small], by simp only [PyData.depth]; omega, by simp only [Wh.wt]; omega, .inl (by simp [PyData.hasDict, h.mix])⟩, by simp [PyData.hasDict, h.mix]⟩
theorem ok_lst {xs : List PyData} {n w : Nat} (h : OkA xs n w) : Ok (.list xs) (n + 1) (3 + w) ∧ (PyData.list xs).hasDict = false := by
  have h1 := h.depth
  have h2 := h.wt
  exact ⟨⟨by simp [Wh.small, h.small], by simp only [PyData.depth]; omega, by simp only [Wh.wt]; omega, .inl (by simp [PyData.hasDict, h.mix])⟩, by simp [PyData.hasDict, h.mix]⟩
theorem ok_frq {q : Rat} (h : szQ q 1900) : Ok (frq q) 1 4007 ∧ (frq q).hasDict = false := ok_tup (okA_cons (n := 0) (ok_int h.1) (by simp [PyData.hasDict]) (okA_cons (v := 0) (ok_int h.2) (by simp [PyData.hasDict]) okA_nil))
/-! ### cuts -/
theorem cut_1 (x : PyData) (r : List PyData) : cutD (x :: r) (some 1) none = r := by
  have : cutD (x :: r) (some ((1 : Nat) : Int)) none = (x :: r).drop 1 := by
    simp only [cutD, HT.sIx_nat, HT.sIx_none, List.length_cons]
    rw [Nat.min_eq_left (by omega), List.take_of_length_le (by simp)]
  exact this
theorem cut_10 : cutD [] (some 1) none = [] := by
  unfold cutD
  simp
theorem cut_neg (xs : List PyData) : cutD xs none (some (-1)) = xs.dropLast := by
  unfold cutD
  rw [HT.sIx_none, List.drop_zero, Nat.sub_zero]
  have : HT.sIx xs.length xs.length (some (-1)) = xs.length - 1 := by
    unfold HT.sIx
    simp
    omega
  rw [this, List.dropLast_eq_take]
theorem run_pen {c : Cfg} {f : Fn} {p q : List PyData} {xs : List PyData} {v : PyData} {ρ : En} (hc : ((some p).isSome == f.pen && !(f.pen && f.fr) && (xs.length + (if f.pen then 1 else 0) == f.np) && decide (f.np ≤ f.ns)) = true) (hp : f.pen = true) (h : exs c f.body (startE f (some p) xs) = some (.ret v, ρ)) (hq : penOf ρ = some q) : runF c f (some p) xs = some (v, some q) := by
  unfold runF
  rw [if_pos hc, h]
  simp [endF, hp, hq]
theorem run_lst {c : Cfg} {f : Fn} {xs ys : List PyData} {ρ : En} (hc : ((none : Option (List PyData)).isSome == f.pen && !(f.pen && f.fr) && (xs.length + (if f.pen then 1 else 0) == f.np) && decide (f.np ≤ f.ns)) = true) (hp : f.pen = false) (h : exs c f.body (startE f none xs) = some (.ret (.list ys), ρ)) : runF c f none xs = some (.list ys, none) := by
  unfold runF
  rw [if_pos hc, h]
  cases hf : f.fr <;> simp [endF, hp, hf]
end Wh

set_option Elab.async false
set_option linter.all false
set_option maxRecDepth 100000
set_option maxHeartbeats 2000000
set_option exponentiation.threshold 20000
/-! Wh21: lists of things with kinds. -/
namespace Wh
open PySem PySem.Spec PyProof.Rows L2 Evl
inductive Rw {α β : Type} (R : α → β → Prop) : List α → List β → Prop
  | nil : Rw R [] []
  | cons {x : α} {y : β} {xs : List α} {ys : List β} : R x y → Rw R xs ys → Rw R (x :: xs) (y :: ys)
theorem Rw.len {α β : Type} {R : α → β → Prop} : ∀ {xs : List α} {ys : List β}, Rw R xs ys → ys.length = xs.length
  | _, _, .nil => rfl
  | _, _, .cons _ t => by simp [Rw.len t]
theorem Rw.mono {α β : Type} {R S : α → β → Prop} (h : ∀ x y, R x y → S x y) : ∀ {xs : List α} {ys : List β}, Rw R xs ys → Rw S xs ys
  | _, _, .nil => .nil
  | _, _, .cons r t => .cons (h _ _ r) (t.mono h)
theorem Rw.zip {α β : Type} {R : α → β → Prop} : ∀ {xs : List α} {ys : List β}, Rw R xs ys → ∀ q ∈ xs.zip ys, R q.1 q.2
  | _, _, .nil, _, h => nomatch h
  | _, _, .cons r t, q, h => by
    rw [List.zip_cons_cons] at h
    cases h with
    | head => exact r
    | tail _ h => exact t.zip q h
theorem Rw.right {α β : Type} {R : α → β → Prop} : ∀ {xs : List α} {ys : List β}, Rw R xs ys → ∀ y ∈ ys, ∃ x ∈ xs, R x y
  | _, _, .nil, _, h => nomatch h
  | _, _, .cons r t, y, h => by
    cases h with
    | head => exact ⟨_, .head _, r⟩
    | tail _ h => obtain ⟨x, hx, hr⟩ := t.right y h; exact ⟨x, .tail _ hx, hr⟩
theorem typed {α : Type} {d : α → PyData} {Q : α → Prop} : ∀ {ys : List PyData}, (∀ y ∈ ys, ∃ a, Q a ∧ y = d a) → ∃ as : List α, ys = as.map d ∧ ∀ a ∈ as, Q a
  | [], _ => ⟨[], rfl, fun _ h => nomatch h⟩
  | y :: ys, h => by
    obtain ⟨a, q, rfl⟩ := h y (.head _)
    obtain ⟨as, rfl, p⟩ := typed (ys := ys) fun z hz => h z (.tail _ hz)
    refine ⟨a :: as, rfl, fun b hb => ?_⟩
    cases hb with
    | head => exact q
    | tail _ hb => exact p b hb
theorem cmpI_typ {α β : Type} {d : α → PyData} {e : β → PyData} {step : PyData → En → Option (Option PyData × En)} (I : En → Prop) (R : α → Option β → Prop) : ∀ {as : List α} {ρ : En}, (∀ a ∈ as, ∀ ρ, I ρ → ∃ o ρ', step (d a) ρ = some (o.map e, ρ') ∧ R a o ∧ I ρ') → I ρ → ∃ os ρ', cmpI step (as.map d) ρ = some ((os.filterMap id).map e, ρ') ∧ Rw R as os ∧ I ρ'
  | [], ρ, _, h => ⟨[], ρ, rfl, .nil, h⟩
  | a :: as, ρ, hs, h => by
    obtain ⟨o, ρ1, e1, p1, i1⟩ := hs a (.head _) ρ h
    obtain ⟨os, ρ2, e2, a2, i2⟩ := cmpI_typ I R (fun z hz => hs z (.tail _ hz)) i1
    refine ⟨o :: os, ρ2, ?_, .cons p1 a2, i2⟩
    rw [List.map_cons]
    unfold cmpI
    rw [e1]
    cases o with
    | none => simpa using e2
    | some b => simp [e2]
theorem ev_compT {α β : Type} {d : α → PyData} {eb : β → PyData} {c : Cfg} {e : Ep} {tg : Tg} {it : It'} {cs : List Tp} {own : List Nat} {ρ ρ1 : En} {as : List α} (I : En → Prop) (R : α → Option β → Prop) (h0 : own.all (notOwn ρ) = true) (hI : evI c it ρ = some (as.map d, ρ1)) (h1 : own.all (notOwn ρ1) = true) (hl : as.length ≤ 100000) (i0 : I ρ1)
    (hs : ∀ a ∈ as, ∀ ρ2, I ρ2 → ∃ o ρ', stepC tg (evTs c cs) (ev c e) own ρ1 (d a) ρ2 = some (o.map eb, ρ') ∧ R a o ∧ I ρ') : ∃ os ρ', ev c (.comp e tg it cs own) ρ = some (.list ((os.filterMap id).map eb), ρ') ∧ Rw R as os ∧ I ρ' := by
  obtain ⟨ys, ρ', e1, a, i⟩ := cmpI_typ I R hs i0
  refine ⟨ys, ρ', ?_, a, i⟩
  rw [ev_comp]
  simp only [h0, if_true, hI, bnd_some, h1, List.length_map, hl, and_self, if_pos]
  rw [e1]
  rfl
/-- one that changes nothing -/
theorem ev_compP {α : Type} {d : α → PyData} {c : Cfg} {e : Ep} {tg : Tg} {it : It'} {cs : List Tp} {own : List Nat} {ρ ρ1 : En} {as : List α} (g : α → Option PyData) (h0 : own.all (notOwn ρ) = true) (hI : evI c it ρ = some (as.map d, ρ1)) (h1 : own.all (notOwn ρ1) = true) (hl : as.length ≤ 100000)
    (hs : ∀ a ∈ as, stepC tg (evTs c cs) (ev c e) own ρ1 (d a) ρ1 = some (g a, ρ1)) : ev c (.comp e tg it cs own) ρ = some (.list (as.filterMap g), ρ1) := by
  obtain ⟨os, ρ', e1, r, rfl⟩ := ev_compT (β := PyData) (eb := id) (d := d) (fun ρ => ρ = ρ1) (fun a o => o = g a) h0 hI h1 hl rfl (fun a ha ρ2 hρ => by
    subst hρ
    refine ⟨g a, ρ2, ?_, rfl, rfl⟩
    rw [hs a ha]
    cases g a <;> rfl)
  rw [e1]
  have : os = as.map g := by
    clear e1 hs hI hl
    induction r with
    | nil => rfl
    | cons h _ ih => rw [h, ih]; rfl
  rw [this, List.filterMap_map]
  simp
theorem ev_compM {α : Type} {d : α → PyData} {c : Cfg} {e : Ep} {tg : Tg} {it : It'} {cs : List Tp} {own : List Nat} {ρ ρ1 : En} {as : List α} (g : α → PyData) (h0 : own.all (notOwn ρ) = true) (hI : evI c it ρ = some (as.map d, ρ1)) (h1 : own.all (notOwn ρ1) = true) (hl : as.length ≤ 100000)
    (hs : ∀ a ∈ as, stepC tg (evTs c cs) (ev c e) own ρ1 (d a) ρ1 = some (some (g a), ρ1)) : ev c (.comp e tg it cs own) ρ = some (.list (as.map g), ρ1) := by
  rw [ev_compP (fun a => some (g a)) h0 hI h1 hl hs]
  simp
theorem ev_allM {α : Type} {d : α → PyData} {c : Cfg} {e : Ep} {tg : Tg} {it : It'} {cs : List Tp} {own : List Nat} {ρ ρ1 : En} {as : List α} (g : α → Bool) (h0 : own.all (notOwn ρ) = true) (hI : evI c it ρ = some (as.map d, ρ1)) (h1 : own.all (notOwn ρ1) = true) (hl : as.length ≤ 100000)
    (hs : ∀ a ∈ as, stepC tg (evTs c cs) (ev c e) own ρ1 (d a) ρ1 = some (some (.bool (g a)), ρ1)) : ev c (.b1 .all (.comp e tg it cs own)) ρ = some (.bool (as.all g), ρ1) := by
  refine ev_b1 (ev_compM (fun a => .bool (g a)) h0 hI h1 hl hs) ?_
  have : ∀ as : List α, bools (as.map fun a => PyData.bool (g a)) = some (as.map g) := fun as => by
    induction as with
    | nil => rfl
    | cons a as ih => simp only [List.map_cons, bools, ih, Option.map_some]
  simp [b1D, this, List.all_map, Function.comp_def]
theorem forI_foldT {α β : Type} {d : α → PyData} {step : PyData → En → Option (Fl × En)} (E : β → En → Prop) (f : β → α → β) : ∀ {as : List α} {b : β} {ρ : En}, (∀ a ∈ as, ∀ b ρ, E b ρ → ∃ ρ', step (d a) ρ = some (.next, ρ') ∧ E (f b a) ρ') → E b ρ → ∃ ρ', forI step (as.map d) ρ = some (.next, ρ') ∧ E (as.foldl f b) ρ'
  | [], b, ρ, _, h => ⟨ρ, rfl, h⟩
  | a :: as, b, ρ, hs, h => by
    obtain ⟨ρ1, e1, h1⟩ := hs a (.head _) b ρ h
    obtain ⟨ρ2, e2, h2⟩ := forI_foldT E f (fun y hy => hs y (.tail _ hy)) h1
    exact ⟨ρ2, forI_cons e1 e2, h2⟩
theorem enum_map {α : Type} (d : α → PyData) : ∀ (n : Nat) (as : List α), enumD n (as.map d) = (as.zipIdx n).map fun q => .tuple [.int q.2, d q.1]
  | _, [] => rfl
  | n, a :: as => by simp [enumD, enum_map d (n + 1) as]
theorem zip_map {α β : Type} (d : α → PyData) (e : β → PyData) : ∀ (as : List α) (bs : List β), zipD (as.map d) (bs.map e) = (as.zip bs).map fun q => .tuple [d q.1, e q.2]
  | [], _ => by simp [zipD]
  | _ :: _, [] => by simp [zipD]
  | a :: as, b :: bs => by simp [zipD, zip_map d e as bs]
theorem rng_map (n : Nat) : rngD 0 (n : Int) = (List.range n).map fun (j : Nat) => .int (j : Int) := by
  unfold rngD
  rw [Int.sub_zero, Int.toNat_natCast]
  exact List.map_congr_left fun a _ => by rw [Int.zero_add]
theorem cut_2 (x y : PyData) (r : List PyData) : cutD (x :: y :: r) (some 2) none = r := by
  have : cutD (x :: y :: r) (some ((2 : Nat) : Int)) none = (x :: y :: r).drop 2 := by
    simp only [cutD, HT.sIx_nat, HT.sIx_none, List.length_cons]
    rw [Nat.min_eq_left (by omega), List.take_of_length_le (by simp)]
  exact this
theorem evI_rng {c : Cfg} {a : Ep} {ρ ρ1 : En} {n : Nat} (h : ev c a ρ = some (.int n, ρ1)) (hn : n ≤ 100000) : evI c (.rng1 a) ρ = some ((List.range n).map fun (j : Nat) => .int (j : Int), ρ1) := by
  have e : smallI (n : Int) = true := by simp [smallI]; omega
  unfold evI
  rw [h, bnd_some]
  simp only [e, if_true]
  rw [rng_map]
theorem evI_seqT {c : Cfg} {a : Ep} {ρ ρ1 : En} {xs : List PyData} (h : ev c a ρ = some (.tuple xs, ρ1)) : evI c (.seq a) ρ = some (xs, ρ1) := by
  unfold evI
  rw [h, bnd_some]
  rfl
theorem evI_seqL {c : Cfg} {a : Ep} {ρ ρ1 : En} {xs : List PyData} (h : ev c a ρ = some (.list xs, ρ1)) : evI c (.seq a) ρ = some (xs, ρ1) := by
  unfold evI
  rw [h, bnd_some]
  rfl
theorem evI_enumT {α : Type} {d : α → PyData} {as : List α} {c : Cfg} {a : Ep} {ρ ρ1 : En} (h : ev c a ρ = some (.tuple (as.map d), ρ1)) : evI c (.enum a) ρ = some (as.zipIdx.map fun q => .tuple [.int q.2, d q.1], ρ1) := by
  unfold evI
  rw [h, bnd_some]
  simp only [seqD, ret, bnd_some]
  rw [enum_map]
theorem evI_enumL {α : Type} {d : α → PyData} {as : List α} {c : Cfg} {a : Ep} {ρ ρ1 : En} (h : ev c a ρ = some (.list (as.map d), ρ1)) : evI c (.enum a) ρ = some (as.zipIdx.map fun q => .tuple [.int q.2, d q.1], ρ1) := by
  unfold evI
  rw [h, bnd_some]
  simp only [seqD, ret, bnd_some]
  rw [enum_map]
theorem evI_zip {α β : Type} {d : α → PyData} {e : β → PyData} {as : List α} {bs : List β} {c : Cfg} {a b : Ep} {x y : PyData} {ρ ρ1 ρ2 : En} (h : ev c a ρ = some (x, ρ1)) (h2 : ev c b ρ1 = some (y, ρ2)) (hz : zipK x y = some (zipD (as.map d) (bs.map e))) : evI c (.zip a b) ρ = some ((as.zip bs).map fun q => .tuple [d q.1, e q.2], ρ2) := by
  unfold evI
  rw [h, bnd_some, h2, bnd_some, hz]
  simp only [ret]
  rw [zip_map]
theorem zip_sw {α β : Type} {a : α} {b : β} : ∀ {xs : List α} {ys : List β}, (a, b) ∈ xs.zip ys → (b, a) ∈ ys.zip xs
  | [], _, h => by simp at h
  | _ :: _, [], h => by simp at h
  | x :: xs, y :: ys, h => by
    rw [List.zip_cons_cons] at h ⊢
    cases h with
    | head => exact .head _
    | tail _ h => exact .tail _ (zip_sw h)
theorem fm_congr {α β : Type} {f g : α → Option β} : ∀ {xs : List α}, (∀ x ∈ xs, f x = g x) → xs.filterMap f = xs.filterMap g
  | [], _ => rfl
  | x :: xs, h => by rw [List.filterMap_cons, List.filterMap_cons, h x (.head _), fm_congr fun y hy => h y (.tail _ hy)]
theorem pw_len {n : Nat} : ∀ {l : List Nat} {m : Nat}, l.Pairwise (· < ·) → (∀ i ∈ l, m ≤ i ∧ i < n) → l.length ≤ n - m
  | [], _, _, _ => Nat.zero_le _
  | a :: l, m, h, hn => by
    have h1 := hn a (.head _)
    have h2 := List.pairwise_cons.mp h
    have h3 := pw_len (m := a + 1) h2.2 fun i hi => ⟨h2.1 i hi, (hn i (.tail _ hi)).2⟩
    rw [List.length_cons]
    omega
theorem pair_len {l : List Nat} {n : Nat} (h : l.Pairwise (· < ·)) (hn : ∀ i ∈ l, i < n) : l.length ≤ n := pw_len (m := 0) h fun i hi => ⟨Nat.zero_le _, hn i hi⟩
end Wh

set_option Elab.async false
set_option linter.all false
set_option maxRecDepth 100000
set_option maxHeartbeats 1000000
set_option exponentiation.threshold 5000
/-! Wh22: defs that say what a lambda tells or which class it raises. -/
namespace Wh
open PySem PySem.Spec PyProof.Rows L2 Evl L2H
theorem Wl.to {T : List (Addr × Str)} {a b : Addr} {F H : Hp} (w : @Wl ⟨T, a⟩ F H) : @Wl ⟨T, b⟩ F H := @Wl.mk ⟨T, b⟩ F H (@Wl.ex ⟨T, a⟩ F H w) (@Wl.tab ⟨T, a⟩ F H w) (@Wl.nt ⟨T, a⟩ F H w)
theorem rep_wl {T : List (Addr × Str)} {a b : Addr} {K : PySem.W.Frag} {ρ : En} {σ : L2.St} {F H : Hp} (r : @Rep ⟨T, a⟩ K ρ σ F H) : @Wl ⟨T, b⟩ F H := Wl.to (@Rep.wl ⟨T, a⟩ K ρ σ F H r)
theorem rep_xc {T : List (Addr × Str)} {a : Addr} {K : PySem.W.Frag} {ρ : En} {σ : L2.St} {F H : Hp} (r : @Rep ⟨T, a⟩ K ρ σ F H) (i : Nat) (h : ρ[i]? = some (some Sv.x)) : σ[i]? = some (some (V.ref a)) := @Rep.xc ⟨T, a⟩ K ρ σ F H r i h
theorem rep_call {T : List (Addr × Str)} {a b : Addr} {K : PySem.W.Frag} {ρ : En} {σ : L2.St} {F H F' H' : Hp} (r : @Rep ⟨T, a⟩ K ρ σ F H) (e : Ex F F') (wl : @Wl ⟨T, b⟩ F' H') (nw : NewIn F H F') (fr : ∀ a o, H a = some o → noT o → H' a = some o) : @Rep ⟨T, a⟩ K ρ σ F' H' := @Rep.call ⟨T, a⟩ K ρ σ F H F' H' r e (Wl.to wl) nw fr
/-- nothing is called -/
def c0 : Cfg := ⟨fun _ _ _ => none, fun _ => none, 0, fun _ _ => none⟩
/-- what a body knows that looks at the exception alone -/
def tcX (N : List Str) (sc : Scope) (ow : List Nat) (ec : Str → List Str → Option (Nat × PyData)) : Tc := ⟨N, sc, sc, ow, fun _ => false, fun _ => false, fun _ => [], false, ec, fun _ => none, []⟩
/-- the answers about an exception of the class C, in the context X, are right -/
def EcOk [Tbl] (X : Cx) (ec : Str → List Str → Option (Nat × PyData)) : Prop := ∀ f ns i d, ec f ns = some (i, d) → ∀ (args : List Expr) (p pos : Pos), namesOf args = some ns → PE X (.Call (.Name f p) args [] pos) (tE X.K fun ρ => match ρ[i]? with
    | some (some .x) => some (d, ρ)
    | _ => none)
section
variable [Tbl] {X : Cx}
theorem ct_x {N : List Str} {sc : Scope} {ow : List Nat} {ec : Str → List Str → Option (Nat × PyData)} (hN : X.N = N) (hsc : X.env.scope = sc) (nd : N.Nodup) (kind : sc.kind = .function) (gd : X.A.guards = some []) (un : X.A.units + 64 < cLine) (xe : X.xe = fun _ _ => False) (hB : ∀ b ∈ bltNames, X.mg (Str.ofString b) = none) (fn : ∀ x, sc.names.lookup x = some .cell → X.fn x = true) (hec : EcOk X ec) : Ct X c0 0 (tcX N sc ow ec) where
  hN := hN
  hsc := hsc
  nd := nd
  kind := kind
  calm := fun h => nomatch h
  gd := gd
  room := fun h => nomatch h
  un := un
  xe := xe
  call := fun _ _ _ _ h => nomatch h
  callL := fun _ _ _ _ h => nomatch h
  callK := fun _ _ _ _ h => nomatch h
  glob := fun _ _ h => nomatch h
  blt := hB
  fn := fn
  exc := fun _ _ _ h => nomatch h
  said := fun _ _ h => nomatch h
  ec := hec
/-- isinstance(e, c), e pinned -/
theorem call_isP {a D : Addr} {oe : Obj} (hp : (a, oe) ∈ X.pn) (C : ExcC X.K D) (hz : Zc (.ref D) none oe) (hf : ∃ vs, oe.data = .fields vs) : CallR X (.builtin "isinstance") (rIsE X.K D a) := by
  intro pins s σ H xs us Q I r h
  obtain ⟨c, cv, b, rfl, hcv, e, q⟩ := h
  cases r with
  | cons rx rr =>
    cases rr with
    | cons rt rr =>
      cases rr
      cases rx
      have ec := hcv _ rt
      subst ec
      obtain ⟨hget, _⟩ := I.pin (a, oe) (List.mem_append.mpr (.inl hp))
      obtain ⟨vs, hv⟩ := hf
      have J : PySem.W.InstAt s.heap a oe D none := by
        obtain ⟨oc, od, oda, osl⟩ := oe
        obtain ⟨h1, h2⟩ := hz
        dsimp only at h1 h2 hv
        subst h1 h2 hv
        exact ⟨hget, rfl, rfl, trivial⟩
      exact PySem.W.kia_one (PySem.W.handS_kitx_exc C.hg C.hk C.hs C.hd C.ha C.hn C.ht C.hm) I.kIn J e (fun z => nomatch z) fun tk => ⟨.bl b, H, I.kept (t' := tk) fun _ _ z => z, rfl, q⟩
/-- a name that holds a class -/
def ClsV (X : Cx) (x : Str) (cv : Value) : Prop := Gl X x ∧ (x == ("__debug__" : Str)) = false ∧ ((∃ C, cv = .ref C ∧ X.mg x = some cv) ∨ (∃ t : String, cv = .type t ∧ X.mg x = none ∧ bootBuiltins x = some cv ∧ x ≠ "__name__"))
theorem pe_cls {x : Str} {cv : Value} {pos : Pos} (h : ClsV X x cv) : ∃ v : V, PE X (.Name x pos) (tC v) ∧ ∀ u, RelV v u → u = cv := by
  obtain ⟨h1, h2, ⟨C, rfl, h3⟩ | ⟨t, rfl, h3, h4, h5⟩⟩ := h
  · exact ⟨.ref C, pe_glob h1 h3 rfl h2, fun u r => r⟩
  · exact ⟨.ty t, pe_bltn h1 h3 h4 rfl h5 h2, fun u r => r⟩
theorem ec_isP {y x : Str} {cv : Value} {i : Nat} {D : Addr} {oe : Obj} {b : Bool} {p p1 p2 pos : Pos} (hp : (Tbl.xa, oe) ∈ X.pn) (C : ExcC X.K D) (hz : Zc (.ref D) none oe) (hf : ∃ vs, oe.data = .fields vs) (hg : Gl X "isinstance") (hm : X.mg "isinstance" = none)
    (hN : X.N[i]? = some y) (hv : Vis X.env.scope y) (hd : (y == ("__debug__" : Str)) = false) (hcd : (y == ("__classdict__" : Str)) = false) (hc : ClsV X x cv) (hk : PySem.W.kitOne X.K (.ref D) cv = some b) :
    PE X (.Call (.Name "isinstance" p) [.Name y p1, .Name x p2] [] pos) (tE X.K fun ρ => match ρ[i]? with
    | some (some .x) => some (.bool b, ρ)
    | _ => none) := by
  obtain ⟨v, hT, hu⟩ := pe_cls (pos := p2) hc
  refine (pe_callB (id := "isinstance") (call_isP hp C hz hf) hg hm (by decide +kernel) (pa_cons (pe_var (pos := p1) hN hv hd hcd) (pa_cons hT pa_nil rfl) rfl) (by decide +kernel) (by decide +kernel) rfl rfl).wk fun σ H Q h => ?_
  obtain ⟨ρ, F, z, ρ', rep, e, q⟩ := h
  simp only at e
  split at e
  · rename_i hx
    cases e
    exact ⟨.ref Tbl.xa, rep.xc i hx, v, cv, b, rfl, hu, hk, q _ F H rep StpE.refl (.bl b)⟩
  · cases e
end
/-! ### defs that are called with the exception -/
/-- what such a def answers -/
structure FnS [Tbl] (P : Program) (w : World) (K : PySem.W.Frag) (mg : Str → Option Value) (base : Heap) (k : Nat) (f : Addr) (fd : FuncData) (ps : List Str) (C : Addr) (d : PyData) : Prop where
  run : ∀ (A : Around) (outer : List PySem.Env) (s : Shared) (H : Hp) (args : Args) (us : List Value) (Q : VK) (p : Addr × Obj), RoomH k A → A.guards = some [] → Zc (.ref C) none p.2 → (∃ vs, p.2.data = .fields vs) → PinOk outer H s p → Env0 P w K mg base A outer s H → BindsTo s fd args (ps.zip us) → Vals [.ref p.1] us →
    (∃ F, Wl F H ∧ ∀ v F' H', Ex F F' → Wl F' H' → NewIn F H F' → (∀ a o, H a = some o → noT o → H' a = some o) → (∀ a, H' a = none → H a = none) → Rp K F' v d → Q v H') → codeAny (model P w) A (.call (.ref f) args) (CR CX0 outer P w H s Q E0) s
/-- the slots at such a def's entry: the exception first -/
def rho0 (n : Nat) : En := some Sv.x :: List.replicate n none
theorem rep_x {T : List (Addr × Str)} {K : PySem.W.Frag} {N : List Str} {a : Addr} {F H : Hp} {b : Addr} (w : @Wl ⟨T, b⟩ F H) (hn : 1 ≤ N.length) : @Rep ⟨T, a⟩ K (rho0 (N.length - 1)) (L2.start N [.ref a]) F H ∧ ∀ c, ¬ Own (rho0 (N.length - 1)) (L2.start N [.ref a]) c := by
  have get : ∀ (i : Nat) (s : Sv), (rho0 (N.length - 1))[i]? = some (some s) → i = 0 ∧ s = .x := fun i s h => by
    unfold rho0 at h
    cases i with
    | zero =>
      simp only [List.getElem?_cons_zero, Option.some.injEq] at h
      exact ⟨rfl, h.symm⟩
    | succ i =>
      rw [List.getElem?_cons_succ, List.getElem?_replicate] at h
      split at h <;> cases h
  refine ⟨@Rep.mk ⟨T, a⟩ _ _ _ _ _ ?_ (Wl.to w) (fun i x h => ?_) (fun i b xs h => ?_) (fun i j b b' xs ys p h => ?_) (fun i h => ?_), fun c o => ?_⟩
  · letI : Tbl := ⟨T, a⟩
    simp [rho0, L2.start]
    try omega
  · cases (get i _ h).2
  · cases (get i _ h).2
  · cases (get i _ h).2
  · obtain ⟨rfl, _⟩ := get i _ h
    exact @start_get ⟨T, a⟩ N [.ref a] 0 (.ref a) rfl
  · obtain ⟨i, b, xs, h1, _⟩ := o
    cases (get i _ h1).2
theorem fnS_of [I0 : Tbl] {P : Program} {w : World} {K : PySem.W.Frag} {mg : Str → Option Value} {base : Heap} {k : Nat} {x : Str} {st : Stmt} {f : Addr} {fd : FuncData} {N ps : List Str} {C : Addr} {d : PyData} {ow : List Nat} {ec : Str → List Str → Option (Nat × PyData)} {b : List Sm} {ρ' : En} (F : Fun K x x st f fd) (S : FnScope N ps (defScope st)) (hps : ps.length = 1) (hn : 1 ≤ N.length)
    (hB : ∀ b ∈ bltNames, mg (Str.ofString b) = none) (tr : trBody (tcX N (defScope st) ow ec) false (defBody st) = some b) (run : exs c0 b (rho0 (N.length - 1)) = some (.ret d, ρ'))
    (hec : ∀ (A : Around) (outer : List PySem.Env) (s : Shared) (H : Hp) (p : Addr × Obj), RoomH k (A.deeper (envOfC x (defScope st) s.heap.objs.size f fd.code)) → A.guards = some [] → Zc (.ref C) none p.2 → (∃ vs, p.2.data = .fields vs) → @EcOk ⟨Tbl.T, p.1⟩ (cxH CX0 P w K mg base N x (defScope st) f fd.code A outer s H E0 p).nox ec) :
    FnS P w K mg base (k + 1) f fd ps C d := by
  obtain ⟨oc, od, kV, doc, pm, an, cd, ct, osl, rfl, lk, code⟩ := F.ex
  refine ⟨fun A outer s H args us Q p hr gd hz hf hpin e0 hb r hw => ?_⟩
  obtain ⟨F0, wl, q⟩ := hw
  have KX : K.In s.heap := e0.mod.kin.keeps fun b o e => (e0.bs b o e).1
  have lim : s.heap.NoLimit := e0.mod.nolimit.keeps fun b o e => (e0.bs b o e).1
  have hkind : ∀ y ∈ ps.zip us, (defScope st).names.lookup y.1 = some .local ∨ ((defScope st).names.lookup y.1 = some .cell ∧ ((cellsFrom (s.heap.objs.size + 1) (defScope st).names []).lookup y.1).isSome = true) := fun ⟨n, v⟩ hy => by
    rcases S.par n (List.of_mem_zip hy).1 with q | q
    · exact .inl q
    · exact .inr ⟨q, PySem.W.cellsFrom_some _ _ _ (.inl q)⟩
  refine codeAny_call_function hr.depth (KX _ _ lk) rfl S.co S.gen rfl (PySem.W.codeRec_of KX code) (hb _ _ _ _ (wpAny_newFunctionEnv_cells S.kind hkind fun env he s1 x1 => ?_))
  subst he
  refine ⟨lim.keeps x1.toInCall.keep, codeAny_func ?_⟩
  have hr' := hr.deeper (envOfC x (defScope st) s.heap.objs.size f cd)
  have I : Inv (cxH CX0 P w K mg base N x (defScope st) f cd A outer s H E0 p) [] (L2.start N [.ref p.1]) H s1 := inv_startH S hpin e0 (by rw [hps]; rfl) r x1
  have C1 : @Ct ⟨Tbl.T, p.1⟩ (cxH CX0 P w K mg base N x (defScope st) f cd A outer s H E0 p).nox c0 0 (tcX N (defScope st) ow ec) := @ct_x ⟨Tbl.T, p.1⟩ _ _ _ _ _ rfl rfl S.nd S.kind gd (by
    have := hr'.un
    show (A.deeper (envOfC x (defScope st) s.heap.objs.size f cd)).units + 64 < cLine
    omega) rfl hB (fun _ _ => rfl) (hec A outer s H p hr' gd hz hf)
  have B := (@body_ok ⟨Tbl.T, p.1⟩ _ _ _ _ _ C1 _ _ tr).nox
  obtain ⟨rep, no⟩ := rep_x (K := K) (a := p.1) wl hn
  refine wpAny_mono (B.run [] s1 (L2.start N [.ref p.1]) H { nx := fun _ H' => Q .non H', rt := Q } I ⟨rho0 (N.length - 1), F0, .ret d, ρ', rep, run, fun v σ' F' H' rep' st' rp => ?_⟩) (fun fl s' hs => ?_) fun e s' hs => hs
  · refine q v F' H' st'.ext (rep_wl rep') (fun a o ho => ?_) (fun a o ho nt => st'.fr a o ho (no a) nt) st'.alive rp
    rcases st'.new a o ho with z | z | z
    · exact .inl z
    · exact .inr z
    · exact absurd z (no a)
  · have fin : ∀ {σ' : L2.St} {H' : Hp} {v : V} {u : Value}, Inv (cxH CX0 P w K mg base N x (defScope st) f cd A outer s H E0 p) [] σ' H' s' → RelV v u → Q v H' → CE outer P w H s Q u s' :=
      fun {σ' H' v u} J rv q => ⟨v, H', J.os, J.bare, J.base, J.hok, rv, q⟩
    cases fl with
    | ret u =>
      obtain ⟨v, σ', H', J, rv, q⟩ := hs
      exact fin J rv q
    | next =>
      obtain ⟨σ', H', J, q⟩ := hs
      exact fin (v := V.non) (u := Value.none) J rfl q
    | brk =>
      obtain ⟨_, _, _, q⟩ := hs
      exact False.elim q
    | cont =>
      obtain ⟨_, _, _, q⟩ := hs
      exact False.elim q
/-- f(e), e pinned -/
theorem ec_call {T : List (Addr × Str)} {a0 xa : Addr} {X : Cx} {f y : Str} {fa : Addr} {fd : FuncData} {ps : List Str} {i k : Nat} {D : Addr} {oe : Obj} {d : PyData} {p p1 pos : Pos} (F : @FnS ⟨T, a0⟩ X.prog X.w X.K X.mg X.base k fa fd ps D d) (hr : RoomH k X.A) (gd : X.A.guards = some []) (hp : (xa, oe) ∈ X.pn) (hz : Zc (.ref D) none oe) (hf : ∃ vs, oe.data = .fields vs) (hg : Gl X f) (hdb : (f == ("__debug__" : Str)) = false) (hm : X.mg f = some (.ref fa)) (hk : PySem.W.keepIn X.K (.ref fa) = true) (hb : Binds X.K fd ps []) (hps : ps.length = 1)
    (hN : X.N[i]? = some y) (hv : Vis X.env.scope y) (hd : (y == ("__debug__" : Str)) = false) (hcd : (y == ("__classdict__" : Str)) = false) :
    PE X (.Call (.Name f p) [.Name y p1] [] pos) (@tE ⟨T, xa⟩ X.K fun ρ => match ρ[i]? with
    | some (some .x) => some (d, ρ)
    | _ => none) := by
  refine ⟨fun pins s σ H Q I h => ?_⟩
  obtain ⟨ρ, F0, z, ρ', rep, e, q⟩ := h
  simp only at e
  split at e
  · rename_i hx
    cases e
    have hx' := rep_xc rep i hx
    have ha : PA X [.Name y p1] (tCons (fun σ H Q => ∃ v, σ[i]? = some (some v) ∧ Q v H) tNil) := pa_cons (pe_var hN hv hd hcd) pa_nil
    refine wpAny_Call_Name_kw (ld_glob I hg hm (PySem.W.callWith_K (h₀ := X.base) I.mod.kin hk (thn (ha.run pos pins s σ H (fun vs H1 => vs = [V.ref xa] ∧ H1 = H) I ⟨_, hx', rfl, rfl⟩) fun us s' ⟨vs, H', J, va, ev, eH⟩ => ⟨J.kIn, ?_⟩) rfl rfl) hdb)
    subst ev
    rw [eH] at J
    have P1 := J.pin (xa, oe) (List.mem_append_left _ hp)
    have hpin : PinOk X.stack H s' (xa, oe) := ⟨P1.1, P1.2.1, fun hm => (List.mem_cons.mp (J.stkSub xa hm)).elim P1.2.2.1 P1.2.2.2.1, P1.2.2.2.2⟩
    have b := hb s' us J.kIn (by rw [List.append_nil, ← va.length, hps]; rfl)
    rw [List.append_nil] at b
    refine wpAny_call (codeAny_mono (@FnS.run ⟨T, a0⟩ X.prog X.w X.K X.mg X.base k fa fd ps D d F X.A X.stack s' H ⟨us, []⟩ us Q (xa, oe) hr gd hz hf hpin J.env0 b va ⟨F0, rep_wl rep, fun v F' H' x1 x2 nw fr al rp => q v F' H' (rep_call rep x1 x2 nw fr) (@StpE.call ⟨T, xa⟩ _ _ _ _ _ _ x1 nw fr al) rp⟩) fun r s2 hq => ?_)
    match r, hq with
    | .error e, hq => exact (show False from hq).elim
    | .ok (.ret u), hq => exact J.after hq
    | .ok .next, hq => exact hq.elim
    | .ok .brk, hq => exact hq.elim
    | .ok .cont, hq => exact hq.elim
  · cases e
end Wh

set_option Elab.async false
set_option linter.all false
set_option maxRecDepth 100000
set_option maxHeartbeats 1000000
set_option exponentiation.threshold 5000
/-! Wh23: try: return ("told", a()) / except x as n: .. -/
namespace Wh
open PySem PySem.Spec PyProof.Rows L2 Evl L2H
/-- the slots in the except suite: the exception at i, nothing else is known -/
def rhoS (n i : Nat) : En := (List.replicate n none).set i (some Sv.x)
theorem rep_s {T : List (Addr × Str)} {K : PySem.W.Frag} {σ : L2.St} {i n : Nat} {a b : Addr} {F H : Hp} (w : @Wl ⟨T, b⟩ F H) (hl : σ.length = n) (hi : σ[i]? = some (some (V.ref a))) : @Rep ⟨T, a⟩ K (rhoS n i) σ F H ∧ ∀ c, ¬ Own (rhoS n i) σ c := by
  have get : ∀ (j : Nat) (s : Sv), (rhoS n i)[j]? = some (some s) → j = i ∧ s = .x := fun j s h => by
    unfold rhoS at h
    rw [List.getElem?_set] at h
    split at h
    · rename_i e
      split at h
      · cases h
        exact ⟨e.symm, rfl⟩
      · cases h
    · rw [List.getElem?_replicate] at h
      split at h <;> cases h
  refine ⟨@Rep.mk ⟨T, a⟩ _ _ _ _ _ (by simp [rhoS, hl]) (Wl.to w) (fun j x h => ?_) (fun j b xs h => ?_) (fun j k b b' xs ys p h => ?_) (fun j h => ?_), fun c o => ?_⟩
  · cases (get j _ h).2
  · cases (get j _ h).2
  · cases (get j _ h).2
  · obtain ⟨rfl, _⟩ := get j _ h
    exact hi
  · obtain ⟨j, b, xs, h1, _⟩ := o
    cases (get j _ h1).2
/-- what must be known of each class that may come -/
def SuiteOk [Tbl] (X : Cx) (Ng : List Str) (x : Str) (sg : Scope) (g : Addr) (cdg : Value) (i : Nat) (CW : Addr) (suite : List Stmt) (ws : List (Str × PyData)) : Prop :=
  ∀ en w, ws.lookup en = some w → ∀ C, X.mg en = some (.ref C) → PySem.W.exmOne X.K (.ref C) (.ref CW) = some true ∧ ∃ ow ec b ρ', trBody (tcX Ng sg ow ec) false suite = some b ∧ exs c0 b (rhoS Ng.length i) = some (.ret w, ρ') ∧
    ∀ (s : Shared) (H : Hp) (a : Addr) (oe : Obj) (pn : List (Addr × Obj)), Zc (.ref C) none oe → (∃ vs, oe.data = .fields vs) → @EcOk ⟨Tbl.T, a⟩ ((cxOf C8.CX0 X.prog X.w X.K X.mg X.base Ng x sg g cdg X.A X.stack s H C8.E0).nox.suite a ((a, oe) :: pn)) ec
theorem gives_said [I0 : Tbl] {X : Cx} {Ng : List Str} {x a n wx q : Str} {sg : Scope} {g CW : Addr} {cdg : Value} {i j1 k1 : Nat} {b₀ : Stmt} {suite : List Stmt} {ws : List (Str × PyData)} {p1 p2 p3 p4 p5 p6 p7 p8 : Pos}
    (S : FnScope Ng [a] sg) (hi : Ng[i]? = some n) (hln : sg.names.lookup n = some .local) (hgw : sg.names.lookup wx = some .globalImplicit) (hdw : (wx == ("__debug__" : Str)) = false) (hmw : X.mg wx = some (.ref CW)) (hgd : X.A.guards = some []) (hr : Room 5 X.A) (hB : ∀ b ∈ bltNames, X.mg (Str.ofString b) = none) (h0 : ∀ f : Addr, (L2.start Ng [V.ref f])[0]? = some (some (V.ref f)))
    (hS : SuiteOk X Ng x sg g cdg i CW (b₀ :: suite) ws) :
    LamX.GivesTo X Ng x sg g cdg [.Try [.Return (some (.Tuple [.Constant (.str "told") j1 p1, .Call (.Name a p2) [] [] p3] k1 p4)) p5] [.ExceptHandler (some (.Name wx p6)) (some n) (b₀ :: suite) p7] [] [] p8] a q (TSaid X.K X.mg ws) := by
  intro f c' s H Q tl act hc h
  refine ⟨_, pss_one (L2.ps_try_as (X := (cxOf C8.CX0 X.prog X.w X.K X.mg X.base Ng x sg g cdg X.A X.stack s H C8.E0).nox) (c := .ref CW) (i := i) (Wout := fun _ _ _ _ => False)
      (tb := fun W D σ H => ∃ Ech : XK, (∀ cls d σ' H', Ech cls d H' → W cls d σ' H') ∧ σ[0]? = some (some (.ref f)) ∧ H c' = some (LamX.CodeO c' q) ∧ tl Ech H fun v H' => [V.str "told", v].length ≤ sizeLine ∧ ∀ p, H' p = none → D.rt (.ref p) (upd H' p (.tup [.str "told", v])))
      (ts := fun a cls d D σ H => (∃ σ0 : L2.St, σ = σ0.set i (some (.ref a))) ∧ ∃ en C w F, cls = .ref C ∧ d = none ∧ X.mg en = some (.ref C) ∧ ws.lookup en = some w ∧ Wl F H ∧ ∀ v F' H'', Ex F F' → Wl F' H'' → NewIn F H F' → (∀ a o, H a = some o → noT o → H'' a = some o) → (∀ a, H'' a = none → H a = none) → Rp X.K F' v w → D.rt v H'')
      rfl rfl S.nd hi hln ⟨hgw, hdw, .inl hmw⟩ LamX.takes0 (fun W pn xe tk _ => ?_) (fun a oe cls d pn hz hf => ?_)), ?_⟩
  · refine ⟨fun pins s' σ H' D I h' => ?_⟩
    obtain ⟨Ech, hW, h1, h2, h3⟩ := h'
    have hp := act W pn xe Ech p2 p3 tk hW
    have hq := pss_one (ps_ret (pos := p5) (pe_tup (x1 := k1) (pos := p4) (pa_cons (pe_str (x := "told") (j := j1) (pos := p1)) (pa_cons hp pa_nil))))
    exact hq.run pins s' σ H' D I ⟨h1, h2, h3⟩
  · refine ⟨fun pins s' σ H' D I h' => ?_⟩
    obtain ⟨⟨σ0, hσ⟩, en, C, w, F, rfl, rfl, hm, hw, wl, q'⟩ := h'
    obtain ⟨_, ow, ec, b, ρ', tr, run, hec⟩ := hS en w hw C hm
    have C1 : @Ct ⟨Tbl.T, a⟩ ((cxOf C8.CX0 X.prog X.w X.K X.mg X.base Ng x sg g cdg X.A X.stack s H C8.E0).nox.suite a ((a, oe) :: pn)) c0 0 (tcX Ng sg ow ec) := @ct_x ⟨Tbl.T, a⟩ _ _ _ _ _ rfl rfl S.nd S.kind hgd (by
      have := hr.un
      show (X.A.deeper (envOfC x sg s.heap.objs.size g cdg)).units + 64 < cLine
      show X.A.units + 3 + 64 < cLine
      omega) rfl hB (fun _ _ => rfl) (hec s H a oe pn hz hf)
    have B := @body_ok ⟨Tbl.T, a⟩ _ _ _ _ _ C1 _ _ tr
    have hl : σ.length = Ng.length := I.len
    have hlt : i < Ng.length := lt_of_get hi
    have hσi : σ[i]? = some (some (V.ref a)) := by
      rw [hσ, List.length_set] at hl
      rw [hσ, List.getElem?_set, if_pos rfl, if_pos (by omega)]
    obtain ⟨rep, no⟩ := rep_s (K := X.K) (n := Ng.length) wl hl hσi
    refine B.run pins s' σ H' D I ⟨rhoS Ng.length i, F, .ret w, ρ', rep, run, fun v σ' F' H'' rep' st' rp => ?_⟩
    refine q' v F' H'' st'.ext (rep_wl rep') (fun c o ho => ?_) (fun c o ho nt => st'.fr c o ho (no c) nt) st'.alive rp
    rcases st'.new c o ho with z | z | z
    · exact .inl z
    · exact .inr z
    · exact absurd z (no c)
  · refine ⟨_, fun cls d σ' H' hE => ?_, h0 f, hc, h⟩
    obtain ⟨en, C, w, F, rfl, rfl, hm, hw, wl, q'⟩ := hE
    exact ⟨true, (hS en w hw C hm).1, fun _ a _ => ⟨⟨σ', rfl⟩, en, C, w, F, rfl, rfl, hm, hw, wl, q'⟩, fun z => nomatch z⟩
end Wh

set_option Elab.async false
set_option linter.all false
set_option maxRecDepth 100000
set_option maxHeartbeats 1000000
set_option exponentiation.threshold 5000
/-! Wh24: the laws' own defs that name the class of an exception. -/
namespace Wh
open PySem PySem.Spec PyProof.Rows L2 Evl L2H
/-- isinstance(y, x) by a list, f(y) by another; y in the slot i -/
def ecX (y : Str) (i : Nat) (nb : List (Str × Bool)) (cs : List (Str × PyData)) : Str → List Str → Option (Nat × PyData) := fun f ns => match ns with
  | [z, x] => if f = "isinstance" ∧ z = y then (nb.lookup x).map fun b => (i, .bool b) else none
  | [z] => if z = y then (cs.lookup f).map fun d => (i, d) else none
  | _ => none
theorem names1 {args : List Expr} {y : Str} (h : namesOf args = some [y]) : ∃ p, args = [.Name y p] := by
  match args, h with
  | [], h => cases h
  | .Name x p :: as, h =>
    simp only [namesOf] at h
    obtain ⟨z, h1, h2⟩ := Option.map_eq_some_iff.mp h
    cases h2
    match as, h1 with
    | [], _ => exact ⟨p, rfl⟩
    | .Name x' p' :: as, h1 =>
      simp only [namesOf] at h1
      obtain ⟨_, _, z⟩ := Option.map_eq_some_iff.mp h1
      cases z
theorem names2 {args : List Expr} {y x : Str} (h : namesOf args = some [y, x]) : ∃ p q, args = [.Name y p, .Name x q] := by
  match args, h with
  | [], h => cases h
  | .Name x p :: as, h =>
    simp only [namesOf] at h
    obtain ⟨z, h1, h2⟩ := Option.map_eq_some_iff.mp h
    cases h2
    obtain ⟨q, rfl⟩ := names1 h1
    exact ⟨p, q, rfl⟩
theorem mem_of_look {α : Type} {x : Str} {b : α} : ∀ {l : List (Str × α)}, l.lookup x = some b → (x, b) ∈ l
  | [], h => nomatch h
  | (y, c) :: r, h => by
    rw [List.lookup_cons] at h
    by_cases e : x = y
    · subst e
      rw [beq_self_eq_true] at h
      cases h
      exact .head _
    · rw [beq_false_of_ne e] at h
      exact .tail _ (mem_of_look h)
/-- a class's name in the module, or the built-in one's; whether an exception of the class D is of it -/
def KitN (K : PySem.W.Frag) (mg : Str → Option Value) (D : Addr) (x : Str) (b : Bool) : Prop := (∃ C, mg x = some (.ref C) ∧ PySem.W.kitOne K (.ref D) (.ref C) = some b) ∨ (x = "ValueError" ∧ mg x = none ∧ PySem.W.kitOne K (.ref D) (.type "ValueError") = some b)
def glS (sc : Scope) (x : Str) : Bool := (sc.names.lookup x == some .globalImplicit) && plainName x
theorem ecOk_of [I0 : Tbl] {X : Cx} {y : Str} {i : Nat} {D : Addr} {oe : Obj} {nb : List (Str × Bool)} {cs : List (Str × PyData)} (hp : (Tbl.xa, oe) ∈ X.pn) (C : ExcC X.K D) (hz : Zc (.ref D) none oe) (hf : ∃ vs, oe.data = .fields vs) (hm : X.mg "isinstance" = none)
    (hN : X.N[i]? = some y) (hv : Vis X.env.scope y) (hy : plainName y = true) (hg : (nb.isEmpty || glS X.env.scope "isinstance" && nb.all fun q => glS X.env.scope q.1) = true) (hk : ∀ x b, (x, b) ∈ nb → KitN X.K X.mg D x b)
    (hc : ∀ f d, (f, d) ∈ cs → ∀ p p1 pos, PE X (.Call (.Name f p) [.Name y p1] [] pos) (tE X.K fun ρ => match ρ[i]? with
      | some (some .x) => some (d, ρ)
      | _ => none)) : EcOk X (ecX y i nb cs) := by
  intro f ns j d h args p pos hn
  have hpl := plain_of hy
  unfold ecX at h
  split at h
  · rename_i z x
    split at h
    · rename_i e
      obtain ⟨rfl, rfl⟩ := e
      obtain ⟨b, h1, h2⟩ := Option.map_eq_some_iff.mp h
      cases h2
      obtain ⟨p1, p2, rfl⟩ := names2 hn
      have hmem := mem_of_look h1
      have hne : nb.isEmpty = false := by
        cases nb with
        | nil => cases hmem
        | cons _ _ => rfl
      rw [hne, Bool.false_or, Bool.and_eq_true] at hg
      have g1 := hg.1
      have g2 := List.all_eq_true.mp hg.2 _ hmem
      unfold glS at g1 g2
      rw [Bool.and_eq_true] at g1 g2
      have k1 : Gl X "isinstance" := beq_iff_eq.mp g1.1
      have k2 : Gl X x := beq_iff_eq.mp g2.1
      rcases hk x b hmem with ⟨Ca, m1, m2⟩ | ⟨rfl, m1, m2⟩
      · exact ec_isP (cv := .ref Ca) hp C hz hf k1 hm hN hv hpl.1 hpl.2 ⟨k2, (plain_of g2.2).1, .inl ⟨Ca, rfl, m1⟩⟩ m2
      · exact ec_isP (cv := .type "ValueError") hp C hz hf k1 hm hN hv hpl.1 hpl.2 ⟨k2, (plain_of g2.2).1, .inr ⟨"ValueError", rfl, m1, by decide +kernel, by decide +kernel⟩⟩ m2
    · cases h
  · rename_i z
    split at h
    · rename_i e
      subst e
      obtain ⟨d', h1, h2⟩ := Option.map_eq_some_iff.mp h
      cases h2
      obtain ⟨p1, rfl⟩ := names1 hn
      exact hc f d (mem_of_look h1) p p1 pos
    · cases h
  · cases h
/-- a body, translated and run -/
def runT (tc : Tc) (body : List Stmt) (ρ : En) : Option Fl := match trBody tc false body with
  | some b => (exs c0 b ρ).map (·.1)
  | none => none
theorem runT_ok {tc : Tc} {body : List Stmt} {ρ : En} {d : PyData} (h : runT tc body ρ = some (.ret d)) : ∃ b ρ', trBody tc false body = some b ∧ exs c0 b ρ = some (.ret d, ρ') := by
  unfold runT at h
  split at h
  · rename_i b hb
    obtain ⟨⟨fl, ρ'⟩, h1, h2⟩ := Option.map_eq_some_iff.mp h
    cases h2
    exact ⟨b, ρ', hb, h1⟩
  · cases h
/-- a def that is called with the exception alone, of the class D: it looks at its class, calls others of the like -/
theorem fnS_mk [I0 : Tbl] {P : Program} {w : World} {K : PySem.W.Frag} {mg : Str → Option Value} {base : Heap} {k : Nat} {x y : Str} {st : Stmt} {f : Addr} {fd : FuncData} {N : List Str} {D : Addr} {d : PyData} {ow : List Nat} {nb : List (Str × Bool)} (F : Fun K x x st f fd) (S : FnScope (y :: N) [y] (defScope st)) (hy : plainName y = true)
    (hB : ∀ b ∈ bltNames, mg (Str.ofString b) = none) (C : ExcC K D) (hg : (nb.isEmpty || glS (defScope st) "isinstance" && nb.all fun q => glS (defScope st) q.1) = true) (hk : ∀ x b, (x, b) ∈ nb → KitN K mg D x b) {cs : List (Str × PyData)}
    (run : runT (tcX (y :: N) (defScope st) ow (ecX y 0 nb cs)) (defBody st) (rho0 N.length) = some (.ret d))
    (hc : ∀ f d, (f, d) ∈ cs → glS (defScope st) f = true ∧ ∃ fa fd, FnS P w K mg base k fa fd [y] D d ∧ mg f = some (.ref fa) ∧ PySem.W.keepIn K (.ref fa) = true ∧ Binds K fd [y] []) : FnS P w K mg base (k + 1) f fd [y] D d := by
  obtain ⟨b, ρ', tr, hr⟩ := runT_ok run
  have hv : Vis (defScope st) y := (S.par y (.head _)).elim .inl fun z => .inr (.inl z)
  refine fnS_of F S rfl (by simp) hB tr hr fun A outer s H p hroom gd hz hf => ?_
  refine @ecOk_of ⟨Tbl.T, p.1⟩ (cxH CX0 P w K mg base (y :: N) x (defScope st) f fd.code A outer s H E0 p).nox y 0 D p.2 nb cs (.head _) C hz hf (hB "isinstance" (by decide)) rfl hv hy hg hk fun f' d' hm p0 p1 pos => ?_
  obtain ⟨g1, fa', fd', FS, m1, m2, m3⟩ := hc f' d' hm
  unfold glS at g1
  rw [Bool.and_eq_true] at g1
  have hpl := plain_of hy
  exact ec_call (T := Tbl.T) (a0 := Tbl.xa) (X := (cxH CX0 P w K mg base (y :: N) x (defScope st) f fd.code A outer s H E0 p).nox) (xa := p.1) (oe := p.2) FS hroom gd (.head _) hz hf (beq_iff_eq.mp g1.1) (plain_of g1.2).1 m1 m2 m3 rfl rfl hv hpl.1 hpl.2
/-- what is known of a class that may come -/
structure XOk [Tbl] (K : PySem.W.Frag) (mg : Str → Option Value) (CW D : Addr) : Prop where
  sub : PySem.W.exmOne K (.ref D) (.ref CW) = some true
  exc : ExcC K D
/-- the except suite -/
def suiteOf (st : Stmt) : List Stmt := match defBody st with
  | [.Try _ [.ExceptHandler _ _ s _] _ _ _] => s
  | _ => []
theorem say_mk [I0 : Tbl] {K : PySem.W.Frag} {mg : Str → Option Value} {x a n wx : Str} {st : Stmt} {g : Addr} {fd : FuncData} {N : List Str} {i j1 k1 : Nat} {CW : Addr} {b₀ : Stmt} {suite : List Stmt} {ws : List (Str × PyData)} {p1 p2 p3 p4 p5 p6 p7 p8 : Pos} (hB : ∀ b ∈ bltNames, mg (Str.ofString b) = none)
    (F : Fun K x x st g fd) (mgS : mg x = some (.ref g)) (bS : Binds K fd [a] []) (S : FnScope (a :: N) [a] (defScope st))
    (hbody : defBody st = [.Try [.Return (some (.Tuple [.Constant (.str "told") j1 p1, .Call (.Name a p2) [] [] p3] k1 p4)) p5] [.ExceptHandler (some (.Name wx p6)) (some n) (b₀ :: suite) p7] [] [] p8])
    (ha : plainName a = true) (hn : plainName n = true) (hi : (a :: N)[i]? = some n) (hln : (defScope st).names.lookup n = some .local) (hgw : glS (defScope st) wx = true) (hmw : mg wx = some (.ref CW))
    (hws : ∀ en w, ws.lookup en = some w → ∃ D nb cs ow, mg en = some (.ref D) ∧ XOk K mg CW D ∧ ((nb : List (Str × Bool)).isEmpty || glS (defScope st) "isinstance" && nb.all fun q => glS (defScope st) q.1) = true ∧ (∀ x b, (x, b) ∈ nb → KitN K mg D x b) ∧
      runT (tcX (a :: N) (defScope st) ow (ecX n i nb cs)) (suiteOf st) (rhoS (a :: N).length i) = some (.ret w) ∧ ∀ f d, (f, d) ∈ cs → glS (defScope st) f = true ∧ ∃ fa fd y, (∀ P w base, FnS P w K mg base 4 fa fd [y] D d) ∧ mg f = some (.ref fa) ∧ PySem.W.keepIn K (.ref fa) = true ∧ Binds K fd [y] []) : SayD K mg x ws := by
  intro X hK hM hgd hr
  subst hK hM
  obtain ⟨oc, od, kV, doc, pm, an, cd, ct, osl, rfl, lk, code⟩ := F.ex
  unfold glS at hgw
  rw [Bool.and_eq_true] at hgw
  have hpa := plain_of ha
  have hpn := plain_of hn
  have hva : Vis (defScope st) a := (S.par a (.head _)).elim .inl fun z => .inr (.inl z)
  refine ⟨a, g, defArgs st, defBody st, defScope st, .none, kV, doc, pm, cd, ct, oc, an, od, osl, a :: N, mgS, F.kp, lk, code, bS, S, rfl, hva, hpa.1, hpa.2, ?_, fun en w h => ?_⟩
  · rw [hbody]
    refine gives_said S hi hln (beq_iff_eq.mp hgw.1) (plain_of hgw.2).1 hmw hgd hr hB (fun f => rfl) fun en w hw C hm => ?_
    obtain ⟨D, nb, cs, ow, m1, xo, hg, hk, run, hc⟩ := hws en w hw
    rw [hm] at m1
    cases m1
    have hsu : suiteOf st = b₀ :: suite := by
      unfold suiteOf
      rw [hbody]
    rw [hsu] at run
    obtain ⟨b, ρ', tr, hrun⟩ := runT_ok run
    refine ⟨xo.sub, ow, _, b, ρ', tr, hrun, fun s H a0 oe pn hz hf => ?_⟩
    refine @ecOk_of ⟨Tbl.T, a0⟩ ((cxOf C8.CX0 X.prog X.w X.K X.mg X.base (a :: N) x (defScope st) g cd X.A X.stack s H C8.E0).nox.suite a0 ((a0, oe) :: pn)) n i C oe nb cs (.head _) xo.exc hz hf (hB "isinstance" (by decide)) hi (.inl hln) hn hg hk fun f' d' hm p0 p1 pos => ?_
    obtain ⟨g1, fa', fd', y', FS, m1, m2, m3⟩ := hc f' d' hm
    unfold glS at g1
    rw [Bool.and_eq_true] at g1
    have r4 := hr.deeper (envOfC x (defScope st) s.heap.objs.size g cd)
    have rH : RoomH 4 ((cxOf C8.CX0 X.prog X.w X.K X.mg X.base (a :: N) x (defScope st) g cd X.A X.stack s H C8.E0).nox.suite a0 ((a0, oe) :: pn)).A := ⟨r4.dp, r4.un⟩
    exact ec_call (T := Tbl.T) (a0 := Tbl.xa) (X := (cxOf C8.CX0 X.prog X.w X.K X.mg X.base (a :: N) x (defScope st) g cd X.A X.stack s H C8.E0).nox.suite a0 ((a0, oe) :: pn)) (xa := a0) (oe := oe) (FS X.prog X.w X.base) rH hgd (.head _) hz hf (beq_iff_eq.mp g1.1) (plain_of g1.2).1 m1 m2 m3 rfl hi (.inl hln) hpn.1 hpn.2
  · obtain ⟨D, nb, cs, ow, m1, _⟩ := hws en w h
    exact ⟨D, m1⟩
/-! ### what the head tells of a class -/
/-- the class D: an own one below ValueError without an __init__ of its own; of which of the classes it is -/
def excB (K : PySem.W.Frag) (D CW : Addr) (nb : List (Str × Bool)) : Bool :=
  decide (PySem.W.keepIn K (.ref D) = true) && PySem.W.excIn K D [.type "ValueError", .type "Exception", .type "BaseException", .type "object"] "ValueError.__new__" && decide (PySem.W.subIn K (.ref D) (.type "BaseException") = some true) && decide (PySem.W.typeIn K (.ref D) = some (.type "type")) &&
  decide (PySem.W.exmOne K (.ref D) (.ref CW) = some true) && decide (PySem.W.findIn K (.ref D) "__getattribute__" = some (some (.builtin "BaseException.__getattribute__"))) && decide (PySem.W.findIn K (.ref D) "__getattr__" = some none) && decide (PySem.W.hasDictIn K D = true) &&
  decide (PySem.W.findIn K (.ref D) "__class__" = some (some (.builtin "object.__class__"))) && decide (PySem.W.specialIn K (.builtin "object.__class__") "__get__" = some (some (.builtin "getset_descriptor.__get__"))) && decide (PySem.W.takesIn K (.builtin "object.__class__") = some true) && decide (PySem.W.mroIn K D (.type "object") = some true) &&
  nb.all fun q => match PySem.W.nsIn K mainGlobals q.1 with
    | some (some (.ref C)) => decide (PySem.W.kitOne K (.ref D) (.ref C) = some q.2)
    | some none => decide (q.1 = "ValueError") && decide (PySem.W.kitOne K (.ref D) (.type "ValueError") = some q.2)
    | _ => false
theorem excB_ok [Tbl] {K : PySem.W.Frag} {h : Heap} {mg : Str → Option Value} {x : Str} {D CW : Addr} {nb : List (Str × Bool)} (X : K.In h) (G : h.Ns mainGlobals mg) (a : PySem.W.nsIn K mainGlobals x = some (some (.ref D))) (e : excB K D CW nb = true) :
    ClsK K mg x D ∧ XOk K mg CW D ∧ ∀ x b, (x, b) ∈ nb → KitN K mg D x b := by
  unfold excB at e
  simp only [Bool.and_eq_true, decide_eq_true_eq] at e
  obtain ⟨⟨⟨⟨⟨⟨⟨⟨⟨⟨⟨⟨e1, e2⟩, e3⟩, e4⟩, e5⟩, e6⟩, e7⟩, e8⟩, e9⟩, e10⟩, e11⟩, e12⟩, e13⟩ := e
  refine ⟨⟨PySem.W.mg_of X G a, e1, ⟨_, _, _, _, PySem.F.excBase_ValueError, e2⟩, e3, e4⟩, ⟨e5, ⟨e6, e7, e3, e8, e9, e10, e11, e12⟩⟩, fun y b hm => ?_⟩
  have q := List.all_eq_true.mp e13 (y, b) hm
  simp only at q
  split at q
  · rename_i Ca hC
    exact .inl ⟨Ca, PySem.W.mg_of X G hC, of_decide_eq_true q⟩
  · rename_i hC
    rw [Bool.and_eq_true] at q
    exact .inr ⟨of_decide_eq_true q.1, PySem.W.mg_none_of X G hC, of_decide_eq_true q.2⟩
  · cases q
theorem sub_ok {nb nb' : List (Str × Bool)} {x : Str} {b : Bool} (h : nb.all (fun q => decide (q ∈ nb')) = true) (hm : (x, b) ∈ nb) : (x, b) ∈ nb' := of_decide_eq_true (List.all_eq_true.mp h _ hm)
end Wh

set_option Elab.async false
set_option linter.all false
set_option maxRecDepth 100000
set_option maxHeartbeats 0
set_option exponentiation.threshold 20000
namespace Wh
open PySem PySem.Spec PyProof.Rows L2 Evl
def FU : Nat := 10 ^ 30

/-! ### the module's constants -/
def globL : List (Str × PyData) := [(Str.ofString "PLACE", .str "place"), (Str.ofString "BOUNDS", .dict [(.str "source", .tuple [.tuple [.int (0), .int (200)]]), (.str "tank", .tuple [.tuple [.int (0), .int (150)], .tuple [.int (1), .int (50)], .tuple [.int (1), .int (50)]])]), (Str.ofString "BOTH", .str "both"), (Str.ofString "ON", .str "on"), (Str.ofString "MOST_JOINTS", .int (7)), (Str.ofString "MOST_PIPES", .int (9)), (Str.ofString "MOST_ON", .int (4)), (Str.ofString "TANK", .str "tank"), (Str.ofString "MOST_ASKED", .int (50)), (Str.ofString "NOUGHT", .tuple [.int (0), .int (1)])]
def glob : Str → Option PyData := fun x => globL.lookup x
theorem g_PLACE : glob "PLACE" = some (.str "place") := by kernel_rfl
theorem g_BOUNDS : glob "BOUNDS" = some (.dict [(.str "source", .tuple [.tuple [.int (0), .int (200)]]), (.str "tank", .tuple [.tuple [.int (0), .int (150)], .tuple [.int (1), .int (50)], .tuple [.int (1), .int (50)]])]) := by kernel_rfl
theorem g_BOTH : glob "BOTH" = some (.str "both") := by kernel_rfl
theorem g_ON : glob "ON" = some (.str "on") := by kernel_rfl
theorem g_MOST_JOINTS : glob "MOST_JOINTS" = some (.int (7)) := by kernel_rfl
theorem g_MOST_PIPES : glob "MOST_PIPES" = some (.int (9)) := by kernel_rfl
theorem g_MOST_ON : glob "MOST_ON" = some (.int (4)) := by kernel_rfl
theorem g_TANK : glob "TANK" = some (.str "tank") := by kernel_rfl
theorem g_MOST_ASKED : glob "MOST_ASKED" = some (.int (50)) := by kernel_rfl
theorem g_NOUGHT : glob "NOUGHT" = some (.tuple [.int (0), .int (1)]) := by kernel_rfl
theorem glob_ok {K : PySem.W.Frag} {w : World} {h : Heap} {mg : Str → Option Value} (X : K.In h) (G : h.Ns mainGlobals mg) (q_PLACE : conB K "PLACE" (.str "place") = true) (q_BOUNDS : DctG K w mg "BOUNDS" [(.str "source", .tuple [.tuple [.int (0), .int (200)]]), (.str "tank", .tuple [.tuple [.int (0), .int (150)], .tuple [.int (1), .int (50)], .tuple [.int (1), .int (50)]])]) (q_BOTH : conB K "BOTH" (.str "both") = true) (q_ON : conB K "ON" (.str "on") = true) (q_MOST_JOINTS : conB K "MOST_JOINTS" (.int (7)) = true) (q_MOST_PIPES : conB K "MOST_PIPES" (.int (9)) = true) (q_MOST_ON : conB K "MOST_ON" (.int (4)) = true) (q_TANK : conB K "TANK" (.str "tank") = true) (q_MOST_ASKED : conB K "MOST_ASKED" (.int (50)) = true) (q_NOUGHT : conB K "NOUGHT" (.tuple [.int (0), .int (1)]) = true) : GlobOk K w mg glob := by
  exact glob_all (l := globL) ⟨con_ok X G q_PLACE, q_BOUNDS, con_ok X G q_BOTH, con_ok X G q_ON, con_ok X G q_MOST_JOINTS, con_ok X G q_MOST_PIPES, con_ok X G q_MOST_ON, con_ok X G q_TANK, con_ok X G q_MOST_ASKED, con_ok X G q_NOUGHT, trivial⟩
def wsL : List (Str × PyData) := [(Str.ofString "NoNet", .tuple [.str "net"])]
def sdF : Str → Option (List (Str × PyData)) := fun x => if x = Str.ofString "_law_said" then some wsL else none
def clL : List Str := ["NoNet"]
/-! ### the defs in the small language -/
def b_is_whole : List Sm := [(.ret (.and (.b1 (.isi .int) (.var 0)) (.not (.b1 (.isi .bool) (.var 0)))))]
def f_is_whole : Fn := ⟨false, false, 1, 1, b_is_whole, []⟩
def b_common : List Sm := [(.par [0, 1] [(.b1 .abs (.var 0)), (.b1 .abs (.var 1))]),
    (.wh (.leaf (.cmp .ne (.var 1) (.con (.int 0)))) [(.par [0, 1] [(.var 1), (.bin .mod (.var 0) (.var 1))])]),
    (.ret (.var 0))]
def f_common : Fn := ⟨false, false, 2, 2, b_common, []⟩
def b_is_fraction : List Sm := [(.ite (.or (.not (.leaf (.b1 (.isi .tuple) (.var 0)))) (.or (.leaf (.cmp .ne (.b1 .len (.var 0)) (.con (.int 2)))) (.not (.leaf (.b1 .all (.comp (.call "is_whole" [(.var 1)]) (.name 1) (.seq (.var 0)) [] [1])))))) [(.ret (.con (.bool false)))] []),
    (.ret (.and (.cmp .gt (.ix (.var 0) (.con (.int 1))) (.con (.int 0))) (.cmp .eq (.call "common" [(.ix (.var 0) (.con (.int 0))), (.ix (.var 0) (.con (.int 1)))]) (.con (.int 1)))))]
def f_is_fraction : Fn := ⟨false, false, 1, 2, b_is_fraction, []⟩
def b_is_between : List Sm := [(.ret (.and (.call "is_fraction" [(.var 0)]) (.chain .le .le (.bin .mul (.var 1) (.ix (.var 0) (.con (.int 1)))) (.ix (.var 0) (.con (.int 0))) (.bin .mul (.var 2) (.ix (.var 0) (.con (.int 1)))))))]
def f_is_between : Fn := ⟨false, false, 3, 3, b_is_between, []⟩
def b_is_number : List Sm := [(.ret (.and (.call "is_whole" [(.var 0)]) (.chain .le .le (.var 1) (.var 0) (.var 2))))]
def f_is_number : Fn := ⟨false, false, 3, 3, b_is_number, []⟩
def b_is_place_joint : List Sm := [(.unp [(.name 1), (.name 2), (.name 3), (.name 4)] (.var 0)),
    (.ret (.and (.call "is_number" [(.var 2), (.con (.int 0)), (.con (.int 100))]) (.and (.call "is_number" [(.var 4), (.con (.int 0)), (.con (.int 200))]) (.call "is_number" [(.var 3), (.con (.int 0)), (.var 4)]))))]
def f_is_place_joint : Fn := ⟨false, false, 1, 5, b_is_place_joint, []⟩
def b_is_joint : List Sm := [(.ite (.or (.not (.leaf (.b1 (.isi .tuple) (.var 0)))) (.or (.leaf (.cmp .eq (.var 0) (.tup []))) (.not (.leaf (.b1 (.isi .str) (.ix (.var 0) (.con (.int 0)))))))) [(.ret (.con (.bool false)))] []),
    (.ite (.leaf (.cmp .eq (.ix (.var 0) (.con (.int 0))) (.glob "PLACE"))) [(.ret (.and (.cmp .eq (.b1 .len (.var 0)) (.con (.int 4))) (.call "is_place_joint" [(.var 0)])))] []),
    (.set 1 (.gget "BOUNDS" (.ix (.var 0) (.con (.int 0))))),
    (.ite (.or (.leaf (.cmp .isN (.var 1) (.con .none))) (.leaf (.cmp .ne (.b1 .len (.var 0)) (.bin .add (.b1 .len (.var 1)) (.con (.int 1)))))) [(.ret (.con (.bool false)))] []),
    (.ret (.b1 .all (.comp (.call "is_number" [(.var 2), (.var 3), (.var 4)]) (.tup [(.name 2), (.tup [(.name 3), (.name 4)])]) (.zip (.sl (.var 0) (some (.con (.int 1))) none) (.var 1)) [] [2, 3, 4])))]
def f_is_joint : Fn := ⟨false, false, 1, 5, b_is_joint, []⟩
def b_is_pipe : List Sm := [(.ite (.or (.not (.leaf (.b1 (.isi .tuple) (.var 1)))) (.leaf (.cmp .ne (.b1 .len (.var 1)) (.con (.int 7))))) [(.ret (.con (.bool false)))] []),
    (.unp [(.name 2), (.name 3), (.name 4), (.name 5), (.name 6), (.name 7), (.name 8)] (.var 1)),
    (.ite (.or (.not (.leaf (.call "is_number" [(.var 2), (.con (.int 0)), (.bin .sub (.var 0) (.con (.int 1)))]))) (.or (.not (.leaf (.call "is_number" [(.var 3), (.con (.int 0)), (.bin .sub (.var 0) (.con (.int 1)))]))) (.leaf (.cmp .eq (.var 2) (.var 3))))) [(.ret (.con (.bool false)))] []),
    (.ite (.or (.not (.leaf (.call "is_number" [(.var 4), (.con (.int 1)), (.con (.int 20))]))) (.or (.not (.leaf (.b1 (.isi .str) (.var 5)))) (.leaf (.cmp .nin (.var 5) (.tup [(.glob "BOTH"), (.glob "ON")]))))) [(.ret (.con (.bool false)))] []),
    (.ite (.or (.not (.leaf (.call "is_number" [(.var 6), (.con (.int 0)), (.ite (.leaf (.cmp .eq (.var 5) (.glob "ON"))) (.con (.int 50)) (.con (.int 0)))]))) (.not (.leaf (.b1 (.isi .bool) (.var 7))))) [(.ret (.con (.bool false)))] []),
    (.ret (.call "is_number" [(.var 8), (.con (.int 0)), (.con (.int 20))]))]
def f_is_pipe : Fn := ⟨false, false, 2, 9, b_is_pipe, []⟩
def b_is_net : List Sm := [(.ite (.or (.not (.leaf (.b1 (.isi .tuple) (.var 0)))) (.or (.leaf (.cmp .ne (.b1 .len (.var 0)) (.con (.int 2)))) (.not (.leaf (.b1 .all (.comp (.b1 (.isi .tuple) (.var 1)) (.name 1) (.seq (.var 0)) [] [1])))))) [(.ret (.con (.bool false)))] []),
    (.unp [(.name 2), (.name 3)] (.var 0)),
    (.ite (.or (.not (.leaf (.chain .le .le (.con (.int 2)) (.b1 .len (.var 2)) (.glob "MOST_JOINTS")))) (.not (.leaf (.b1 .all (.comp (.call "is_joint" [(.var 4)]) (.name 4) (.seq (.var 2)) [] [4]))))) [(.ret (.con (.bool false)))] []),
    (.ite (.or (.not (.leaf (.chain .le .le (.con (.int 1)) (.b1 .len (.var 3)) (.glob "MOST_PIPES")))) (.not (.leaf (.b1 .all (.comp (.call "is_pipe" [(.b1 .len (.var 2)), (.var 5)]) (.name 5) (.seq (.var 3)) [] [5]))))) [(.ret (.con (.bool false)))] []),
    (.ret (.cmp .le (.b1 .len (.comp (.var 5) (.name 5) (.seq (.var 3)) [(.leaf (.cmp .eq (.ix (.var 5) (.con (.int 3))) (.glob "ON")))] [5])) (.glob "MOST_ON")))]
def f_is_net : Fn := ⟨false, false, 1, 6, b_is_net, []⟩
def b_need_net : List Sm := [(.ite (.not (.leaf (.call "is_net" [(.var 0)]))) [(.fail (some "NoNet"))] [])]
def f_need_net : Fn := ⟨false, false, 1, 1, b_need_net, []⟩
def b_tanks_of : List Sm := [(.ret (.comp (.var 1) (.name 1) (.rng1 (.b1 .len (.ix (.var 0) (.con (.int 0))))) [(.leaf (.cmp .eq (.ix (.ix (.ix (.var 0) (.con (.int 0))) (.var 1)) (.con (.int 0))) (.glob "TANK")))] [1]))]
def f_tanks_of : Fn := ⟨false, false, 1, 2, b_tanks_of, []⟩
def b_is_pump : List Sm := [(.ret (.cmp .gt (.ix (.ix (.ix (.var 0) (.con (.int 1))) (.var 1)) (.con (.int 4))) (.con (.int 0))))]
def f_is_pump : Fn := ⟨false, false, 2, 2, b_is_pump, []⟩
def b_can_shut : List Sm := [(.ret (.and (.call "is_number" [(.var 1), (.con (.int 0)), (.bin .sub (.b1 .len (.ix (.var 0) (.con (.int 1)))) (.con (.int 1)))]) (.or (.ix (.ix (.ix (.var 0) (.con (.int 1))) (.var 1)) (.con (.int 5))) (.call "is_pump" [(.var 0), (.var 1)]))))]
def f_can_shut : Fn := ⟨false, false, 2, 2, b_can_shut, []⟩
def b_are_rising : List Sm := [(.ret (.b1 .all (.comp (.cmp .lt (.var 1) (.var 2)) (.tup [(.name 1), (.name 2)]) (.zip (.sl (.var 0) none (some (.neg (.con (.int 1))))) (.sl (.var 0) (some (.con (.int 1))) none)) [] [1, 2])))]
def f_are_rising : Fn := ⟨false, false, 1, 3, b_are_rising, []⟩
def b_are_asked : List Sm := [(.ite (.or (.not (.leaf (.b1 (.isi .tuple) (.var 1)))) (.leaf (.cmp .ne (.b1 .len (.var 1)) (.b1 .len (.ix (.var 0) (.con (.int 0))))))) [(.ret (.con (.bool false)))] []),
    (.ite (.not (.leaf (.b1 .all (.comp (.call "is_between" [(.var 2), (.con (.int 0)), (.glob "MOST_ASKED")]) (.name 2) (.seq (.var 1)) [] [2])))) [(.ret (.con (.bool false)))] []),
    (.ret (.b1 .all (.comp (.or (.cmp .eq (.var 2) (.glob "NOUGHT")) (.cmp .eq (.ix (.var 3) (.con (.int 0))) (.glob "PLACE"))) (.tup [(.name 2), (.name 3)]) (.zip (.var 1) (.ix (.var 0) (.con (.int 0)))) [] [2, 3])))]
def f_are_asked : Fn := ⟨false, false, 2, 4, b_are_asked, []⟩
def b_are_levels_of : List Sm := [(.set 2 (.call "tanks_of" [(.var 0)])),
    (.ite (.or (.not (.leaf (.b1 (.isi .tuple) (.var 1)))) (.leaf (.cmp .ne (.b1 .len (.var 1)) (.b1 .len (.var 2))))) [(.ret (.con (.bool false)))] []),
    (.ret (.b1 .all (.comp (.call "is_between" [(.var 3), (.con (.int 0)), (.ix (.ix (.ix (.var 0) (.con (.int 0))) (.var 4)) (.con (.int 3)))]) (.tup [(.name 3), (.name 4)]) (.zip (.var 1) (.var 2)) [] [3, 4])))]
def f_are_levels_of : Fn := ⟨false, false, 2, 5, b_are_levels_of, []⟩
def b_are_shut : List Sm := [(.ret (.and (.b1 (.isi .tuple) (.var 1)) (.and (.b1 .all (.comp (.call "can_shut" [(.var 0), (.var 2)]) (.name 2) (.seq (.var 1)) [] [2])) (.call "are_rising" [(.var 1)]))))]
def f_are_shut : Fn := ⟨false, false, 2, 3, b_are_shut, []⟩
def b_is_case_of : List Sm := [(.ite (.or (.not (.leaf (.b1 (.isi .tuple) (.var 1)))) (.leaf (.cmp .ne (.b1 .len (.var 1)) (.con (.int 3))))) [(.ret (.con (.bool false)))] []),
    (.ret (.and (.call "are_asked" [(.var 0), (.ix (.var 1) (.con (.int 0)))]) (.and (.call "are_levels_of" [(.var 0), (.ix (.var 1) (.con (.int 1)))]) (.call "are_shut" [(.var 0), (.ix (.var 1) (.con (.int 2)))]))))]
def f_is_case_of : Fn := ⟨false, false, 2, 2, b_is_case_of, []⟩
def b_is_case : List Sm := [(.expr (.call "need_net" [(.var 0)])),
    (.ret (.call "is_case_of" [(.var 0), (.var 1)]))]
def f_is_case : Fn := ⟨false, false, 2, 2, b_is_case, []⟩
def b_law_cell_at : List Sm := [(.ite (.leaf (.cmp .lt (.var 1) (.b1 .len (.var 0)))) [(.ret (.ix (.var 0) (.var 1)))] []),
    (.ret (.con (.int 0)))]
def f_law_cell_at : Fn := ⟨false, false, 2, 2, b_law_cell_at, []⟩
def b_law_next : List Sm := [(.set 0 (.bin .mod (.bin .add (.var 0) (.con (.int 7919))) (.con (.int 2147483647)))),
    (.ret (.bin .mod (.bin .add (.bin .add (.bin .mul (.var 0) (.var 0)) (.bin .mul (.con (.int 48271)) (.var 0))) (.con (.int 12345))) (.con (.int 2147483629))))]
def f_law_next : Fn := ⟨false, false, 1, 1, b_law_next, []⟩
def b_law_pen_of : List Sm := [(.set 1 (.b2 .max (.var 0) (.bin .sub (.con (.int 0)) (.var 0)))),
    (.ret (.lst [(.var 1), (.b1 .int (.cmp .ge (.var 1) (.bin .pow (.con (.int 10)) (.con (.int 18))))), (.bin .mod (.var 1) (.con (.int 1000003)))]))]
def f_law_pen_of : Fn := ⟨false, true, 1, 2, b_law_pen_of, []⟩
def b_law_draw : List Sm := [(.ite (.and (.leaf (.cmp .eq (.oix 0 (.con (.int 1))) (.con (.int 1)))) (.leaf (.cmp .gt (.oix 0 (.con (.int 0))) (.con (.int 0))))) [(.set 2 (.bin .mod (.oix 0 (.con (.int 0))) (.var 1))),
    (.seti 0 (.con (.int 0)) (.bin .fdiv (.oix 0 (.con (.int 0))) (.var 1))),
    (.ret (.var 2))] []),
    (.seti 0 (.con (.int 2)) (.call "_law_next" [(.bin .add (.call "_law_next" [(.oix 0 (.con (.int 2)))]) (.con (.int 7)))])),
    (.ret (.bin .mod (.bin .fdiv (.oix 0 (.con (.int 2))) (.con (.int 64))) (.var 1)))]
def f_law_draw : Fn := ⟨true, false, 2, 3, b_law_draw, []⟩
def b_law_low : List Sm := [(.par [2, 3] [(.b1 .abs (.var 0)), (.var 1)]),
    (.wh (.leaf (.cmp .ne (.var 3) (.con (.int 0)))) [(.par [2, 3] [(.var 3), (.bin .mod (.var 2) (.var 3))])]),
    (.ret (.tup [(.bin .fdiv (.var 0) (.var 2)), (.bin .fdiv (.var 1) (.var 2))]))]
def f_law_low : Fn := ⟨false, false, 2, 4, b_law_low, []⟩
def b_law_joint : List Sm := [(.set 1 (.callp "_law_draw" 0 [(.con (.int 6))])),
    (.ite (.leaf (.cmp .eq (.var 1) (.con (.int 4)))) [(.ret (.tup [(.con (.str "source")), (.callp "_law_draw" 0 [(.con (.int 80))])]))] []),
    (.ite (.leaf (.cmp .eq (.var 1) (.con (.int 5)))) [(.ret (.tup [(.con (.str "tank")), (.callp "_law_draw" 0 [(.con (.int 60))]), (.bin .add (.con (.int 1)) (.callp "_law_draw" 0 [(.con (.int 9))])), (.bin .add (.con (.int 1)) (.callp "_law_draw" 0 [(.con (.int 20))]))]))] []),
    (.set 2 (.callp "_law_draw" 0 [(.con (.int 12))])),
    (.ret (.tup [(.con (.str "place")), (.callp "_law_draw" 0 [(.con (.int 40))]), (.var 2), (.bin .add (.var 2) (.callp "_law_draw" 0 [(.con (.int 60))]))]))]
def f_law_joint : Fn := ⟨true, false, 1, 3, b_law_joint, []⟩
def b_law_net : List Sm := [(.set 2 (.lst [(.tup [(.con (.str "source")), (.bin .add (.con (.int 20)) (.callp "_law_draw" 0 [(.con (.int 60))]))]), (.tup [(.con (.str "tank")), (.bin .add (.con (.int 10)) (.callp "_law_draw" 0 [(.con (.int 60))])), (.bin .add (.con (.int 1)) (.callp "_law_draw" 0 [(.con (.int 9))])), (.con (.int 12))])])),
    (.set 3 (.bin .add (.lst [(.ix (.var 2) (.callp "_law_draw" 0 [(.con (.int 2))]))]) (.comp (.callp "_law_joint" 0 []) (.name 4) (.rng1 (.bin .add (.con (.int 1)) (.callp "_law_draw" 0 [(.bin .sub (.var 1) (.con (.int 1)))]))) [] [4]))),
    (.paro [5, 6] [true, false] [(.lst []), (.con (.int 0))]),
    (.for_ (.name 4) (.rng1 (.bin .add (.con (.int 1)) (.callp "_law_draw" 0 [(.b2 .min (.con (.int 9)) (.bin .add (.b1 .len (.var 3)) (.con (.int 3))))]))) [(.par [7, 8] [(.callp "_law_draw" 0 [(.b1 .len (.var 3))]), (.bin .add (.con (.int 1)) (.callp "_law_draw" 0 [(.bin .sub (.b1 .len (.var 3)) (.con (.int 1)))]))]),
    (.set 9 (.ite (.and (.leaf (.cmp .lt (.var 6) (.con (.int 4)))) (.leaf (.cmp .eq (.callp "_law_draw" 0 [(.con (.int 3))]) (.con (.int 0))))) (.con (.str "on")) (.con (.str "both")))),
    (.set 6 (.bin .add (.var 6) (.b1 .int (.cmp .eq (.var 9) (.con (.str "on")))))),
    (.set 10 (.ite (.leaf (.cmp .eq (.var 9) (.con (.str "on")))) (.bin .mul (.callp "_law_draw" 0 [(.con (.int 30))]) (.callp "_law_draw" 0 [(.con (.int 2))])) (.con (.int 0)))),
    (.set 11 (.tup [(.var 7), (.bin .mod (.bin .add (.var 7) (.var 8)) (.b1 .len (.var 3))), (.bin .add (.con (.int 1)) (.callp "_law_draw" 0 [(.ix (.lst [(.con (.int 4)), (.con (.int 20))]) (.callp "_law_draw" 0 [(.con (.int 2))]))]))])),
    (.app 5 (.bin .add (.var 11) (.tup [(.var 9), (.var 10), (.cmp .eq (.callp "_law_draw" 0 [(.con (.int 2))]) (.con (.int 0))), (.callp "_law_draw" 0 [(.con (.int 21))])])))]),
    (.ret (.tup [(.b1 .tuple (.var 3)), (.b1 .tuple (.var 5))]))]
def f_law_net : Fn := ⟨true, false, 2, 12, b_law_net, []⟩
def b_law_case : List Sm := [(.paro [2, 3] [true, true] [(.lst []), (.lst [])]),
    (.for_ (.name 4) (.seq (.ix (.var 1) (.con (.int 0)))) [(.set 5 (.call "_law_low" [(.callp "_law_draw" 0 [(.con (.int 7))]), (.bin .add (.con (.int 1)) (.callp "_law_draw" 0 [(.ix (.lst [(.con (.int 1)), (.con (.int 3))]) (.callp "_law_draw" 0 [(.con (.int 2))]))]))])),
    (.app 2 (.ite (.and (.leaf (.cmp .eq (.ix (.var 4) (.con (.int 0))) (.con (.str "place")))) (.leaf (.cmp .gt (.callp "_law_draw" 0 [(.con (.int 4))]) (.con (.int 0))))) (.var 5) (.tup [(.con (.int 0)), (.con (.int 1))]))),
    (.ite (.leaf (.cmp .eq (.ix (.var 4) (.con (.int 0))) (.con (.str "tank")))) [(.app 3 (.call "_law_low" [(.callp "_law_draw" 0 [(.bin .add (.bin .mul (.con (.int 2)) (.ix (.var 4) (.con (.int 3)))) (.con (.int 1)))]), (.con (.int 2))]))] [])]),
    (.set 6 (.comp (.var 7) (.tup [(.name 7), (.name 8)]) (.enum (.ix (.var 1) (.con (.int 1)))) [(.or (.leaf (.ix (.var 8) (.con (.int 5)))) (.leaf (.cmp .gt (.ix (.var 8) (.con (.int 4))) (.con (.int 0)))))] [7, 8])),
    (.ret (.tup [(.b1 .tuple (.var 2)), (.b1 .tuple (.var 3)), (.b1 .tuple (.comp (.var 7) (.name 7) (.seq (.var 6)) [(.leaf (.cmp .eq (.callp "_law_draw" 0 [(.con (.int 4))]) (.con (.int 0))))] [7]))]))]
def f_law_case : Fn := ⟨true, false, 2, 9, b_law_case, []⟩
def b_law_odd : List Sm := [(.set 1 (.lst [(.con .none), (.con (.bool true)), (.con (.bool false)), (.neg (.con (.int 1))), (.con (.int 0)), (.con (.int 1)), (.con (.int 51)), (.con (.int 201)), (.bin .pow (.con (.int 10)) (.con (.int 11))), (.con (.str ""))])),
    (.set 1 (.bin .add (.var 1) (.lst [(.con (.str "both")), (.con (.str "place")), (.tup []), (.lst []), .dct0, (.tup [(.con (.int 0))]), (.lst [(.con (.int 0))]), (.tup [(.con (.int 0)), (.con (.int 1))]), (.tup [(.con (.int 2)), (.con (.int 4))])]))),
    (.ret (.ix (.var 1) (.callp "_law_draw" 0 [(.con (.int 19))])))]
def f_law_odd : Fn := ⟨true, false, 1, 2, b_law_odd, []⟩
def b_law_bent : List Sm := [(.set 2 (.callp "_law_draw" 0 [(.con (.int 8))])),
    (.ite (.or (.not (.leaf (.b1 (.isi .tuple) (.var 1)))) (.or (.leaf (.cmp .eq (.var 1) (.tup []))) (.leaf (.cmp .eq (.var 2) (.con (.int 0)))))) [(.set 3 (.ite (.and (.leaf (.b1 (.isi .int) (.var 1))) (.not (.leaf (.b1 (.isi .bool) (.var 1))))) (.lst [(.bin .add (.var 1) (.con (.int 1))), (.bin .sub (.var 1) (.con (.int 1))), (.cmp .eq (.var 1) (.con (.int 1)))]) (.lst []))),
    (.ret (.ix (.bin .add (.var 3) (.repl [(.callp "_law_odd" 0 [])] (.con (.int 2)))) (.callp "_law_draw" 0 [(.bin .add (.con (.int 2)) (.b1 .len (.var 3)))])))] []),
    (.set 4 (.callp "_law_draw" 0 [(.b1 .len (.var 1))])),
    (.ite (.leaf (.cmp .lt (.var 2) (.con (.int 5)))) [(.ret (.bin .add (.bin .add (.sl (.var 1) none (some (.var 4))) (.tup [(.callp "_law_bent" 0 [(.ix (.var 1) (.var 4))])])) (.sl (.var 1) (some (.bin .add (.var 4) (.con (.int 1)))) none)))] []),
    (.ret (.ix (.lst [(.bin .add (.sl (.var 1) none (some (.var 4))) (.sl (.var 1) (some (.bin .add (.var 4) (.con (.int 1)))) none)), (.b1 .list (.var 1)), (.bin .add (.var 1) (.sl (.var 1) (some (.var 4)) (some (.bin .add (.var 4) (.con (.int 1))))))]) (.bin .sub (.var 2) (.con (.int 5)))))]
def f_law_bent : Fn := ⟨true, false, 2, 5, b_law_bent, []⟩
def b_law_number : List Sm := [(.ret (.and (.b1 (.isi .int) (.var 0)) (.and (.not (.b1 (.isi .bool) (.var 0))) (.chain .le .le (.var 1) (.var 0) (.var 2)))))]
def f_law_number : Fn := ⟨false, false, 3, 3, b_law_number, []⟩
def b_law_is_part : List Sm := [(.ite (.or (.not (.leaf (.b1 (.isi .tuple) (.var 0)))) (.leaf (.cmp .ne (.b1 .len (.var 0)) (.con (.int 2))))) [(.ret (.con (.bool false)))] []),
    (.ite (.or (.not (.leaf (.b1 .all (.comp (.and (.b1 (.isi .int) (.var 2)) (.not (.b1 (.isi .bool) (.var 2)))) (.name 2) (.seq (.var 0)) [] [2])))) (.leaf (.cmp .lt (.ix (.var 0) (.con (.int 1))) (.con (.int 1))))) [(.ret (.con (.bool false)))] []),
    (.ret (.and (.cmp .eq (.call "_law_low" [(.ix (.var 0) (.con (.int 0))), (.ix (.var 0) (.con (.int 1)))]) (.var 0)) (.chain .le .le (.con (.int 0)) (.ix (.var 0) (.con (.int 0))) (.bin .mul (.var 1) (.ix (.var 0) (.con (.int 1)))))))]
def f_law_is_part : Fn := ⟨false, false, 2, 3, b_law_is_part, []⟩
def b_law_is_case : List Sm := [(.ite (.or (.not (.leaf (.b1 (.isi .tuple) (.var 1)))) (.or (.leaf (.cmp .ne (.b1 .len (.var 1)) (.con (.int 3)))) (.not (.leaf (.b1 .all (.comp (.b1 (.isi .tuple) (.var 2)) (.name 2) (.seq (.var 1)) [] [2])))))) [(.ret (.con (.bool false)))] []),
    (.unp [(.name 3), (.name 4), (.name 5)] (.var 1)),
    (.ite (.or (.leaf (.cmp .ne (.b1 .len (.var 3)) (.b1 .len (.ix (.var 0) (.con (.int 0)))))) (.not (.leaf (.b1 .all (.comp (.call "_law_is_part" [(.var 2), (.con (.int 50))]) (.name 2) (.seq (.var 3)) [] [2]))))) [(.ret (.con (.bool false)))] []),
    (.ite (.leaf (.cmp .ne (.comp (.var 2) (.tup [(.name 2), (.name 6)]) (.zip (.var 3) (.ix (.var 0) (.con (.int 0)))) [(.and (.leaf (.cmp .ne (.ix (.var 6) (.con (.int 0))) (.con (.str "place")))) (.leaf (.cmp .ne (.var 2) (.tup [(.con (.int 0)), (.con (.int 1))]))))] [2, 6]) (.lst []))) [(.ret (.con (.bool false)))] []),
    (.set 7 (.comp (.ix (.var 6) (.con (.int 3))) (.name 6) (.seq (.ix (.var 0) (.con (.int 0)))) [(.leaf (.cmp .eq (.ix (.var 6) (.con (.int 0))) (.con (.str "tank"))))] [6])),
    (.ite (.or (.leaf (.cmp .ne (.b1 .len (.var 4)) (.b1 .len (.var 7)))) (.not (.leaf (.b1 .all (.comp (.call "_law_is_part" [(.var 2), (.var 8)]) (.tup [(.name 2), (.name 8)]) (.zip (.var 4) (.var 7)) [] [2, 8]))))) [(.ret (.con (.bool false)))] []),
    (.for_ (.name 9) (.seq (.var 5)) [(.ite (.not (.leaf (.call "_law_number" [(.var 9), (.con (.int 0)), (.bin .sub (.b1 .len (.ix (.var 0) (.con (.int 1)))) (.con (.int 1)))]))) [(.ret (.con (.bool false)))] []),
    (.ite (.and (.not (.leaf (.ix (.ix (.ix (.var 0) (.con (.int 1))) (.var 9)) (.con (.int 5))))) (.leaf (.cmp .eq (.ix (.ix (.ix (.var 0) (.con (.int 1))) (.var 9)) (.con (.int 4))) (.con (.int 0))))) [(.ret (.con (.bool false)))] [])]),
    (.ret (.cmp .eq (.b1 .list (.var 5)) (.srs (.var 5))))]
def f_law_is_case : Fn := ⟨false, false, 2, 10, b_law_is_case, []⟩
def b_law_near : List Sm := [(.unp [(.name 3), (.name 4), (.name 5)] (.var 2)),
    (.paro [6, 7] [false, true] [(.callp "_law_draw" 0 [(.b1 .len (.var 3))]), (.lst [])]),
    (.for_ (.name 8) (.seq (.lst [(.tup [(.con (.int 50)), (.con (.int 1))]), (.tup [(.con (.int 51)), (.con (.int 1))]), (.tup [(.con (.int 101)), (.con (.int 2))]), (.tup [(.neg (.con (.int 1))), (.con (.int 2))]), (.tup [(.con (.int 2)), (.con (.int 4))]), (.tup [(.con (.int 0)), (.con (.int 2))]), (.con (.int 5)), (.con .none), (.lst [(.con (.int 0)), (.con (.int 1))]), (.tup [(.con (.bool true)), (.con (.int 1))])])) [(.app 7 (.tup [(.bin .add (.bin .add (.sl (.var 3) none (some (.var 6))) (.tup [(.var 8)])) (.sl (.var 3) (some (.bin .add (.var 6) (.con (.int 1)))) none)), (.var 4), (.var 5)]))]),
    (.for_ (.tup [(.name 6), (.name 9)]) (.enum (.comp (.var 9) (.name 9) (.seq (.ix (.var 1) (.con (.int 0)))) [(.leaf (.cmp .eq (.ix (.var 9) (.con (.int 0))) (.con (.str "tank"))))] [9])) [(.for_ (.name 8) (.seq (.lst [(.tup [(.ix (.var 9) (.con (.int 3))), (.con (.int 1))]), (.tup [(.bin .add (.ix (.var 9) (.con (.int 3))) (.con (.int 1))), (.con (.int 1))]), (.tup [(.bin .add (.bin .mul (.con (.int 2)) (.ix (.var 9) (.con (.int 3)))) (.con (.int 1))), (.con (.int 2))]), (.tup [(.neg (.con (.int 1))), (.con (.int 3))]), (.tup [(.con (.int 0)), (.con (.int 1))]), (.con (.int 0))])) [(.app 7 (.tup [(.var 3), (.bin .add (.bin .add (.sl (.var 4) none (some (.var 6))) (.tup [(.var 8)])) (.sl (.var 4) (some (.bin .add (.var 6) (.con (.int 1)))) none)), (.var 5)]))])]),
    (.for_ (.name 10) (.rng2 (.neg (.con (.int 1))) (.bin .add (.b1 .len (.ix (.var 1) (.con (.int 1)))) (.con (.int 1)))) [(.seto 7 (.bin .add (.var 7) (.lst [(.tup [(.var 3), (.var 4), (.tup [(.var 10)])]), (.tup [(.var 3), (.var 4), (.tup [(.con (.int 0)), (.var 10)])])]))),
    (.seto 7 (.bin .add (.var 7) (.lst [(.tup [(.var 3), (.var 4), (.tup [(.var 10), (.var 10)])])])))]),
    (.ret (.bin .add (.var 7) (.lst [(.tup [(.var 3), (.bin .add (.var 4) (.tup [(.tup [(.con (.int 0)), (.con (.int 1))])])), (.var 5)]), (.tup [(.bin .add (.var 3) (.tup [(.tup [(.con (.int 0)), (.con (.int 1))])])), (.var 4), (.var 5)]), (.tup [(.sl (.var 3) (some (.con (.int 1))) none), (.var 4), (.var 5)])])))]
def f_law_near : Fn := ⟨true, false, 3, 11, b_law_near, []⟩
def b_law : List Sm := [(.for_ (.name 1) (.seq (.bin .add (.lst [(.call "_law_cell_at" [(.var 0), (.con (.int 0))])]) (.sl (.var 0) (some (.con (.int 1))) (some (.con (.int 3)))))) [(.seto 2 (.call "_law_pen_of" [(.var 1)])),
    (.set 3 (.callp "_law_net" 2 [(.con (.int 7))])),
    (.set 4 (.callp "_law_case" 2 [(.var 3)])),
    (.ite (.leaf (.cmp .notN (.call "is_case" [(.var 3), (.var 4)]) (.con (.bool true)))) [(.ret (.con (.bool false)))] []),
    (.set 5 (.bin .add (.lst [(.callp "_law_odd" 2 []), (.b1 .list (.var 4)), (.bin .add (.var 4) (.tup [(.tup [])])), (.callp "_law_case" 2 [(.callp "_law_net" 2 [(.con (.int 4))])])]) (.callp "_law_near" 2 [(.var 3), (.var 4)]))),
    (.for_ (.name 6) (.seq (.bin .add (.var 5) (.comp (.callp "_law_bent" 2 [(.var 4)]) (.name 7) (.rng1 (.con (.int 12))) [] [7]))) [(.par [8, 9] [(.b1 .repr (.var 6)), (.call "_law_is_case" [(.var 3), (.var 6)])]),
    (.ite (.or (.leaf (.cmp .ne (.b1 .repr (.comp (.call "is_case" [(.var 3), (.var 6)]) (.name 10) (.rng1 (.con (.int 2))) [] [10])) (.b1 .repr (.lst [(.var 9), (.var 9)])))) (.leaf (.cmp .ne (.b1 .repr (.var 6)) (.var 8)))) [(.ret (.con (.bool false)))] [])]),
    (.for_ (.name 11) (.seq (.lst [(.con .none), (.tup []), (.sl (.var 3) none (some (.con (.int 1)))), (.b1 .list (.var 3)), (.tup [(.ix (.var 3) (.con (.int 0))), (.tup [])]), (.tup [(.bin .mul (.ix (.var 3) (.con (.int 0))) (.con (.int 4))), (.ix (.var 3) (.con (.int 1)))]), (.var 4)])) [(.ite (.leaf (.cmp .ne (.said "_law_said" [("NoNet", (.tuple [(.str "net")]))] "is_case" [(.var 11), (.con .none)]) (.tup [(.con (.str "net"))]))) [(.ret (.con (.bool false)))] [])])]),
    (.ret (.con (.bool true)))]
def f_law : Fn := ⟨false, false, 1, 12, b_law, []⟩
def tab : List (Str × Fn) := [(Str.ofString "is_whole", f_is_whole), (Str.ofString "common", f_common), (Str.ofString "is_fraction", f_is_fraction), (Str.ofString "is_between", f_is_between), (Str.ofString "is_number", f_is_number), (Str.ofString "is_place_joint", f_is_place_joint), (Str.ofString "is_joint", f_is_joint), (Str.ofString "is_pipe", f_is_pipe), (Str.ofString "is_net", f_is_net), (Str.ofString "need_net", f_need_net), (Str.ofString "tanks_of", f_tanks_of), (Str.ofString "is_pump", f_is_pump), (Str.ofString "can_shut", f_can_shut), (Str.ofString "are_rising", f_are_rising), (Str.ofString "are_asked", f_are_asked), (Str.ofString "are_levels_of", f_are_levels_of), (Str.ofString "are_shut", f_are_shut), (Str.ofString "is_case_of", f_is_case_of), (Str.ofString "is_case", f_is_case), (Str.ofString "_law_cell_at", f_law_cell_at), (Str.ofString "_law_next", f_law_next), (Str.ofString "_law_pen_of", f_law_pen_of), (Str.ofString "_law_draw", f_law_draw), (Str.ofString "_law_low", f_law_low), (Str.ofString "_law_joint", f_law_joint), (Str.ofString "_law_net", f_law_net), (Str.ofString "_law_case", f_law_case), (Str.ofString "_law_odd", f_law_odd), (Str.ofString "_law_bent", f_law_bent), (Str.ofString "_law_number", f_law_number), (Str.ofString "_law_is_part", f_law_is_part), (Str.ofString "_law_is_case", f_law_is_case), (Str.ofString "_law_near", f_law_near), (Str.ofString "law", f_law)]
/-! ### the text -/
def topS (i : Nat) : Stmt := PySem.Challenge.pw_waterheads_k04_cases_known.main.body.getD i (.Pass ⟨0, 0, 0, 0⟩)
theorem sc_is_whole : FnScope ["thing"] ["thing"] (defScope (topS 21)) := ⟨rfl, rfl, rfl, by decide +kernel, rfl, by decide +kernel, by decide +kernel⟩
theorem tr_is_whole : trBody ⟨["thing"], defScope (topS 21), defScope (topS 21), [], penTab tab, frTab tab, kwTab tab, true, fun _ _ => none, fun _ => none, clL⟩ false (defBody (topS 21)) = some b_is_whole := by kernel_rfl
theorem sc_common : FnScope ["one", "other"] ["one", "other"] (defScope (topS 22)) := ⟨rfl, rfl, rfl, by decide +kernel, rfl, by decide +kernel, by decide +kernel⟩
theorem tr_common : trBody ⟨["one", "other"], defScope (topS 22), defScope (topS 22), [], penTab tab, frTab tab, kwTab tab, true, fun _ _ => none, fun _ => none, clL⟩ false (defBody (topS 22)) = some b_common := by kernel_rfl
theorem sc_is_fraction : FnScope ["thing", "one"] ["thing"] (defScope (topS 23)) := ⟨rfl, rfl, rfl, by decide +kernel, rfl, by decide +kernel, by decide +kernel⟩
theorem tr_is_fraction : trBody ⟨["thing", "one"], defScope (topS 23), defScope (topS 23), [], penTab tab, frTab tab, kwTab tab, true, fun _ _ => none, fun _ => none, clL⟩ false (defBody (topS 23)) = some b_is_fraction := by kernel_rfl
theorem sc_is_between : FnScope ["thing", "low", "high"] ["thing", "low", "high"] (defScope (topS 24)) := ⟨rfl, rfl, rfl, by decide +kernel, rfl, by decide +kernel, by decide +kernel⟩
theorem tr_is_between : trBody ⟨["thing", "low", "high"], defScope (topS 24), defScope (topS 24), [], penTab tab, frTab tab, kwTab tab, true, fun _ _ => none, fun _ => none, clL⟩ false (defBody (topS 24)) = some b_is_between := by kernel_rfl
theorem sc_is_number : FnScope ["thing", "low", "high"] ["thing", "low", "high"] (defScope (topS 36)) := ⟨rfl, rfl, rfl, by decide +kernel, rfl, by decide +kernel, by decide +kernel⟩
theorem tr_is_number : trBody ⟨["thing", "low", "high"], defScope (topS 36), defScope (topS 36), [], penTab tab, frTab tab, kwTab tab, true, fun _ _ => none, fun _ => none, clL⟩ false (defBody (topS 36)) = some b_is_number := by kernel_rfl
theorem sc_is_place_joint : FnScope ["thing", "word", "height", "least", "most"] ["thing"] (defScope (topS 37)) := ⟨rfl, rfl, rfl, by decide +kernel, rfl, by decide +kernel, by decide +kernel⟩
theorem tr_is_place_joint : trBody ⟨["thing", "word", "height", "least", "most"], defScope (topS 37), defScope (topS 37), [], penTab tab, frTab tab, kwTab tab, true, fun _ _ => none, fun _ => none, clL⟩ false (defBody (topS 37)) = some b_is_place_joint := by kernel_rfl
theorem sc_is_joint : FnScope ["thing", "bounds", "one", "low", "high"] ["thing"] (defScope (topS 38)) := ⟨rfl, rfl, rfl, by decide +kernel, rfl, by decide +kernel, by decide +kernel⟩
theorem tr_is_joint : trBody ⟨["thing", "bounds", "one", "low", "high"], defScope (topS 38), defScope (topS 38), [], penTab tab, frTab tab, kwTab tab, true, fun _ _ => none, fun _ => none, clL⟩ false (defBody (topS 38)) = some b_is_joint := by kernel_rfl
theorem sc_is_pipe : FnScope ["many", "thing", "one", "other", "factor", "way", "lift", "gate", "volume"] ["many", "thing"] (defScope (topS 39)) := ⟨rfl, rfl, rfl, by decide +kernel, rfl, by decide +kernel, by decide +kernel⟩
theorem tr_is_pipe : trBody ⟨["many", "thing", "one", "other", "factor", "way", "lift", "gate", "volume"], defScope (topS 39), defScope (topS 39), [], penTab tab, frTab tab, kwTab tab, true, fun _ _ => none, fun _ => none, clL⟩ false (defBody (topS 39)) = some b_is_pipe := by kernel_rfl
theorem sc_is_net : FnScope ["thing", "one", "joints", "pipes", "joint", "pipe"] ["thing"] (defScope (topS 40)) := ⟨rfl, rfl, rfl, by decide +kernel, rfl, by decide +kernel, by decide +kernel⟩
theorem tr_is_net : trBody ⟨["thing", "one", "joints", "pipes", "joint", "pipe"], defScope (topS 40), defScope (topS 40), [], penTab tab, frTab tab, kwTab tab, true, fun _ _ => none, fun _ => none, clL⟩ false (defBody (topS 40)) = some b_is_net := by kernel_rfl
theorem sc_need_net : FnScope ["thing"] ["thing"] (defScope (topS 41)) := ⟨rfl, rfl, rfl, by decide +kernel, rfl, by decide +kernel, by decide +kernel⟩
theorem tr_need_net : trBody ⟨["thing"], defScope (topS 41), defScope (topS 41), [], penTab tab, frTab tab, kwTab tab, true, fun _ _ => none, fun _ => none, clL⟩ false (defBody (topS 41)) = some b_need_net := by kernel_rfl
theorem sc_tanks_of : FnScope ["net", "joint"] ["net"] (defScope (topS 42)) := ⟨rfl, rfl, rfl, by decide +kernel, rfl, by decide +kernel, by decide +kernel⟩
theorem tr_tanks_of : trBody ⟨["net", "joint"], defScope (topS 42), defScope (topS 42), [], penTab tab, frTab tab, kwTab tab, true, fun _ _ => none, fun _ => none, clL⟩ false (defBody (topS 42)) = some b_tanks_of := by kernel_rfl
theorem sc_is_pump : FnScope ["net", "pipe"] ["net", "pipe"] (defScope (topS 43)) := ⟨rfl, rfl, rfl, by decide +kernel, rfl, by decide +kernel, by decide +kernel⟩
theorem tr_is_pump : trBody ⟨["net", "pipe"], defScope (topS 43), defScope (topS 43), [], penTab tab, frTab tab, kwTab tab, true, fun _ _ => none, fun _ => none, clL⟩ false (defBody (topS 43)) = some b_is_pump := by kernel_rfl
theorem sc_can_shut : FnScope ["net", "thing"] ["net", "thing"] (defScope (topS 44)) := ⟨rfl, rfl, rfl, by decide +kernel, rfl, by decide +kernel, by decide +kernel⟩
theorem tr_can_shut : trBody ⟨["net", "thing"], defScope (topS 44), defScope (topS 44), [], penTab tab, frTab tab, kwTab tab, true, fun _ _ => none, fun _ => none, clL⟩ false (defBody (topS 44)) = some b_can_shut := by kernel_rfl
theorem sc_are_rising : FnScope ["some", "one", "other"] ["some"] (defScope (topS 45)) := ⟨rfl, rfl, rfl, by decide +kernel, rfl, by decide +kernel, by decide +kernel⟩
theorem tr_are_rising : trBody ⟨["some", "one", "other"], defScope (topS 45), defScope (topS 45), [], penTab tab, frTab tab, kwTab tab, true, fun _ _ => none, fun _ => none, clL⟩ false (defBody (topS 45)) = some b_are_rising := by kernel_rfl
theorem sc_are_asked : FnScope ["net", "thing", "one", "joint"] ["net", "thing"] (defScope (topS 46)) := ⟨rfl, rfl, rfl, by decide +kernel, rfl, by decide +kernel, by decide +kernel⟩
theorem tr_are_asked : trBody ⟨["net", "thing", "one", "joint"], defScope (topS 46), defScope (topS 46), [], penTab tab, frTab tab, kwTab tab, true, fun _ _ => none, fun _ => none, clL⟩ false (defBody (topS 46)) = some b_are_asked := by kernel_rfl
theorem sc_are_levels_of : FnScope ["net", "thing", "tanks", "one", "joint"] ["net", "thing"] (defScope (topS 47)) := ⟨rfl, rfl, rfl, by decide +kernel, rfl, by decide +kernel, by decide +kernel⟩
theorem tr_are_levels_of : trBody ⟨["net", "thing", "tanks", "one", "joint"], defScope (topS 47), defScope (topS 47), [], penTab tab, frTab tab, kwTab tab, true, fun _ _ => none, fun _ => none, clL⟩ false (defBody (topS 47)) = some b_are_levels_of := by kernel_rfl
theorem sc_are_shut : FnScope ["net", "thing", "one"] ["net", "thing"] (defScope (topS 48)) := ⟨rfl, rfl, rfl, by decide +kernel, rfl, by decide +kernel, by decide +kernel⟩
theorem tr_are_shut : trBody ⟨["net", "thing", "one"], defScope (topS 48), defScope (topS 48), [], penTab tab, frTab tab, kwTab tab, true, fun _ _ => none, fun _ => none, clL⟩ false (defBody (topS 48)) = some b_are_shut := by kernel_rfl
theorem sc_is_case_of : FnScope ["net", "thing"] ["net", "thing"] (defScope (topS 49)) := ⟨rfl, rfl, rfl, by decide +kernel, rfl, by decide +kernel, by decide +kernel⟩
theorem tr_is_case_of : trBody ⟨["net", "thing"], defScope (topS 49), defScope (topS 49), [], penTab tab, frTab tab, kwTab tab, true, fun _ _ => none, fun _ => none, clL⟩ false (defBody (topS 49)) = some b_is_case_of := by kernel_rfl
theorem sc_is_case : FnScope ["net", "thing"] ["net", "thing"] (defScope (topS 50)) := ⟨rfl, rfl, rfl, by decide +kernel, rfl, by decide +kernel, by decide +kernel⟩
theorem tr_is_case : trBody ⟨["net", "thing"], defScope (topS 50), defScope (topS 50), [], penTab tab, frTab tab, kwTab tab, true, fun _ _ => none, fun _ => none, clL⟩ false (defBody (topS 50)) = some b_is_case := by kernel_rfl
theorem sc_law_cell_at : FnScope ["_law_script", "_law_k"] ["_law_script", "_law_k"] (defScope (topS 52)) := ⟨rfl, rfl, rfl, by decide +kernel, rfl, by decide +kernel, by decide +kernel⟩
theorem tr_law_cell_at : trBody ⟨["_law_script", "_law_k"], defScope (topS 52), defScope (topS 52), [], penTab tab, frTab tab, kwTab tab, true, fun _ _ => none, fun _ => none, clL⟩ false (defBody (topS 52)) = some b_law_cell_at := by kernel_rfl
theorem sc_law_next : FnScope ["_law_one"] ["_law_one"] (defScope (topS 53)) := ⟨rfl, rfl, rfl, by decide +kernel, rfl, by decide +kernel, by decide +kernel⟩
theorem tr_law_next : trBody ⟨["_law_one"], defScope (topS 53), defScope (topS 53), [], penTab tab, frTab tab, kwTab tab, true, fun _ _ => none, fun _ => none, clL⟩ false (defBody (topS 53)) = some b_law_next := by kernel_rfl
theorem sc_law_pen_of : FnScope ["_law_cell", "_law_left"] ["_law_cell"] (defScope (topS 54)) := ⟨rfl, rfl, rfl, by decide +kernel, rfl, by decide +kernel, by decide +kernel⟩
theorem tr_law_pen_of : trBody ⟨["_law_cell", "_law_left"], defScope (topS 54), defScope (topS 54), [], penTab tab, frTab tab, kwTab tab, true, fun _ _ => none, fun _ => none, clL⟩ true (defBody (topS 54)) = some b_law_pen_of := by kernel_rfl
theorem sc_law_draw : FnScope ["_law_pen", "_law_many", "_law_found"] ["_law_pen", "_law_many"] (defScope (topS 55)) := ⟨rfl, rfl, rfl, by decide +kernel, rfl, by decide +kernel, by decide +kernel⟩
theorem tr_law_draw : trBody ⟨["_law_pen", "_law_many", "_law_found"], defScope (topS 55), defScope (topS 55), [0], penTab tab, frTab tab, kwTab tab, true, fun _ _ => none, fun _ => none, clL⟩ false (defBody (topS 55)) = some b_law_draw := by kernel_rfl
theorem sc_law_low : FnScope ["_law_top", "_law_bottom", "_law_one", "_law_two"] ["_law_top", "_law_bottom"] (defScope (topS 56)) := ⟨rfl, rfl, rfl, by decide +kernel, rfl, by decide +kernel, by decide +kernel⟩
theorem tr_law_low : trBody ⟨["_law_top", "_law_bottom", "_law_one", "_law_two"], defScope (topS 56), defScope (topS 56), [], penTab tab, frTab tab, kwTab tab, true, fun _ _ => none, fun _ => none, clL⟩ false (defBody (topS 56)) = some b_law_low := by kernel_rfl
theorem sc_law_joint : FnScope ["_law_pen", "_law_way", "_law_least"] ["_law_pen"] (defScope (topS 57)) := ⟨rfl, rfl, rfl, by decide +kernel, rfl, by decide +kernel, by decide +kernel⟩
theorem tr_law_joint : trBody ⟨["_law_pen", "_law_way", "_law_least"], defScope (topS 57), defScope (topS 57), [0], penTab tab, frTab tab, kwTab tab, true, fun _ _ => none, fun _ => none, clL⟩ false (defBody (topS 57)) = some b_law_joint := by kernel_rfl
theorem sc_law_net : FnScope ["_law_pen", "_law_most", "_law_first", "_law_joints", "_law_turn", "_law_pipes", "_law_goes", "_law_one", "_law_step", "_law_way", "_law_lift", "_law_ends"] ["_law_pen", "_law_most"] (defScope (topS 58)) := ⟨rfl, rfl, rfl, by decide +kernel, rfl, by decide +kernel, by decide +kernel⟩
theorem tr_law_net : trBody ⟨["_law_pen", "_law_most", "_law_first", "_law_joints", "_law_turn", "_law_pipes", "_law_goes", "_law_one", "_law_step", "_law_way", "_law_lift", "_law_ends"], defScope (topS 58), defScope (topS 58), [0, 5], penTab tab, frTab tab, kwTab tab, true, fun _ _ => none, fun _ => none, clL⟩ false (defBody (topS 58)) = some b_law_net := by kernel_rfl
theorem sc_law_case : FnScope ["_law_pen", "_law_net_here", "_law_asked", "_law_levels", "_law_joint_here", "_law_amount", "_law_can", "_law_number_here", "_law_pipe"] ["_law_pen", "_law_net_here"] (defScope (topS 59)) := ⟨rfl, rfl, rfl, by decide +kernel, rfl, by decide +kernel, by decide +kernel⟩
theorem tr_law_case : trBody ⟨["_law_pen", "_law_net_here", "_law_asked", "_law_levels", "_law_joint_here", "_law_amount", "_law_can", "_law_number_here", "_law_pipe"], defScope (topS 59), defScope (topS 59), [0, 2, 3], penTab tab, frTab tab, kwTab tab, true, fun _ _ => none, fun _ => none, clL⟩ false (defBody (topS 59)) = some b_law_case := by kernel_rfl
theorem sc_law_odd : FnScope ["_law_pen", "_law_some"] ["_law_pen"] (defScope (topS 60)) := ⟨rfl, rfl, rfl, by decide +kernel, rfl, by decide +kernel, by decide +kernel⟩
theorem tr_law_odd : trBody ⟨["_law_pen", "_law_some"], defScope (topS 60), defScope (topS 60), [0], penTab tab, frTab tab, kwTab tab, true, fun _ _ => none, fun _ => none, clL⟩ false (defBody (topS 60)) = some b_law_odd := by kernel_rfl
theorem sc_law_bent : FnScope ["_law_pen", "_law_thing", "_law_way", "_law_near_here", "_law_at"] ["_law_pen", "_law_thing"] (defScope (topS 61)) := ⟨rfl, rfl, rfl, by decide +kernel, rfl, by decide +kernel, by decide +kernel⟩
theorem tr_law_bent : trBody ⟨["_law_pen", "_law_thing", "_law_way", "_law_near_here", "_law_at"], defScope (topS 61), defScope (topS 61), [0], penTab tab, frTab tab, kwTab tab, true, fun _ _ => none, fun _ => none, clL⟩ false (defBody (topS 61)) = some b_law_bent := by kernel_rfl
theorem sc_law_number : FnScope ["_law_thing", "_law_low_here", "_law_high"] ["_law_thing", "_law_low_here", "_law_high"] (defScope (topS 62)) := ⟨rfl, rfl, rfl, by decide +kernel, rfl, by decide +kernel, by decide +kernel⟩
theorem tr_law_number : trBody ⟨["_law_thing", "_law_low_here", "_law_high"], defScope (topS 62), defScope (topS 62), [], penTab tab, frTab tab, kwTab tab, true, fun _ _ => none, fun _ => none, clL⟩ false (defBody (topS 62)) = some b_law_number := by kernel_rfl
theorem sc_law_is_part : FnScope ["_law_thing", "_law_most", "_law_one"] ["_law_thing", "_law_most"] (defScope (topS 63)) := ⟨rfl, rfl, rfl, by decide +kernel, rfl, by decide +kernel, by decide +kernel⟩
theorem tr_law_is_part : trBody ⟨["_law_thing", "_law_most", "_law_one"], defScope (topS 63), defScope (topS 63), [], penTab tab, frTab tab, kwTab tab, true, fun _ _ => none, fun _ => none, clL⟩ false (defBody (topS 63)) = some b_law_is_part := by kernel_rfl
theorem sc_law_is_case : FnScope ["_law_net_here", "_law_thing", "_law_one", "_law_asked", "_law_levels", "_law_shut", "_law_joint_here", "_law_tops", "_law_top", "_law_number_here"] ["_law_net_here", "_law_thing"] (defScope (topS 64)) := ⟨rfl, rfl, rfl, by decide +kernel, rfl, by decide +kernel, by decide +kernel⟩
theorem tr_law_is_case : trBody ⟨["_law_net_here", "_law_thing", "_law_one", "_law_asked", "_law_levels", "_law_shut", "_law_joint_here", "_law_tops", "_law_top", "_law_number_here"], defScope (topS 64), defScope (topS 64), [], penTab tab, frTab tab, kwTab tab, true, fun _ _ => none, fun _ => none, clL⟩ false (defBody (topS 64)) = some b_law_is_case := by kernel_rfl
theorem sc_law_near : FnScope ["_law_pen", "_law_net_here", "_law_case_here", "_law_asked", "_law_levels", "_law_shut", "_law_at", "_law_found", "_law_one", "_law_joint_here", "_law_number_here"] ["_law_pen", "_law_net_here", "_law_case_here"] (defScope (topS 66)) := ⟨rfl, rfl, rfl, by decide +kernel, rfl, by decide +kernel, by decide +kernel⟩
theorem tr_law_near : trBody ⟨["_law_pen", "_law_net_here", "_law_case_here", "_law_asked", "_law_levels", "_law_shut", "_law_at", "_law_found", "_law_one", "_law_joint_here", "_law_number_here"], defScope (topS 66), defScope (topS 66), [0, 7], penTab tab, frTab tab, kwTab tab, true, fun _ _ => none, fun _ => none, clL⟩ false (defBody (topS 66)) = some b_law_near := by kernel_rfl
theorem sc_law : FnScope ["_law_script", "_law_cell", "_law_pen", "_law_net_here", "_law_case_here", "_law_things", "_law_thing", "_law_turn", "_law_kept", "_law_due", "_law_lap", "_law_bad"] ["_law_script"] (defScope (topS 67)) := ⟨rfl, rfl, rfl, by decide +kernel, rfl, by decide +kernel, by decide +kernel⟩
theorem tr_law : trBody ⟨["_law_script", "_law_cell", "_law_pen", "_law_net_here", "_law_case_here", "_law_things", "_law_thing", "_law_turn", "_law_kept", "_law_due", "_law_lap", "_law_bad"], defScope (topS 67), defScope (topS 67), [2], penTab tab, frTab tab, kwTab tab, true, fun _ _ => none, sdF, clL⟩ false (defBody (topS 67)) = some b_law := by kernel_rfl
theorem ex_SI : ∃ X, X = semI glob FU tab := ⟨_, rfl⟩
noncomputable def SI := Classical.choose ex_SI
theorem SI_eq : SI = semI glob FU tab := Classical.choose_spec ex_SI
noncomputable def CI (k : Nat) := (SI k).1
noncomputable def XI (k : Nat) := (SI k).2
theorem CI_eq : CI = callI glob FU tab := by funext k; unfold CI callI; rw [SI_eq]
theorem u_is_whole (k : Nat) (p : Option (List PyData)) (xs : List PyData) : CI (k + 1) "is_whole" p xs = runF ⟨CI k, glob, FU, XI k⟩ f_is_whole p xs := by unfold CI XI; rw [SI_eq]; kernel_rfl
theorem x_is_whole (k : Nat) (xs : List PyData) : XI (k + 1) "is_whole" xs = runX ⟨CI k, glob, FU, XI k⟩ f_is_whole xs := by unfold CI XI; rw [SI_eq]; kernel_rfl
theorem u_common (k : Nat) (p : Option (List PyData)) (xs : List PyData) : CI (k + 1) "common" p xs = runF ⟨CI k, glob, FU, XI k⟩ f_common p xs := by unfold CI XI; rw [SI_eq]; kernel_rfl
theorem x_common (k : Nat) (xs : List PyData) : XI (k + 1) "common" xs = runX ⟨CI k, glob, FU, XI k⟩ f_common xs := by unfold CI XI; rw [SI_eq]; kernel_rfl
theorem u_is_fraction (k : Nat) (p : Option (List PyData)) (xs : List PyData) : CI (k + 1) "is_fraction" p xs = runF ⟨CI k, glob, FU, XI k⟩ f_is_fraction p xs := by unfold CI XI; rw [SI_eq]; kernel_rfl
theorem x_is_fraction (k : Nat) (xs : List PyData) : XI (k + 1) "is_fraction" xs = runX ⟨CI k, glob, FU, XI k⟩ f_is_fraction xs := by unfold CI XI; rw [SI_eq]; kernel_rfl
theorem u_is_between (k : Nat) (p : Option (List PyData)) (xs : List PyData) : CI (k + 1) "is_between" p xs = runF ⟨CI k, glob, FU, XI k⟩ f_is_between p xs := by unfold CI XI; rw [SI_eq]; kernel_rfl
theorem x_is_between (k : Nat) (xs : List PyData) : XI (k + 1) "is_between" xs = runX ⟨CI k, glob, FU, XI k⟩ f_is_between xs := by unfold CI XI; rw [SI_eq]; kernel_rfl
theorem u_is_number (k : Nat) (p : Option (List PyData)) (xs : List PyData) : CI (k + 1) "is_number" p xs = runF ⟨CI k, glob, FU, XI k⟩ f_is_number p xs := by unfold CI XI; rw [SI_eq]; kernel_rfl
theorem x_is_number (k : Nat) (xs : List PyData) : XI (k + 1) "is_number" xs = runX ⟨CI k, glob, FU, XI k⟩ f_is_number xs := by unfold CI XI; rw [SI_eq]; kernel_rfl
theorem u_is_place_joint (k : Nat) (p : Option (List PyData)) (xs : List PyData) : CI (k + 1) "is_place_joint" p xs = runF ⟨CI k, glob, FU, XI k⟩ f_is_place_joint p xs := by unfold CI XI; rw [SI_eq]; kernel_rfl
theorem x_is_place_joint (k : Nat) (xs : List PyData) : XI (k + 1) "is_place_joint" xs = runX ⟨CI k, glob, FU, XI k⟩ f_is_place_joint xs := by unfold CI XI; rw [SI_eq]; kernel_rfl
theorem u_is_joint (k : Nat) (p : Option (List PyData)) (xs : List PyData) : CI (k + 1) "is_joint" p xs = runF ⟨CI k, glob, FU, XI k⟩ f_is_joint p xs := by unfold CI XI; rw [SI_eq]; kernel_rfl
theorem x_is_joint (k : Nat) (xs : List PyData) : XI (k + 1) "is_joint" xs = runX ⟨CI k, glob, FU, XI k⟩ f_is_joint xs := by unfold CI XI; rw [SI_eq]; kernel_rfl
theorem u_is_pipe (k : Nat) (p : Option (List PyData)) (xs : List PyData) : CI (k + 1) "is_pipe" p xs = runF ⟨CI k, glob, FU, XI k⟩ f_is_pipe p xs := by unfold CI XI; rw [SI_eq]; kernel_rfl
theorem x_is_pipe (k : Nat) (xs : List PyData) : XI (k + 1) "is_pipe" xs = runX ⟨CI k, glob, FU, XI k⟩ f_is_pipe xs := by unfold CI XI; rw [SI_eq]; kernel_rfl
theorem u_is_net (k : Nat) (p : Option (List PyData)) (xs : List PyData) : CI (k + 1) "is_net" p xs = runF ⟨CI k, glob, FU, XI k⟩ f_is_net p xs := by unfold CI XI; rw [SI_eq]; kernel_rfl
theorem x_is_net (k : Nat) (xs : List PyData) : XI (k + 1) "is_net" xs = runX ⟨CI k, glob, FU, XI k⟩ f_is_net xs := by unfold CI XI; rw [SI_eq]; kernel_rfl
theorem u_need_net (k : Nat) (p : Option (List PyData)) (xs : List PyData) : CI (k + 1) "need_net" p xs = runF ⟨CI k, glob, FU, XI k⟩ f_need_net p xs := by unfold CI XI; rw [SI_eq]; kernel_rfl
theorem x_need_net (k : Nat) (xs : List PyData) : XI (k + 1) "need_net" xs = runX ⟨CI k, glob, FU, XI k⟩ f_need_net xs := by unfold CI XI; rw [SI_eq]; kernel_rfl
theorem u_tanks_of (k : Nat) (p : Option (List PyData)) (xs : List PyData) : CI (k + 1) "tanks_of" p xs = runF ⟨CI k, glob, FU, XI k⟩ f_tanks_of p xs := by unfold CI XI; rw [SI_eq]; kernel_rfl
theorem x_tanks_of (k : Nat) (xs : List PyData) : XI (k + 1) "tanks_of" xs = runX ⟨CI k, glob, FU, XI k⟩ f_tanks_of xs := by unfold CI XI; rw [SI_eq]; kernel_rfl
theorem u_is_pump (k : Nat) (p : Option (List PyData)) (xs : List PyData) : CI (k + 1) "is_pump" p xs = runF ⟨CI k, glob, FU, XI k⟩ f_is_pump p xs := by unfold CI XI; rw [SI_eq]; kernel_rfl
theorem x_is_pump (k : Nat) (xs : List PyData) : XI (k + 1) "is_pump" xs = runX ⟨CI k, glob, FU, XI k⟩ f_is_pump xs := by unfold CI XI; rw [SI_eq]; kernel_rfl
theorem u_can_shut (k : Nat) (p : Option (List PyData)) (xs : List PyData) : CI (k + 1) "can_shut" p xs = runF ⟨CI k, glob, FU, XI k⟩ f_can_shut p xs := by unfold CI XI; rw [SI_eq]; kernel_rfl
theorem x_can_shut (k : Nat) (xs : List PyData) : XI (k + 1) "can_shut" xs = runX ⟨CI k, glob, FU, XI k⟩ f_can_shut xs := by unfold CI XI; rw [SI_eq]; kernel_rfl
theorem u_are_rising (k : Nat) (p : Option (List PyData)) (xs : List PyData) : CI (k + 1) "are_rising" p xs = runF ⟨CI k, glob, FU, XI k⟩ f_are_rising p xs := by unfold CI XI; rw [SI_eq]; kernel_rfl
theorem x_are_rising (k : Nat) (xs : List PyData) : XI (k + 1) "are_rising" xs = runX ⟨CI k, glob, FU, XI k⟩ f_are_rising xs := by unfold CI XI; rw [SI_eq]; kernel_rfl
theorem u_are_asked (k : Nat) (p : Option (List PyData)) (xs : List PyData) : CI (k + 1) "are_asked" p xs = runF ⟨CI k, glob, FU, XI k⟩ f_are_asked p xs := by unfold CI XI; rw [SI_eq]; kernel_rfl
theorem x_are_asked (k : Nat) (xs : List PyData) : XI (k + 1) "are_asked" xs = runX ⟨CI k, glob, FU, XI k⟩ f_are_asked xs := by unfold CI XI; rw [SI_eq]; kernel_rfl
theorem u_are_levels_of (k : Nat) (p : Option (List PyData)) (xs : List PyData) : CI (k + 1) "are_levels_of" p xs = runF ⟨CI k, glob, FU, XI k⟩ f_are_levels_of p xs := by unfold CI XI; rw [SI_eq]; kernel_rfl
theorem x_are_levels_of (k : Nat) (xs : List PyData) : XI (k + 1) "are_levels_of" xs = runX ⟨CI k, glob, FU, XI k⟩ f_are_levels_of xs := by unfold CI XI; rw [SI_eq]; kernel_rfl
theorem u_are_shut (k : Nat) (p : Option (List PyData)) (xs : List PyData) : CI (k + 1) "are_shut" p xs = runF ⟨CI k, glob, FU, XI k⟩ f_are_shut p xs := by unfold CI XI; rw [SI_eq]; kernel_rfl
theorem x_are_shut (k : Nat) (xs : List PyData) : XI (k + 1) "are_shut" xs = runX ⟨CI k, glob, FU, XI k⟩ f_are_shut xs := by unfold CI XI; rw [SI_eq]; kernel_rfl
theorem u_is_case_of (k : Nat) (p : Option (List PyData)) (xs : List PyData) : CI (k + 1) "is_case_of" p xs = runF ⟨CI k, glob, FU, XI k⟩ f_is_case_of p xs := by unfold CI XI; rw [SI_eq]; kernel_rfl
theorem x_is_case_of (k : Nat) (xs : List PyData) : XI (k + 1) "is_case_of" xs = runX ⟨CI k, glob, FU, XI k⟩ f_is_case_of xs := by unfold CI XI; rw [SI_eq]; kernel_rfl
theorem u_is_case (k : Nat) (p : Option (List PyData)) (xs : List PyData) : CI (k + 1) "is_case" p xs = runF ⟨CI k, glob, FU, XI k⟩ f_is_case p xs := by unfold CI XI; rw [SI_eq]; kernel_rfl
theorem x_is_case (k : Nat) (xs : List PyData) : XI (k + 1) "is_case" xs = runX ⟨CI k, glob, FU, XI k⟩ f_is_case xs := by unfold CI XI; rw [SI_eq]; kernel_rfl
theorem u_law_cell_at (k : Nat) (p : Option (List PyData)) (xs : List PyData) : CI (k + 1) "_law_cell_at" p xs = runF ⟨CI k, glob, FU, XI k⟩ f_law_cell_at p xs := by unfold CI XI; rw [SI_eq]; kernel_rfl
theorem x_law_cell_at (k : Nat) (xs : List PyData) : XI (k + 1) "_law_cell_at" xs = runX ⟨CI k, glob, FU, XI k⟩ f_law_cell_at xs := by unfold CI XI; rw [SI_eq]; kernel_rfl
theorem u_law_next (k : Nat) (p : Option (List PyData)) (xs : List PyData) : CI (k + 1) "_law_next" p xs = runF ⟨CI k, glob, FU, XI k⟩ f_law_next p xs := by unfold CI XI; rw [SI_eq]; kernel_rfl
theorem x_law_next (k : Nat) (xs : List PyData) : XI (k + 1) "_law_next" xs = runX ⟨CI k, glob, FU, XI k⟩ f_law_next xs := by unfold CI XI; rw [SI_eq]; kernel_rfl
theorem u_law_pen_of (k : Nat) (p : Option (List PyData)) (xs : List PyData) : CI (k + 1) "_law_pen_of" p xs = runF ⟨CI k, glob, FU, XI k⟩ f_law_pen_of p xs := by unfold CI XI; rw [SI_eq]; kernel_rfl
theorem x_law_pen_of (k : Nat) (xs : List PyData) : XI (k + 1) "_law_pen_of" xs = runX ⟨CI k, glob, FU, XI k⟩ f_law_pen_of xs := by unfold CI XI; rw [SI_eq]; kernel_rfl
theorem u_law_draw (k : Nat) (p : Option (List PyData)) (xs : List PyData) : CI (k + 1) "_law_draw" p xs = runF ⟨CI k, glob, FU, XI k⟩ f_law_draw p xs := by unfold CI XI; rw [SI_eq]; kernel_rfl
theorem x_law_draw (k : Nat) (xs : List PyData) : XI (k + 1) "_law_draw" xs = runX ⟨CI k, glob, FU, XI k⟩ f_law_draw xs := by unfold CI XI; rw [SI_eq]; kernel_rfl
theorem u_law_low (k : Nat) (p : Option (List PyData)) (xs : List PyData) : CI (k + 1) "_law_low" p xs = runF ⟨CI k, glob, FU, XI k⟩ f_law_low p xs := by unfold CI XI; rw [SI_eq]; kernel_rfl
theorem x_law_low (k : Nat) (xs : List PyData) : XI (k + 1) "_law_low" xs = runX ⟨CI k, glob, FU, XI k⟩ f_law_low xs := by unfold CI XI; rw [SI_eq]; kernel_rfl
theorem u_law_joint (k : Nat) (p : Option (List PyData)) (xs : List PyData) : CI (k + 1) "_law_joint" p xs = runF ⟨CI k, glob, FU, XI k⟩ f_law_joint p xs := by unfold CI XI; rw [SI_eq]; kernel_rfl
theorem x_law_joint (k : Nat) (xs : List PyData) : XI (k + 1) "_law_joint" xs = runX ⟨CI k, glob, FU, XI k⟩ f_law_joint xs := by unfold CI XI; rw [SI_eq]; kernel_rfl
theorem u_law_net (k : Nat) (p : Option (List PyData)) (xs : List PyData) : CI (k + 1) "_law_net" p xs = runF ⟨CI k, glob, FU, XI k⟩ f_law_net p xs := by unfold CI XI; rw [SI_eq]; kernel_rfl
theorem x_law_net (k : Nat) (xs : List PyData) : XI (k + 1) "_law_net" xs = runX ⟨CI k, glob, FU, XI k⟩ f_law_net xs := by unfold CI XI; rw [SI_eq]; kernel_rfl
theorem u_law_case (k : Nat) (p : Option (List PyData)) (xs : List PyData) : CI (k + 1) "_law_case" p xs = runF ⟨CI k, glob, FU, XI k⟩ f_law_case p xs := by unfold CI XI; rw [SI_eq]; kernel_rfl
theorem x_law_case (k : Nat) (xs : List PyData) : XI (k + 1) "_law_case" xs = runX ⟨CI k, glob, FU, XI k⟩ f_law_case xs := by unfold CI XI; rw [SI_eq]; kernel_rfl
theorem u_law_odd (k : Nat) (p : Option (List PyData)) (xs : List PyData) : CI (k + 1) "_law_odd" p xs = runF ⟨CI k, glob, FU, XI k⟩ f_law_odd p xs := by unfold CI XI; rw [SI_eq]; kernel_rfl
theorem x_law_odd (k : Nat) (xs : List PyData) : XI (k + 1) "_law_odd" xs = runX ⟨CI k, glob, FU, XI k⟩ f_law_odd xs := by unfold CI XI; rw [SI_eq]; kernel_rfl
theorem u_law_bent (k : Nat) (p : Option (List PyData)) (xs : List PyData) : CI (k + 1) "_law_bent" p xs = runF ⟨CI k, glob, FU, XI k⟩ f_law_bent p xs := by unfold CI XI; rw [SI_eq]; kernel_rfl
theorem x_law_bent (k : Nat) (xs : List PyData) : XI (k + 1) "_law_bent" xs = runX ⟨CI k, glob, FU, XI k⟩ f_law_bent xs := by unfold CI XI; rw [SI_eq]; kernel_rfl
theorem u_law_number (k : Nat) (p : Option (List PyData)) (xs : List PyData) : CI (k + 1) "_law_number" p xs = runF ⟨CI k, glob, FU, XI k⟩ f_law_number p xs := by unfold CI XI; rw [SI_eq]; kernel_rfl
theorem x_law_number (k : Nat) (xs : List PyData) : XI (k + 1) "_law_number" xs = runX ⟨CI k, glob, FU, XI k⟩ f_law_number xs := by unfold CI XI; rw [SI_eq]; kernel_rfl
theorem u_law_is_part (k : Nat) (p : Option (List PyData)) (xs : List PyData) : CI (k + 1) "_law_is_part" p xs = runF ⟨CI k, glob, FU, XI k⟩ f_law_is_part p xs := by unfold CI XI; rw [SI_eq]; kernel_rfl
theorem x_law_is_part (k : Nat) (xs : List PyData) : XI (k + 1) "_law_is_part" xs = runX ⟨CI k, glob, FU, XI k⟩ f_law_is_part xs := by unfold CI XI; rw [SI_eq]; kernel_rfl
theorem u_law_is_case (k : Nat) (p : Option (List PyData)) (xs : List PyData) : CI (k + 1) "_law_is_case" p xs = runF ⟨CI k, glob, FU, XI k⟩ f_law_is_case p xs := by unfold CI XI; rw [SI_eq]; kernel_rfl
theorem x_law_is_case (k : Nat) (xs : List PyData) : XI (k + 1) "_law_is_case" xs = runX ⟨CI k, glob, FU, XI k⟩ f_law_is_case xs := by unfold CI XI; rw [SI_eq]; kernel_rfl
theorem u_law_near (k : Nat) (p : Option (List PyData)) (xs : List PyData) : CI (k + 1) "_law_near" p xs = runF ⟨CI k, glob, FU, XI k⟩ f_law_near p xs := by unfold CI XI; rw [SI_eq]; kernel_rfl
theorem x_law_near (k : Nat) (xs : List PyData) : XI (k + 1) "_law_near" xs = runX ⟨CI k, glob, FU, XI k⟩ f_law_near xs := by unfold CI XI; rw [SI_eq]; kernel_rfl
theorem u_law (k : Nat) (p : Option (List PyData)) (xs : List PyData) : CI (k + 1) "law" p xs = runF ⟨CI k, glob, FU, XI k⟩ f_law p xs := by unfold CI XI; rw [SI_eq]; kernel_rfl
theorem x_law (k : Nat) (xs : List PyData) : XI (k + 1) "law" xs = runX ⟨CI k, glob, FU, XI k⟩ f_law xs := by unfold CI XI; rw [SI_eq]; kernel_rfl

noncomputable abbrev cf (k : Nat) : Cfg := ⟨CI k, glob, FU, XI k⟩
/-! ### numbers -/
def num (x : PyData) (lo hi : Int) : Bool := match x with
  | .int i => decide (lo ≤ i) && decide (i ≤ hi)
  | _ => false
theorem c_whole (k : Nat) (x : PyData) : CI (k + 1) "is_whole" none [x] = some (.bool (isi .int x && !isi .bool x), none) := by
  rw [u_is_whole]
  cases x <;> simp [runF, endF, penOf, startE, exs, ex, ev, evs, evO, evT, evTs, evI, bnd, ret, setAll, b1D, b2D, truD, isi, ixD, seqD, cmp_eq, cmp_ne, cmp_lt, cmp_le, cmp_gt, cmp_ge, eqD_ii, eqD_ss, bin_add, bin_sub, sizeLine, at0, at1, at2, at3, at4, at5, at6, f_is_whole, b_is_whole]
theorem c_num (k : Nat) (x : PyData) (lo hi : Int) : CI (k + 2) "is_number" none [x, .int lo, .int hi] = some (.bool (num x lo hi), none) := by
  rw [u_is_number]
  cases x <;> simp [runF, endF, penOf, startE, exs, ex, ev, evs, evO, evT, evTs, evI, bnd, ret, setAll, b1D, b2D, truD, isi, ixD, seqD, cmp_eq, cmp_ne, cmp_lt, cmp_le, cmp_gt, cmp_ge, eqD_ii, eqD_ss, bin_add, bin_sub, sizeLine, at0, at1, at2, at3, at4, at5, at6, f_is_number, b_is_number, c_whole, num]
  rename_i i
  by_cases h : lo ≤ i <;> simp [h]
theorem num_int {x : PyData} {lo hi : Int} (h : num x lo hi = true) : ∃ i, x = .int i ∧ lo ≤ i ∧ i ≤ hi := by
  cases x <;> simp [num] at h
  exact ⟨_, rfl, h⟩
/-! ### joints -/
def jointB : PyData → Bool
  | .tuple [.str w, h] => decide (w = "source") && num h 0 200
  | .tuple [.str w, h, l, m] => (decide (w = "place") && (num h 0 100 && (num m 0 200 && (match m with | .int j => num l 0 j | _ => false)))) || (decide (w = "tank") && (num h 0 150 && (num l 1 50 && num m 1 50)))
  | _ => false
theorem sp1 : ¬ (("source" : Str) = "place") := by decide
theorem sp2 : ¬ (("tank" : Str) = "place") := by decide
theorem sp3 : ¬ (("tank" : Str) = "source") := by decide
theorem sp4 : ¬ (("source" : Str) = "tank") := by decide
theorem sp5 : ¬ (("place" : Str) = "tank") := by decide
theorem sp6 : ¬ (("place" : Str) = "source") := by decide
theorem cut1 (x : PyData) (r : List PyData) : cutD (x :: r) (some 1) none = r := by
  simp [cutD, HT.sIx]
theorem eqD_t0 (x : PyData) (r : List PyData) : eqD (.tuple (x :: r)) (.tuple []) = some false := by
  cases r <;> rfl
theorem c_pjoint (k : Nat) (w h l m : PyData) : CI (k + 3) "is_place_joint" none [.tuple [w, h, l, m]] = some (.bool (num h 0 100 && (num m 0 200 && (match m with | .int j => num l 0 j | _ => false))), none) := by
  rw [u_is_place_joint]
  have e1 := c_num k h 0 100
  have e2 := c_num k m 0 200
  cases m <;> simp [runF, endF, penOf, startE, exs, ex, ev, evs, evO, evT, evTs, evI, bnd, ret, setAll, b1D, b2D, truD, isi, ixD, seqD, cmp_eq, cmp_ne, cmp_lt, cmp_le, cmp_gt, cmp_ge, eqD_ii, eqD_ss, bin_add, bin_sub, sizeLine, at0, at1, at2, at3, at4, at5, at6, f_is_place_joint, b_is_place_joint, bindT, bindTs, e1, e2]
  case int j =>
    have e3 := c_num k l 0 j
    by_cases h1 : num h 0 100 = true
    · by_cases h2 : num (.int j) 0 200 = true
      · simp [runF, endF, penOf, startE, exs, ex, ev, evs, evO, evT, evTs, evI, bnd, ret, setAll, b1D, b2D, truD, isi, ixD, seqD, cmp_eq, cmp_ne, cmp_lt, cmp_le, cmp_gt, cmp_ge, eqD_ii, eqD_ss, bin_add, bin_sub, sizeLine, at0, at1, at2, at3, at4, at5, at6, h1, h2, e3]
      · have h2' : num (.int j) 0 200 = false := by simpa using h2
        simp [runF, endF, penOf, startE, exs, ex, ev, evs, evO, evT, evTs, evI, bnd, ret, setAll, b1D, b2D, truD, isi, ixD, seqD, cmp_eq, cmp_ne, cmp_lt, cmp_le, cmp_gt, cmp_ge, eqD_ii, eqD_ss, bin_add, bin_sub, sizeLine, at0, at1, at2, at3, at4, at5, at6, h1, h2']
    · have h1' : num h 0 100 = false := by simpa using h1
      simp [runF, endF, penOf, startE, exs, ex, ev, evs, evO, evT, evTs, evI, bnd, ret, setAll, b1D, b2D, truD, isi, ixD, seqD, cmp_eq, cmp_ne, cmp_lt, cmp_le, cmp_gt, cmp_ge, eqD_ii, eqD_ss, bin_add, bin_sub, sizeLine, at0, at1, at2, at3, at4, at5, at6, h1']
  all_goals
    by_cases h1 : num h 0 100 = true
    · simp only [h1]
      simp [runF, endF, penOf, startE, exs, ex, ev, evs, evO, evT, evTs, evI, bnd, ret, setAll, b1D, b2D, truD, isi, ixD, seqD, cmp_eq, cmp_ne, cmp_lt, cmp_le, cmp_gt, cmp_ge, eqD_ii, eqD_ss, bin_add, bin_sub, sizeLine, at0, at1, at2, at3, at4, at5, at6, num]
    · have h1' : num h 0 100 = false := by simpa using h1
      simp [runF, endF, penOf, startE, exs, ex, ev, evs, evO, evT, evTs, evI, bnd, ret, setAll, b1D, b2D, truD, isi, ixD, seqD, cmp_eq, cmp_ne, cmp_lt, cmp_le, cmp_gt, cmp_ge, eqD_ii, eqD_ss, bin_add, bin_sub, sizeLine, at0, at1, at2, at3, at4, at5, at6, h1']
theorem c_joint (k : Nat) (x : PyData) : CI (k + 4) "is_joint" none [x] = some (.bool (jointB x), none) := by
  rw [u_is_joint]
  cases x with
  | tuple xs =>
    cases xs with
    | nil => simp [runF, endF, penOf, startE, exs, ex, ev, evs, evO, evT, evTs, evI, bnd, ret, setAll, b1D, b2D, truD, isi, ixD, seqD, cmp_eq, cmp_ne, cmp_lt, cmp_le, cmp_gt, cmp_ge, eqD_ii, eqD_ss, bin_add, bin_sub, sizeLine, at0, at1, at2, at3, at4, at5, at6, f_is_joint, b_is_joint, jointB, eqD]
    | cons a r =>
      cases a with
      | str w =>
        by_cases hp : w = "place"
        · subst hp
          match r with
          | [] => simp [runF, endF, penOf, startE, exs, ex, ev, evs, evO, evT, evTs, evI, bnd, ret, setAll, b1D, b2D, truD, isi, ixD, seqD, cmp_eq, cmp_ne, cmp_lt, cmp_le, cmp_gt, cmp_ge, eqD_ii, eqD_ss, bin_add, bin_sub, sizeLine, at0, at1, at2, at3, at4, at5, at6, f_is_joint, b_is_joint, jointB, sp1, sp2, sp3, sp4, sp5, sp6, eqD_t0, g_PLACE, globD]
          | [_] => simp [runF, endF, penOf, startE, exs, ex, ev, evs, evO, evT, evTs, evI, bnd, ret, setAll, b1D, b2D, truD, isi, ixD, seqD, cmp_eq, cmp_ne, cmp_lt, cmp_le, cmp_gt, cmp_ge, eqD_ii, eqD_ss, bin_add, bin_sub, sizeLine, at0, at1, at2, at3, at4, at5, at6, f_is_joint, b_is_joint, jointB, sp1, sp2, sp3, sp4, sp5, sp6, eqD_t0, g_PLACE, globD, sp6]
          | [_, _] => simp [runF, endF, penOf, startE, exs, ex, ev, evs, evO, evT, evTs, evI, bnd, ret, setAll, b1D, b2D, truD, isi, ixD, seqD, cmp_eq, cmp_ne, cmp_lt, cmp_le, cmp_gt, cmp_ge, eqD_ii, eqD_ss, bin_add, bin_sub, sizeLine, at0, at1, at2, at3, at4, at5, at6, f_is_joint, b_is_joint, jointB, sp1, sp2, sp3, sp4, sp5, sp6, eqD_t0, g_PLACE, globD]
          | [h, l, m] => simp [runF, endF, penOf, startE, exs, ex, ev, evs, evO, evT, evTs, evI, bnd, ret, setAll, b1D, b2D, truD, isi, ixD, seqD, cmp_eq, cmp_ne, cmp_lt, cmp_le, cmp_gt, cmp_ge, eqD_ii, eqD_ss, bin_add, bin_sub, sizeLine, at0, at1, at2, at3, at4, at5, at6, f_is_joint, b_is_joint, jointB, sp1, sp2, sp3, sp4, sp5, sp6, eqD_t0, g_PLACE, globD, sp5, c_pjoint]
          | _ :: _ :: _ :: _ :: r =>
            have e : ¬ ((r.length : Int) + 1 + 1 + 1 + 1 + 1 = 4) := by omega
            simp [runF, endF, penOf, startE, exs, ex, ev, evs, evO, evT, evTs, evI, bnd, ret, setAll, b1D, b2D, truD, isi, ixD, seqD, cmp_eq, cmp_ne, cmp_lt, cmp_le, cmp_gt, cmp_ge, eqD_ii, eqD_ss, bin_add, bin_sub, sizeLine, at0, at1, at2, at3, at4, at5, at6, f_is_joint, b_is_joint, jointB, sp1, sp2, sp3, sp4, sp5, sp6, eqD_t0, g_PLACE, globD, e]
        · by_cases hs : w = "source"
          · subst hs
            have hb : lookD [(.str "source", .tuple [.tuple [.int 0, .int 200]]), (.str "tank", .tuple [.tuple [.int 0, .int 150], .tuple [.int 1, .int 50], .tuple [.int 1, .int 50]])] "source" = .tuple [.tuple [.int 0, .int 200]] := by simp [lookD]
            match r with
            | [] => simp [runF, endF, penOf, startE, exs, ex, ev, evs, evO, evT, evTs, evI, bnd, ret, setAll, b1D, b2D, truD, isi, ixD, seqD, cmp_eq, cmp_ne, cmp_lt, cmp_le, cmp_gt, cmp_ge, eqD_ii, eqD_ss, bin_add, bin_sub, sizeLine, at0, at1, at2, at3, at4, at5, at6, f_is_joint, b_is_joint, jointB, sp1, sp2, sp3, sp4, sp5, sp6, eqD_t0, g_PLACE, g_BOUNDS, globD, hp, hb, cmpD]
            | [h] =>
              have e := c_num (k + 1) h 0 200
              simp [runF, endF, penOf, startE, exs, ex, ev, evs, evO, evT, evTs, evI, bnd, ret, setAll, b1D, b2D, truD, isi, ixD, seqD, cmp_eq, cmp_ne, cmp_lt, cmp_le, cmp_gt, cmp_ge, eqD_ii, eqD_ss, bin_add, bin_sub, sizeLine, at0, at1, at2, at3, at4, at5, at6, f_is_joint, b_is_joint, jointB, sp1, sp2, sp3, sp4, sp5, sp6, eqD_t0, g_PLACE, g_BOUNDS, globD, hp, hb, cmpD, slD, cut1, partD, zipK, zipD, cmpI, bindT, bindTs, wipeE, backE, notOwn, bools, e]
            | [_, _] => simp [runF, endF, penOf, startE, exs, ex, ev, evs, evO, evT, evTs, evI, bnd, ret, setAll, b1D, b2D, truD, isi, ixD, seqD, cmp_eq, cmp_ne, cmp_lt, cmp_le, cmp_gt, cmp_ge, eqD_ii, eqD_ss, bin_add, bin_sub, sizeLine, at0, at1, at2, at3, at4, at5, at6, f_is_joint, b_is_joint, jointB, sp1, sp2, sp3, sp4, sp5, sp6, eqD_t0, g_PLACE, g_BOUNDS, globD, hp, hb, cmpD]
            | [_, _, _] => simp [runF, endF, penOf, startE, exs, ex, ev, evs, evO, evT, evTs, evI, bnd, ret, setAll, b1D, b2D, truD, isi, ixD, seqD, cmp_eq, cmp_ne, cmp_lt, cmp_le, cmp_gt, cmp_ge, eqD_ii, eqD_ss, bin_add, bin_sub, sizeLine, at0, at1, at2, at3, at4, at5, at6, f_is_joint, b_is_joint, jointB, sp1, sp2, sp3, sp4, sp5, sp6, eqD_t0, g_PLACE, g_BOUNDS, globD, hp, hb, cmpD, sp4]
            | _ :: _ :: _ :: _ :: r =>
              have e : ¬ ((r.length : Int) + 1 + 1 + 1 + 1 + 1 = 2) := by omega
              simp [runF, endF, penOf, startE, exs, ex, ev, evs, evO, evT, evTs, evI, bnd, ret, setAll, b1D, b2D, truD, isi, ixD, seqD, cmp_eq, cmp_ne, cmp_lt, cmp_le, cmp_gt, cmp_ge, eqD_ii, eqD_ss, bin_add, bin_sub, sizeLine, at0, at1, at2, at3, at4, at5, at6, f_is_joint, b_is_joint, jointB, sp1, sp2, sp3, sp4, sp5, sp6, eqD_t0, g_PLACE, g_BOUNDS, globD, hp, hb, cmpD, e]
          · by_cases ht : w = "tank"
            · subst ht
              have hb : lookD [(.str "source", .tuple [.tuple [.int 0, .int 200]]), (.str "tank", .tuple [.tuple [.int 0, .int 150], .tuple [.int 1, .int 50], .tuple [.int 1, .int 50]])] "tank" = .tuple [.tuple [.int 0, .int 150], .tuple [.int 1, .int 50], .tuple [.int 1, .int 50]] := by simp [lookD, sp3]
              match r with
              | [] => simp [runF, endF, penOf, startE, exs, ex, ev, evs, evO, evT, evTs, evI, bnd, ret, setAll, b1D, b2D, truD, isi, ixD, seqD, cmp_eq, cmp_ne, cmp_lt, cmp_le, cmp_gt, cmp_ge, eqD_ii, eqD_ss, bin_add, bin_sub, sizeLine, at0, at1, at2, at3, at4, at5, at6, f_is_joint, b_is_joint, jointB, sp1, sp2, sp3, sp4, sp5, sp6, eqD_t0, g_PLACE, g_BOUNDS, globD, hp, hb, cmpD]
              | [_] => simp [runF, endF, penOf, startE, exs, ex, ev, evs, evO, evT, evTs, evI, bnd, ret, setAll, b1D, b2D, truD, isi, ixD, seqD, cmp_eq, cmp_ne, cmp_lt, cmp_le, cmp_gt, cmp_ge, eqD_ii, eqD_ss, bin_add, bin_sub, sizeLine, at0, at1, at2, at3, at4, at5, at6, f_is_joint, b_is_joint, jointB, sp1, sp2, sp3, sp4, sp5, sp6, eqD_t0, g_PLACE, g_BOUNDS, globD, hp, hb, cmpD, sp3]
              | [_, _] => simp [runF, endF, penOf, startE, exs, ex, ev, evs, evO, evT, evTs, evI, bnd, ret, setAll, b1D, b2D, truD, isi, ixD, seqD, cmp_eq, cmp_ne, cmp_lt, cmp_le, cmp_gt, cmp_ge, eqD_ii, eqD_ss, bin_add, bin_sub, sizeLine, at0, at1, at2, at3, at4, at5, at6, f_is_joint, b_is_joint, jointB, sp1, sp2, sp3, sp4, sp5, sp6, eqD_t0, g_PLACE, g_BOUNDS, globD, hp, hb, cmpD]
              | [h, l, m] =>
                have e1 := c_num (k + 1) h 0 150
                have e2 := c_num (k + 1) l 1 50
                have e3 := c_num (k + 1) m 1 50
                simp [runF, endF, penOf, startE, exs, ex, ev, evs, evO, evT, evTs, evI, bnd, ret, setAll, b1D, b2D, truD, isi, ixD, seqD, cmp_eq, cmp_ne, cmp_lt, cmp_le, cmp_gt, cmp_ge, eqD_ii, eqD_ss, bin_add, bin_sub, sizeLine, at0, at1, at2, at3, at4, at5, at6, f_is_joint, b_is_joint, jointB, sp1, sp2, sp3, sp4, sp5, sp6, eqD_t0, g_PLACE, g_BOUNDS, globD, hp, hb, cmpD, slD, cut1, partD, zipK, zipD, cmpI, bindT, bindTs, wipeE, backE, notOwn, bools, e1, e2, e3, sp2]
              | _ :: _ :: _ :: _ :: r =>
                have e : ¬ ((r.length : Int) + 1 + 1 + 1 + 1 + 1 = 4) := by omega
                simp [runF, endF, penOf, startE, exs, ex, ev, evs, evO, evT, evTs, evI, bnd, ret, setAll, b1D, b2D, truD, isi, ixD, seqD, cmp_eq, cmp_ne, cmp_lt, cmp_le, cmp_gt, cmp_ge, eqD_ii, eqD_ss, bin_add, bin_sub, sizeLine, at0, at1, at2, at3, at4, at5, at6, f_is_joint, b_is_joint, jointB, sp1, sp2, sp3, sp4, sp5, sp6, eqD_t0, g_PLACE, g_BOUNDS, globD, hp, hb, cmpD, e]
            · have hb : lookD [(.str "source", .tuple [.tuple [.int 0, .int 200]]), (.str "tank", .tuple [.tuple [.int 0, .int 150], .tuple [.int 1, .int 50], .tuple [.int 1, .int 50]])] w = .none := by simp [lookD, hs, ht]
              have hj : jointB (.tuple (.str w :: r)) = false := by
                unfold jointB
                split
                · rename_i e; cases e; simp [hs]
                · rename_i e; cases e; simp [hp, ht]
                · rfl
              simp [runF, endF, penOf, startE, exs, ex, ev, evs, evO, evT, evTs, evI, bnd, ret, setAll, b1D, b2D, truD, isi, ixD, seqD, cmp_eq, cmp_ne, cmp_lt, cmp_le, cmp_gt, cmp_ge, eqD_ii, eqD_ss, bin_add, bin_sub, sizeLine, at0, at1, at2, at3, at4, at5, at6, f_is_joint, b_is_joint, hj, eqD_t0, g_PLACE, g_BOUNDS, globD, hp, hb, cmpD]
      | _ => simp [runF, endF, penOf, startE, exs, ex, ev, evs, evO, evT, evTs, evI, bnd, ret, setAll, b1D, b2D, truD, isi, ixD, seqD, cmp_eq, cmp_ne, cmp_lt, cmp_le, cmp_gt, cmp_ge, eqD_ii, eqD_ss, bin_add, bin_sub, sizeLine, at0, at1, at2, at3, at4, at5, at6, f_is_joint, b_is_joint, jointB, sp1, sp2, sp3, sp4, sp5, sp6, eqD_t0]
  | _ => simp [runF, endF, penOf, startE, exs, ex, ev, evs, evO, evT, evTs, evI, bnd, ret, setAll, b1D, b2D, truD, isi, ixD, seqD, cmp_eq, cmp_ne, cmp_lt, cmp_le, cmp_gt, cmp_ge, eqD_ii, eqD_ss, bin_add, bin_sub, sizeLine, at0, at1, at2, at3, at4, at5, at6, f_is_joint, b_is_joint, jointB]
/-! ### pipes -/
def wayB : PyData → Bool
  | .str w => decide (w = "both") || decide (w = "on")
  | _ => false
def isOn : PyData → Bool
  | .str w => decide (w = "on")
  | _ => false
def sameI : PyData → PyData → Bool
  | .int i, .int j => decide (i = j)
  | _, _ => false
def pipeB (n : Int) : PyData → Bool
  | .tuple [a, b, f, w, l, g, v] => num a 0 (n - 1) && (num b 0 (n - 1) && (!sameI a b && (num f 1 20 && (wayB w && (num l 0 (if isOn w then 50 else 0) && (isi .bool g && num v 0 20))))))
  | _ => false
theorem on_both : ¬ (("on" : Str) = "both") := by decide
theorem both_on : ¬ (("both" : Str) = "on") := by decide
theorem beq_dec (x y : Str) : (x == y) = decide (y = x) := by
  by_cases h : x = y
  · subst h; simp
  · have h' : ¬ y = x := fun e => h e.symm
    simp [h, h']
theorem nin_wayT (w : Str) : cmpD .nin (.str w) (.tuple [.str "both", .str "on"]) = some (!wayB (.str w)) := by
  simp [cmpD, inD, flat, PyData.eqv, wayB, beq_dec]
theorem nin_wayL (w : Str) : cmpD .nin (.str w) (.list [.str "both", .str "on"]) = some (!wayB (.str w)) := by
  simp [cmpD, inD, flat, PyData.eqv, wayB, beq_dec]
theorem cut2 (x y : PyData) (r : List PyData) : cutD (x :: y :: r) none (some 2) = [x, y] := by
  simp [cutD, HT.sIx]
theorem c_pipe (k : Nat) (n : Int) (x : PyData) : CI (k + 3) "is_pipe" none [.int n, x] = some (.bool (pipeB n x), none) := by
  rw [u_is_pipe]
  cases x with
  | tuple xs =>
    match xs with
    | [a, b, f, w, l, g, v] =>
      have e1 := c_num k a 0 (n - 1)
      have e2 := c_num k b 0 (n - 1)
      have e3 := c_num k f 1 20
      have e4 := c_num k v 0 20
      cases q1 : num a 0 (n - 1)
      · simp [runF, endF, penOf, startE, exs, ex, ev, evs, evO, evT, evTs, evI, bnd, ret, setAll, b1D, b2D, truD, isi, ixD, seqD, cmp_eq, cmp_ne, cmp_lt, cmp_le, cmp_gt, cmp_ge, eqD_ii, eqD_ss, bin_add, bin_sub, sizeLine, at0, at1, at2, at3, at4, at5, at6, f_is_pipe, b_is_pipe, bindT, bindTs, e1, q1, pipeB]
      · obtain ⟨i, rfl, _, _⟩ := num_int q1
        cases q2 : num b 0 (n - 1)
        · simp [runF, endF, penOf, startE, exs, ex, ev, evs, evO, evT, evTs, evI, bnd, ret, setAll, b1D, b2D, truD, isi, ixD, seqD, cmp_eq, cmp_ne, cmp_lt, cmp_le, cmp_gt, cmp_ge, eqD_ii, eqD_ss, bin_add, bin_sub, sizeLine, at0, at1, at2, at3, at4, at5, at6, f_is_pipe, b_is_pipe, bindT, bindTs, e1, q1, e2, q2, pipeB]
        · obtain ⟨j, rfl, _, _⟩ := num_int q2
          by_cases hij : i = j
          · subst hij
            simp [runF, endF, penOf, startE, exs, ex, ev, evs, evO, evT, evTs, evI, bnd, ret, setAll, b1D, b2D, truD, isi, ixD, seqD, cmp_eq, cmp_ne, cmp_lt, cmp_le, cmp_gt, cmp_ge, eqD_ii, eqD_ss, bin_add, bin_sub, sizeLine, at0, at1, at2, at3, at4, at5, at6, f_is_pipe, b_is_pipe, bindT, bindTs, e1, q1, pipeB, sameI]
          · cases q3 : num f 1 20
            · simp [runF, endF, penOf, startE, exs, ex, ev, evs, evO, evT, evTs, evI, bnd, ret, setAll, b1D, b2D, truD, isi, ixD, seqD, cmp_eq, cmp_ne, cmp_lt, cmp_le, cmp_gt, cmp_ge, eqD_ii, eqD_ss, bin_add, bin_sub, sizeLine, at0, at1, at2, at3, at4, at5, at6, f_is_pipe, b_is_pipe, bindT, bindTs, e1, q1, e2, q2, e3, q3, hij, pipeB, sameI]
            · cases w with
              | str w =>
                cases q4 : wayB (.str w)
                · simp [runF, endF, penOf, startE, exs, ex, ev, evs, evO, evT, evTs, evI, bnd, ret, setAll, b1D, b2D, truD, isi, ixD, seqD, cmp_eq, cmp_ne, cmp_lt, cmp_le, cmp_gt, cmp_ge, eqD_ii, eqD_ss, bin_add, bin_sub, sizeLine, at0, at1, at2, at3, at4, at5, at6, f_is_pipe, b_is_pipe, bindT, bindTs, e1, q1, e2, q2, e3, q3, q4, hij, pipeB, sameI, g_BOTH, g_ON, globD, nin_wayT]
                · have hw : w = "both" ∨ w = "on" := by simpa [wayB] using q4
                  rcases hw with rfl | rfl
                  · have e5 := c_num k l 0 0
                    cases q5 : num l 0 0
                    · simp [runF, endF, penOf, startE, exs, ex, ev, evs, evO, evT, evTs, evI, bnd, ret, setAll, b1D, b2D, truD, isi, ixD, seqD, cmp_eq, cmp_ne, cmp_lt, cmp_le, cmp_gt, cmp_ge, eqD_ii, eqD_ss, bin_add, bin_sub, sizeLine, at0, at1, at2, at3, at4, at5, at6, f_is_pipe, b_is_pipe, bindT, bindTs, e1, q1, e2, q2, e3, q3, q4, e5, q5, hij, both_on, isOn, pipeB, sameI, g_BOTH, g_ON, globD, nin_wayT]
                    · cases g <;> simp [runF, endF, penOf, startE, exs, ex, ev, evs, evO, evT, evTs, evI, bnd, ret, setAll, b1D, b2D, truD, isi, ixD, seqD, cmp_eq, cmp_ne, cmp_lt, cmp_le, cmp_gt, cmp_ge, eqD_ii, eqD_ss, bin_add, bin_sub, sizeLine, at0, at1, at2, at3, at4, at5, at6, f_is_pipe, b_is_pipe, bindT, bindTs, e1, q1, e2, q2, e3, q3, q4, e4, e5, q5, hij, both_on, isOn, pipeB, sameI, g_BOTH, g_ON, globD, nin_wayT]
                  · have e5 := c_num k l 0 50
                    cases q5 : num l 0 50
                    · simp [runF, endF, penOf, startE, exs, ex, ev, evs, evO, evT, evTs, evI, bnd, ret, setAll, b1D, b2D, truD, isi, ixD, seqD, cmp_eq, cmp_ne, cmp_lt, cmp_le, cmp_gt, cmp_ge, eqD_ii, eqD_ss, bin_add, bin_sub, sizeLine, at0, at1, at2, at3, at4, at5, at6, f_is_pipe, b_is_pipe, bindT, bindTs, e1, q1, e2, q2, e3, q3, q4, e5, q5, hij, isOn, pipeB, sameI, g_BOTH, g_ON, globD, nin_wayT]
                    · cases g <;> simp [runF, endF, penOf, startE, exs, ex, ev, evs, evO, evT, evTs, evI, bnd, ret, setAll, b1D, b2D, truD, isi, ixD, seqD, cmp_eq, cmp_ne, cmp_lt, cmp_le, cmp_gt, cmp_ge, eqD_ii, eqD_ss, bin_add, bin_sub, sizeLine, at0, at1, at2, at3, at4, at5, at6, f_is_pipe, b_is_pipe, bindT, bindTs, e1, q1, e2, q2, e3, q3, q4, e4, e5, q5, hij, isOn, pipeB, sameI, g_BOTH, g_ON, globD, nin_wayT]
              | _ => simp [runF, endF, penOf, startE, exs, ex, ev, evs, evO, evT, evTs, evI, bnd, ret, setAll, b1D, b2D, truD, isi, ixD, seqD, cmp_eq, cmp_ne, cmp_lt, cmp_le, cmp_gt, cmp_ge, eqD_ii, eqD_ss, bin_add, bin_sub, sizeLine, at0, at1, at2, at3, at4, at5, at6, f_is_pipe, b_is_pipe, bindT, bindTs, e1, q1, e2, q2, e3, q3, hij, pipeB, sameI, wayB]
    | [] => simp [runF, endF, penOf, startE, exs, ex, ev, evs, evO, evT, evTs, evI, bnd, ret, setAll, b1D, b2D, truD, isi, ixD, seqD, cmp_eq, cmp_ne, cmp_lt, cmp_le, cmp_gt, cmp_ge, eqD_ii, eqD_ss, bin_add, bin_sub, sizeLine, at0, at1, at2, at3, at4, at5, at6, f_is_pipe, b_is_pipe, pipeB]
    | [_] => simp [runF, endF, penOf, startE, exs, ex, ev, evs, evO, evT, evTs, evI, bnd, ret, setAll, b1D, b2D, truD, isi, ixD, seqD, cmp_eq, cmp_ne, cmp_lt, cmp_le, cmp_gt, cmp_ge, eqD_ii, eqD_ss, bin_add, bin_sub, sizeLine, at0, at1, at2, at3, at4, at5, at6, f_is_pipe, b_is_pipe, pipeB]
    | [_, _] => simp [runF, endF, penOf, startE, exs, ex, ev, evs, evO, evT, evTs, evI, bnd, ret, setAll, b1D, b2D, truD, isi, ixD, seqD, cmp_eq, cmp_ne, cmp_lt, cmp_le, cmp_gt, cmp_ge, eqD_ii, eqD_ss, bin_add, bin_sub, sizeLine, at0, at1, at2, at3, at4, at5, at6, f_is_pipe, b_is_pipe, pipeB]
    | [_, _, _] => simp [runF, endF, penOf, startE, exs, ex, ev, evs, evO, evT, evTs, evI, bnd, ret, setAll, b1D, b2D, truD, isi, ixD, seqD, cmp_eq, cmp_ne, cmp_lt, cmp_le, cmp_gt, cmp_ge, eqD_ii, eqD_ss, bin_add, bin_sub, sizeLine, at0, at1, at2, at3, at4, at5, at6, f_is_pipe, b_is_pipe, pipeB]
    | [_, _, _, _] => simp [runF, endF, penOf, startE, exs, ex, ev, evs, evO, evT, evTs, evI, bnd, ret, setAll, b1D, b2D, truD, isi, ixD, seqD, cmp_eq, cmp_ne, cmp_lt, cmp_le, cmp_gt, cmp_ge, eqD_ii, eqD_ss, bin_add, bin_sub, sizeLine, at0, at1, at2, at3, at4, at5, at6, f_is_pipe, b_is_pipe, pipeB]
    | [_, _, _, _, _] => simp [runF, endF, penOf, startE, exs, ex, ev, evs, evO, evT, evTs, evI, bnd, ret, setAll, b1D, b2D, truD, isi, ixD, seqD, cmp_eq, cmp_ne, cmp_lt, cmp_le, cmp_gt, cmp_ge, eqD_ii, eqD_ss, bin_add, bin_sub, sizeLine, at0, at1, at2, at3, at4, at5, at6, f_is_pipe, b_is_pipe, pipeB]
    | [_, _, _, _, _, _] => simp [runF, endF, penOf, startE, exs, ex, ev, evs, evO, evT, evTs, evI, bnd, ret, setAll, b1D, b2D, truD, isi, ixD, seqD, cmp_eq, cmp_ne, cmp_lt, cmp_le, cmp_gt, cmp_ge, eqD_ii, eqD_ss, bin_add, bin_sub, sizeLine, at0, at1, at2, at3, at4, at5, at6, f_is_pipe, b_is_pipe, pipeB]
    | _ :: _ :: _ :: _ :: _ :: _ :: _ :: _ :: r =>
      have e : ¬ ((r.length : Int) + 1 + 1 + 1 + 1 + 1 + 1 + 1 + 1 = 7) := by omega
      simp [runF, endF, penOf, startE, exs, ex, ev, evs, evO, evT, evTs, evI, bnd, ret, setAll, b1D, b2D, truD, isi, ixD, seqD, cmp_eq, cmp_ne, cmp_lt, cmp_le, cmp_gt, cmp_ge, eqD_ii, eqD_ss, bin_add, bin_sub, sizeLine, at0, at1, at2, at3, at4, at5, at6, f_is_pipe, b_is_pipe, pipeB, e]
  | _ => simp [runF, endF, penOf, startE, exs, ex, ev, evs, evO, evT, evTs, evI, bnd, ret, setAll, b1D, b2D, truD, isi, ixD, seqD, cmp_eq, cmp_ne, cmp_lt, cmp_le, cmp_gt, cmp_ge, eqD_ii, eqD_ss, bin_add, bin_sub, sizeLine, at0, at1, at2, at3, at4, at5, at6, f_is_pipe, b_is_pipe, pipeB]
theorem num_both (l : PyData) : num l 0 0 = (num l 0 50 && !(match l with | .int j => decide (0 < j) | _ => false)) := by
  cases l <;> simp [num]
  rename_i j
  rw [Bool.eq_iff_iff]
  simp
  omega

/-! ### nets -/
def onP : PyData → Bool
  | .tuple [_, _, _, w, _, _, _] => isOn w
  | _ => false
def netB : PyData → Bool
  | .tuple [.tuple js, .tuple ps] => (decide (2 ≤ js.length) && decide (js.length ≤ 7) && js.all jointB) && ((decide (1 ≤ ps.length) && decide (ps.length ≤ 9) && ps.all (pipeB js.length)) && decide ((ps.filter onP).length ≤ 4))
  | _ => false
theorem netB_eq (js ps : List PyData) : netB (.tuple [.tuple js, .tuple ps]) = ((decide (2 ≤ js.length) && decide (js.length ≤ 7) && js.all jointB) && ((decide (1 ≤ ps.length) && decide (ps.length ≤ 9) && ps.all (pipeB js.length)) && decide ((ps.filter onP).length ≤ 4))) := rfl
theorem pipe_shape {n : Int} {x : PyData} (h : pipeB n x = true) : ∃ a b f w l g v, x = .tuple [a, b, f, .str w, l, g, v] := by
  unfold pipeB at h
  split at h
  · rename_i a b f w l g v
    cases w <;> simp [wayB] at h
    exact ⟨_, _, _, _, _, _, _, rfl⟩
  · cases h
theorem chain_le (c : Cfg) (ρ : En) (e : Ep) (lo hi : Int) (e2 : Ep) (x : Int) (h : ev c e ρ = some (.int x, ρ)) (h2 : ev c e2 ρ = some (.int hi, ρ)) : ev c (.chain .le .le (.con (.int lo)) e e2) ρ = some (.bool (decide (lo ≤ x) && decide (x ≤ hi)), ρ) := by
  unfold ev
  have h0 : ev c (.con (.int lo)) ρ = some (.int lo, ρ) := by simp [runF, endF, penOf, startE, exs, ex, ev, evs, evO, evT, evTs, evI, bnd, ret, setAll, b1D, b2D, truD, isi, ixD, seqD, cmp_eq, cmp_ne, cmp_lt, cmp_le, cmp_gt, cmp_ge, eqD_ii, eqD_ss, bin_add, bin_sub, sizeLine, at0, at1, at2, at3, at4, at5, at6]
  rw [h0, bnd_some, h, bnd_some]
  simp only [cmp_le, ret, bnd_some]
  by_cases hl : lo ≤ x
  · simp only [hl, decide_true, h2, bnd_some, cmp_le, Bool.true_and]
  · simp only [hl, decide_false, Bool.false_and]
theorem c_net (k : Nat) (x : PyData) : CI (k + 5) "is_net" none [x] = some (.bool (netB x), none) := by
  rw [u_is_net]
  cases x with
  | tuple xs =>
    match xs with
    | [] => simp [runF, endF, penOf, startE, exs, ex, ev, evs, evO, evT, evTs, evI, bnd, ret, setAll, b1D, b2D, truD, isi, ixD, seqD, cmp_eq, cmp_ne, cmp_lt, cmp_le, cmp_gt, cmp_ge, eqD_ii, eqD_ss, bin_add, bin_sub, sizeLine, at0, at1, at2, at3, at4, at5, at6, f_is_net, b_is_net, netB]
    | [_] => simp [runF, endF, penOf, startE, exs, ex, ev, evs, evO, evT, evTs, evI, bnd, ret, setAll, b1D, b2D, truD, isi, ixD, seqD, cmp_eq, cmp_ne, cmp_lt, cmp_le, cmp_gt, cmp_ge, eqD_ii, eqD_ss, bin_add, bin_sub, sizeLine, at0, at1, at2, at3, at4, at5, at6, f_is_net, b_is_net, netB]
    | _ :: _ :: _ :: r =>
      have e : ¬ ((r.length : Int) + 1 + 1 + 1 = 2) := by omega
      simp [runF, endF, penOf, startE, exs, ex, ev, evs, evO, evT, evTs, evI, bnd, ret, setAll, b1D, b2D, truD, isi, ixD, seqD, cmp_eq, cmp_ne, cmp_lt, cmp_le, cmp_gt, cmp_ge, eqD_ii, eqD_ss, bin_add, bin_sub, sizeLine, at0, at1, at2, at3, at4, at5, at6, f_is_net, b_is_net, netB, e]
    | [j, p] =>
      by_cases hj : ∃ js, j = .tuple js
      · obtain ⟨js, rfl⟩ := hj
        by_cases hp : ∃ ps, p = .tuple ps
        · obtain ⟨ps, rfl⟩ := hp
          have main : ∀ ρ : En, ρ = [some (.d (.tuple [.tuple js, .tuple ps])), none, some (.d (.tuple js)), some (.d (.tuple ps)), none, none] → exs (cf (k + 4)) (b_is_net.drop 2) ρ = some (.ret (.bool (netB (.tuple [.tuple js, .tuple ps]))), ρ) := by
            rintro ρ rfl
            have T1 : evT (cf (k + 4)) (.or (.not (.leaf (.chain .le .le (.con (.int 2)) (.b1 .len (.var 2)) (.glob "MOST_JOINTS")))) (.not (.leaf (.b1 .all (.comp (.call "is_joint" [(.var 4)]) (.name 4) (.seq (.var 2)) [] [4]))))) [some (.d (.tuple [.tuple js, .tuple ps])), none, some (.d (.tuple js)), some (.d (.tuple ps)), none, none] = some (!(decide (2 ≤ js.length) && decide (js.length ≤ 7)) || !js.all jointB, [some (.d (.tuple [.tuple js, .tuple ps])), none, some (.d (.tuple js)), some (.d (.tuple ps)), none, none]) := by
              refine evT_or (evT_not (evT_leaf ?_)) fun hx => evT_not (evT_leaf (ev_all jointB rfl (by simp) (by simp [runF, endF, penOf, startE, exs, ex, ev, evs, evO, evT, evTs, evI, bnd, ret, setAll, b1D, b2D, truD, isi, ixD, seqD, cmp_eq, cmp_ne, cmp_lt, cmp_le, cmp_gt, cmp_ge, eqD_ii, eqD_ss, bin_add, bin_sub, sizeLine, at0, at1, at2, at3, at4, at5, at6]) ?_ fun x hx => by simp [runF, endF, penOf, startE, exs, ex, ev, evs, evO, evT, evTs, evI, bnd, ret, setAll, b1D, b2D, truD, isi, ixD, seqD, cmp_eq, cmp_ne, cmp_lt, cmp_le, cmp_gt, cmp_ge, eqD_ii, eqD_ss, bin_add, bin_sub, sizeLine, at0, at1, at2, at3, at4, at5, at6, c_joint]))
              · have := chain_le (cf (k + 4)) [some (.d (.tuple [.tuple js, .tuple ps])), none, some (.d (.tuple js)), some (.d (.tuple ps)), none, none] (.b1 .len (.var 2)) 2 7 (.glob "MOST_JOINTS") js.length (by simp [runF, endF, penOf, startE, exs, ex, ev, evs, evO, evT, evTs, evI, bnd, ret, setAll, b1D, b2D, truD, isi, ixD, seqD, cmp_eq, cmp_ne, cmp_lt, cmp_le, cmp_gt, cmp_ge, eqD_ii, eqD_ss, bin_add, bin_sub, sizeLine, at0, at1, at2, at3, at4, at5, at6]) (by simp [runF, endF, penOf, startE, exs, ex, ev, evs, evO, evT, evTs, evI, bnd, ret, setAll, b1D, b2D, truD, isi, ixD, seqD, cmp_eq, cmp_ne, cmp_lt, cmp_le, cmp_gt, cmp_ge, eqD_ii, eqD_ss, bin_add, bin_sub, sizeLine, at0, at1, at2, at3, at4, at5, at6, g_MOST_JOINTS, globD])
                rw [this]
                congr 4
                · rw [Bool.eq_iff_iff]; simp; omega
                · rw [Bool.eq_iff_iff]; simp; omega
              · simp at hx
                omega
            have T2 : evT (cf (k + 4)) (.or (.not (.leaf (.chain .le .le (.con (.int 1)) (.b1 .len (.var 3)) (.glob "MOST_PIPES")))) (.not (.leaf (.b1 .all (.comp (.call "is_pipe" [(.b1 .len (.var 2)), (.var 5)]) (.name 5) (.seq (.var 3)) [] [5]))))) [some (.d (.tuple [.tuple js, .tuple ps])), none, some (.d (.tuple js)), some (.d (.tuple ps)), none, none] = some (!(decide (1 ≤ ps.length) && decide (ps.length ≤ 9)) || !ps.all (pipeB js.length), [some (.d (.tuple [.tuple js, .tuple ps])), none, some (.d (.tuple js)), some (.d (.tuple ps)), none, none]) := by
              refine evT_or (evT_not (evT_leaf ?_)) fun hx => evT_not (evT_leaf (ev_all (pipeB js.length) rfl (by simp) (by simp [runF, endF, penOf, startE, exs, ex, ev, evs, evO, evT, evTs, evI, bnd, ret, setAll, b1D, b2D, truD, isi, ixD, seqD, cmp_eq, cmp_ne, cmp_lt, cmp_le, cmp_gt, cmp_ge, eqD_ii, eqD_ss, bin_add, bin_sub, sizeLine, at0, at1, at2, at3, at4, at5, at6]) ?_ fun x hx => by simp [runF, endF, penOf, startE, exs, ex, ev, evs, evO, evT, evTs, evI, bnd, ret, setAll, b1D, b2D, truD, isi, ixD, seqD, cmp_eq, cmp_ne, cmp_lt, cmp_le, cmp_gt, cmp_ge, eqD_ii, eqD_ss, bin_add, bin_sub, sizeLine, at0, at1, at2, at3, at4, at5, at6, c_pipe (k + 1)]))
              · have := chain_le (cf (k + 4)) [some (.d (.tuple [.tuple js, .tuple ps])), none, some (.d (.tuple js)), some (.d (.tuple ps)), none, none] (.b1 .len (.var 3)) 1 9 (.glob "MOST_PIPES") ps.length (by simp [runF, endF, penOf, startE, exs, ex, ev, evs, evO, evT, evTs, evI, bnd, ret, setAll, b1D, b2D, truD, isi, ixD, seqD, cmp_eq, cmp_ne, cmp_lt, cmp_le, cmp_gt, cmp_ge, eqD_ii, eqD_ss, bin_add, bin_sub, sizeLine, at0, at1, at2, at3, at4, at5, at6]) (by simp [runF, endF, penOf, startE, exs, ex, ev, evs, evO, evT, evTs, evI, bnd, ret, setAll, b1D, b2D, truD, isi, ixD, seqD, cmp_eq, cmp_ne, cmp_lt, cmp_le, cmp_gt, cmp_ge, eqD_ii, eqD_ss, bin_add, bin_sub, sizeLine, at0, at1, at2, at3, at4, at5, at6, g_MOST_PIPES, globD])
                rw [this]
                congr 4
                · rw [Bool.eq_iff_iff]; simp; omega
                · rw [Bool.eq_iff_iff]; simp; omega
              · simp at hx
                omega
            show exs (cf (k + 4)) (.ite _ [(.ret (.con (.bool false)))] [] :: .ite _ [(.ret (.con (.bool false)))] [] :: _) _ = _
            rw [exs_ite T1 fun _ => ⟨.bool false, by simp [runF, endF, penOf, startE, exs, ex, ev, evs, evO, evT, evTs, evI, bnd, ret, setAll, b1D, b2D, truD, isi, ixD, seqD, cmp_eq, cmp_ne, cmp_lt, cmp_le, cmp_gt, cmp_ge, eqD_ii, eqD_ss, bin_add, bin_sub, sizeLine, at0, at1, at2, at3, at4, at5, at6]⟩]
            split
            · rename_i h1
              have : netB (.tuple [.tuple js, .tuple ps]) = false := by
                rw [netB_eq]
                rw [Bool.or_eq_true] at h1
                rcases h1 with h1 | h1 <;> simp only [Bool.not_eq_true'] at h1 <;> rw [h1] <;> simp
              rw [this]
              simp [runF, endF, penOf, startE, exs, ex, ev, evs, evO, evT, evTs, evI, bnd, ret, setAll, b1D, b2D, truD, isi, ixD, seqD, cmp_eq, cmp_ne, cmp_lt, cmp_le, cmp_gt, cmp_ge, eqD_ii, eqD_ss, bin_add, bin_sub, sizeLine, at0, at1, at2, at3, at4, at5, at6]
            · rename_i h1
              rw [exs_ite T2 fun _ => ⟨.bool false, by simp [runF, endF, penOf, startE, exs, ex, ev, evs, evO, evT, evTs, evI, bnd, ret, setAll, b1D, b2D, truD, isi, ixD, seqD, cmp_eq, cmp_ne, cmp_lt, cmp_le, cmp_gt, cmp_ge, eqD_ii, eqD_ss, bin_add, bin_sub, sizeLine, at0, at1, at2, at3, at4, at5, at6]⟩]
              split
              · rename_i h2
                have : netB (.tuple [.tuple js, .tuple ps]) = false := by
                  rw [netB_eq]
                  rw [Bool.or_eq_true] at h2
                  rcases h2 with h2 | h2 <;> simp only [Bool.not_eq_true'] at h2 <;> rw [h2] <;> simp
                rw [this]
                simp [runF, endF, penOf, startE, exs, ex, ev, evs, evO, evT, evTs, evI, bnd, ret, setAll, b1D, b2D, truD, isi, ixD, seqD, cmp_eq, cmp_ne, cmp_lt, cmp_le, cmp_gt, cmp_ge, eqD_ii, eqD_ss, bin_add, bin_sub, sizeLine, at0, at1, at2, at3, at4, at5, at6]
              · rename_i h2
                simp only [Bool.or_eq_true, Bool.not_eq_true', not_or, Bool.not_eq_false] at h1 h2
                have h3 := h2.1
                rw [Bool.and_eq_true, decide_eq_true_eq, decide_eq_true_eq] at h3
                have F : ev (cf (k + 4)) (.comp (.var 5) (.name 5) (.seq (.var 3)) [(.leaf (.cmp .eq (.ix (.var 5) (.con (.int 3))) (.glob "ON")))] [5]) [some (.d (.tuple [.tuple js, .tuple ps])), none, some (.d (.tuple js)), some (.d (.tuple ps)), none, none] = some (.list ((ps.filter onP).map id), [some (.d (.tuple [.tuple js, .tuple ps])), none, some (.d (.tuple js)), some (.d (.tuple ps)), none, none]) := by
                  refine ev_compF onP id rfl (by simp) (by simp [runF, endF, penOf, startE, exs, ex, ev, evs, evO, evT, evTs, evI, bnd, ret, setAll, b1D, b2D, truD, isi, ixD, seqD, cmp_eq, cmp_ne, cmp_lt, cmp_le, cmp_gt, cmp_ge, eqD_ii, eqD_ss, bin_add, bin_sub, sizeLine, at0, at1, at2, at3, at4, at5, at6]) (by omega) (fun x hx => ?_) fun x hx => by simp [runF, endF, penOf, startE, exs, ex, ev, evs, evO, evT, evTs, evI, bnd, ret, setAll, b1D, b2D, truD, isi, ixD, seqD, cmp_eq, cmp_ne, cmp_lt, cmp_le, cmp_gt, cmp_ge, eqD_ii, eqD_ss, bin_add, bin_sub, sizeLine, at0, at1, at2, at3, at4, at5, at6]
                  obtain ⟨a, b, f, w, l, g, v, rfl⟩ := pipe_shape (List.all_eq_true.mp h2.2 x hx)
                  simp [runF, endF, penOf, startE, exs, ex, ev, evs, evO, evT, evTs, evI, bnd, ret, setAll, b1D, b2D, truD, isi, ixD, seqD, cmp_eq, cmp_ne, cmp_lt, cmp_le, cmp_gt, cmp_ge, eqD_ii, eqD_ss, bin_add, bin_sub, sizeLine, at0, at1, at2, at3, at4, at5, at6, g_ON, globD, onP, isOn]
                have hn : netB (.tuple [.tuple js, .tuple ps]) = decide ((ps.filter onP).length ≤ 4) := by
                  rw [netB_eq, h1.1, h1.2, h2.1, h2.2]
                  simp
                rw [hn]
                show bnd (ex _ (.ret (.cmp .le (.b1 .len (.comp _ _ _ _ _)) (.glob "MOST_ON"))) _) _ = _
                unfold ex ev ev
                rw [F]
                simp [runF, endF, penOf, startE, exs, ex, ev, evs, evO, evT, evTs, evI, bnd, ret, setAll, b1D, b2D, truD, isi, ixD, seqD, cmp_eq, cmp_ne, cmp_lt, cmp_le, cmp_gt, cmp_ge, eqD_ii, eqD_ss, bin_add, bin_sub, sizeLine, at0, at1, at2, at3, at4, at5, at6, g_MOST_ON, globD]
                omega
          refine run_ret rfl rfl rfl (exs_app (ss := b_is_net.take 2) (ts := b_is_net.drop 2) ?_ (main _ rfl))
          simp [runF, endF, penOf, startE, exs, ex, ev, evs, evO, evT, evTs, evI, bnd, ret, setAll, b1D, b2D, truD, isi, ixD, seqD, cmp_eq, cmp_ne, cmp_lt, cmp_le, cmp_gt, cmp_ge, eqD_ii, eqD_ss, bin_add, bin_sub, sizeLine, at0, at1, at2, at3, at4, at5, at6, b_is_net, f_is_net, cmpI, bindT, bindTs, wipeE, backE, notOwn, bools]
        · cases p <;> first | exact absurd ⟨_, rfl⟩ hp | simp [runF, endF, penOf, startE, exs, ex, ev, evs, evO, evT, evTs, evI, bnd, ret, setAll, b1D, b2D, truD, isi, ixD, seqD, cmp_eq, cmp_ne, cmp_lt, cmp_le, cmp_gt, cmp_ge, eqD_ii, eqD_ss, bin_add, bin_sub, sizeLine, at0, at1, at2, at3, at4, at5, at6, f_is_net, b_is_net, cmpI, bindT, bindTs, wipeE, backE, notOwn, bools, netB]
      · cases j <;> first | exact absurd ⟨_, rfl⟩ hj | (cases p <;> simp [runF, endF, penOf, startE, exs, ex, ev, evs, evO, evT, evTs, evI, bnd, ret, setAll, b1D, b2D, truD, isi, ixD, seqD, cmp_eq, cmp_ne, cmp_lt, cmp_le, cmp_gt, cmp_ge, eqD_ii, eqD_ss, bin_add, bin_sub, sizeLine, at0, at1, at2, at3, at4, at5, at6, f_is_net, b_is_net, cmpI, bindT, bindTs, wipeE, backE, notOwn, bools, netB])
  | _ => simp [runF, endF, penOf, startE, exs, ex, ev, evs, evO, evT, evTs, evI, bnd, ret, setAll, b1D, b2D, truD, isi, ixD, seqD, cmp_eq, cmp_ne, cmp_lt, cmp_le, cmp_gt, cmp_ge, eqD_ii, eqD_ss, bin_add, bin_sub, sizeLine, at0, at1, at2, at3, at4, at5, at6, f_is_net, b_is_net, netB]
/-! ### the drawing -/
theorem c_next (k : Nat) (x : Int) : ∃ y : Int, 0 ≤ y ∧ y < 2147483629 ∧ CI (k + 1) "_law_next" none [.int x] = some (.int y, none) := by
  have h1 := Int.emod_nonneg (x + 7919) (b := 2147483647) (by decide)
  have h2 := Int.emod_lt_of_pos (x + 7919) (b := 2147483647) (by decide)
  have m : (2 : Nat) ^ 64 < 2 ^ 4096 := by decide
  have h3 : ((x + 7919) % 2147483647).natAbs < 2 ^ 4096 := by omega
  refine ⟨(((x + 7919) % 2147483647) * ((x + 7919) % 2147483647) + 48271 * ((x + 7919) % 2147483647) + 12345) % 2147483629, Int.emod_nonneg _ (by decide), Int.emod_lt_of_pos _ (by decide), ?_⟩
  rw [u_law_next]
  simp [runF, endF, penOf, startE, exs, ex, ev, evs, evO, evT, evTs, evI, bnd, ret, setAll, b1D, b2D, truD, isi, ixD, seqD, cmp_eq, cmp_ne, cmp_lt, cmp_le, cmp_gt, cmp_ge, eqD_ii, eqD_ss, bin_add, bin_sub, sizeLine, at0, at1, at2, at3, at4, at5, at6, f_law_next, b_law_next, bin_mod, bin_mul h3 h3, bin_mul (i := 48271) (by decide) h3]
theorem c_draw (k : Nat) (p0 p1 p2 m : Int) (h0 : 0 ≤ p0) (hm : 0 < m) (hb : m < 10 ^ 100) : ∃ r q0 q2 : Int, 0 ≤ r ∧ r < m ∧ 0 ≤ q0 ∧ CI (k + 2) "_law_draw" (some [.int p0, .int p1, .int p2]) [.int m] = some (.int r, some [.int q0, .int p1, .int q2]) := by
  have m2 : (10 : Nat) ^ 100 < 2 ^ 4096 := by decide
  have hb' : m.natAbs < 2 ^ 4096 := by omega
  by_cases hc : p1 = 1 ∧ 0 < p0
  · refine ⟨p0 % m, p0 / m, p2, Int.emod_nonneg _ (by omega), Int.emod_lt_of_pos _ hm, Int.ediv_nonneg h0 (by omega), ?_⟩
    rw [u_law_draw]
    simp [runF, endF, penOf, startE, exs, ex, ev, evs, evO, evT, evTs, evI, bnd, ret, setAll, b1D, b2D, truD, isi, ixD, seqD, cmp_eq, cmp_ne, cmp_lt, cmp_le, cmp_gt, cmp_ge, eqD_ii, eqD_ss, bin_add, bin_sub, sizeLine, at0, at1, at2, at3, at4, at5, at6, f_law_draw, b_law_draw, atI, ixN, hc.1, hc.2, bin_mod hm, bin_div hm hb']
  · obtain ⟨y, y0, y1, ey⟩ := c_next k p2
    obtain ⟨z, z0, z1, ez⟩ := c_next k (y + 7)
    refine ⟨z / 64 % m, p0, z, Int.emod_nonneg _ (by omega), Int.emod_lt_of_pos _ hm, h0, ?_⟩
    rw [u_law_draw]
    by_cases e : p1 = 1
    · have : ¬ 0 < p0 := fun h => hc ⟨e, h⟩
      simp [runF, endF, penOf, startE, exs, ex, ev, evs, evO, evT, evTs, evI, bnd, ret, setAll, b1D, b2D, truD, isi, ixD, seqD, cmp_eq, cmp_ne, cmp_lt, cmp_le, cmp_gt, cmp_ge, eqD_ii, eqD_ss, bin_add, bin_sub, sizeLine, at0, at1, at2, at3, at4, at5, at6, f_law_draw, b_law_draw, atI, ixN, e, this, ey, ez, bin_mod hm, bin_div]
    · simp [runF, endF, penOf, startE, exs, ex, ev, evs, evO, evT, evTs, evI, bnd, ret, setAll, b1D, b2D, truD, isi, ixD, seqD, cmp_eq, cmp_ne, cmp_lt, cmp_le, cmp_gt, cmp_ge, eqD_ii, eqD_ss, bin_add, bin_sub, sizeLine, at0, at1, at2, at3, at4, at5, at6, f_law_draw, b_law_draw, atI, ixN, e, ey, ez, bin_mod hm, bin_div]
theorem c_cell (k : Nat) (ns : List Int) (j : Nat) : CI (k + 1) "_law_cell_at" none [.list (ns.map .int), .int j] = some (.int (ns.getD j 0), none) := by
  rw [u_law_cell_at]
  by_cases h : j < ns.length
  · have e : atI (ns.map PyData.int) (j : Int) = some (.int (ns.getD j 0)) := atI_nat (by simp [runF, endF, penOf, startE, exs, ex, ev, evs, evO, evT, evTs, evI, bnd, ret, setAll, b1D, b2D, truD, isi, ixD, seqD, cmp_eq, cmp_ne, cmp_lt, cmp_le, cmp_gt, cmp_ge, eqD_ii, eqD_ss, bin_add, bin_sub, sizeLine, at0, at1, at2, at3, at4, at5, at6, h])
    simp [runF, endF, penOf, startE, exs, ex, ev, evs, evO, evT, evTs, evI, bnd, ret, setAll, b1D, b2D, truD, isi, ixD, seqD, cmp_eq, cmp_ne, cmp_lt, cmp_le, cmp_gt, cmp_ge, eqD_ii, eqD_ss, bin_add, bin_sub, sizeLine, at0, at1, at2, at3, at4, at5, at6, f_law_cell_at, b_law_cell_at, h, e]
  · simp [runF, endF, penOf, startE, exs, ex, ev, evs, evO, evT, evTs, evI, bnd, ret, setAll, b1D, b2D, truD, isi, ixD, seqD, cmp_eq, cmp_ne, cmp_lt, cmp_le, cmp_gt, cmp_ge, eqD_ii, eqD_ss, bin_add, bin_sub, sizeLine, at0, at1, at2, at3, at4, at5, at6, f_law_cell_at, b_law_cell_at, h]
theorem c_pen (k : Nat) (x : Int) : ∃ p0 p1 p2 : Int, 0 ≤ p0 ∧ CI (k + 1) "_law_pen_of" none [.int x] = some (.list [.int p0, .int p1, .int p2], none) := by
  refine ⟨if 0 - x > x then 0 - x else x, if (10 ^ 18 : Int) ≤ (if 0 - x > x then 0 - x else x) then 1 else 0, (if 0 - x > x then 0 - x else x) % 1000003, by split <;> omega, ?_⟩
  rw [u_law_pen_of]
  have e : ∀ i : Int, binD .mod (.int i) (.int 1000003) = some (.int (i % 1000003)) := fun i => bin_mod (by decide)
  have e2 : binD .pow (.int 10) (.int 18) = some (.int (10 ^ 18)) := rfl
  simp [runF, endF, penOf, startE, exs, ex, ev, evs, evO, evT, evTs, evI, bnd, ret, setAll, b1D, b2D, truD, isi, ixD, seqD, cmp_eq, cmp_ne, cmp_lt, cmp_le, cmp_gt, cmp_ge, eqD_ii, eqD_ss, bin_add, bin_sub, sizeLine, at0, at1, at2, at3, at4, at5, at6, f_law_pen_of, b_law_pen_of, e, e2]
def oddL : List PyData := [.none, .bool true, .bool false, .int (-1), .int 0, .int 1, .int 51, .int 201, .int 100000000000, .str "", .str "both", .str "place", .tuple [], .list [], .dict [], .tuple [.int 0], .list [.int 0], .tuple [.int 0, .int 1], .tuple [.int 2, .int 4]]
theorem c_odd (k : Nat) (p0 p1 p2 : Int) (h0 : 0 ≤ p0) : ∃ (x : PyData) (q0 q2 : Int), x ∈ oddL ∧ 0 ≤ q0 ∧ CI (k + 3) "_law_odd" (some [.int p0, .int p1, .int p2]) [] = some (x, some [.int q0, .int p1, .int q2]) := by
  obtain ⟨r, q0, q2, r0, r1, hq, e⟩ := c_draw k p0 p1 p2 19 h0 (by decide) (by decide)
  obtain ⟨n, rfl⟩ := Int.eq_ofNat_of_zero_le r0
  have hn : n < oddL.length := by show n < 19; omega
  refine ⟨oddL[n], q0, q2, List.getElem_mem hn, hq, ?_⟩
  have e2 : atI oddL (n : Int) = some oddL[n] := atI_nat (List.getElem?_eq_getElem hn)
  have e2' := e2
  unfold oddL at e2
  rw [u_law_odd]
  simp [runF, endF, penOf, startE, exs, ex, ev, evs, evO, evT, evTs, evI, bnd, ret, setAll, b1D, b2D, truD, isi, ixD, seqD, cmp_eq, cmp_ne, cmp_lt, cmp_le, cmp_gt, cmp_ge, eqD_ii, eqD_ss, bin_add, bin_sub, sizeLine, at0, at1, at2, at3, at4, at5, at6, f_law_odd, b_law_odd, e, binD, e2]
  rfl

/-! ### nets, with kinds -/
inductive Jt where
  | src (h : Int)
  | tank (b s t : Int)
  | place (h l m : Int)
def Jt.d : Jt → PyData
  | .src h => .tuple [.str "source", .int h]
  | .tank b s t => .tuple [.str "tank", .int b, .int s, .int t]
  | .place h l m => .tuple [.str "place", .int h, .int l, .int m]
def Jt.ok : Jt → Prop
  | .src h => 0 ≤ h ∧ h ≤ 200
  | .tank b s t => (0 ≤ b ∧ b ≤ 150) ∧ (1 ≤ s ∧ s ≤ 50) ∧ (1 ≤ t ∧ t ≤ 50)
  | .place h l m => (0 ≤ h ∧ h ≤ 100) ∧ (0 ≤ m ∧ m ≤ 200) ∧ (0 ≤ l ∧ l ≤ m)
def Jt.isP : Jt → Bool
  | .place _ _ _ => true
  | _ => false
theorem jt_joint {j : Jt} (h : j.ok) : jointB j.d = true := by
  cases j <;> simp [Jt.ok] at h <;> simp [Jt.d, jointB, num, sp1, sp2, sp3, sp4, sp5, sp6, h]
structure Pt where
  a : Nat
  b : Nat
  f : Int
  on : Bool
  l : Int
  g : Bool
  v : Int
def wS (b : Bool) : Str := if b then "on" else "both"
def Pt.d (p : Pt) : PyData := .tuple [.int p.a, .int p.b, .int p.f, .str (wS p.on), .int p.l, .bool p.g, .int p.v]
structure Pt.ok (n : Nat) (p : Pt) : Prop where
  a : p.a < n
  b : p.b < n
  ab : p.a ≠ p.b
  f : 1 ≤ p.f ∧ p.f ≤ 20
  l : 0 ≤ p.l ∧ p.l ≤ (if p.on then 50 else 0)
  v : 0 ≤ p.v ∧ p.v ≤ 20
theorem pt_pipe {n : Nat} {p : Pt} (h : p.ok n) : pipeB n p.d = true := by
  obtain ⟨a, b, f, on, l, g, v⟩ := p
  obtain ⟨h1, h2, h3, h4, h5, h6⟩ := h
  simp only at h1 h2 h3 h4 h5 h6
  have e1 : (a : Int) ≤ n - 1 := by omega
  have e2 : (b : Int) ≤ n - 1 := by omega
  have e3 : ¬ (a : Int) = b := by omega
  cases on <;> simp at h5 <;> simp [Pt.d, pipeB, num, sameI, wayB, isOn, wS, isi, e1, e2, h4, h5, h6, both_on, on_both] <;> omega
theorem Pt.onP (p : Pt) : onP p.d = p.on := by
  obtain ⟨a, b, f, on, l, g, v⟩ := p
  cases on <;> simp [Pt.d, Wh.onP, isOn, wS, both_on]
structure Nt where
  js : List Jt
  ps : List Pt
def Nt.d (N : Nt) : PyData := .tuple [.tuple (N.js.map Jt.d), .tuple (N.ps.map Pt.d)]
structure Nt.ok (N : Nt) : Prop where
  j2 : 2 ≤ N.js.length
  j7 : N.js.length ≤ 7
  js : ∀ j ∈ N.js, j.ok
  p1 : 1 ≤ N.ps.length
  p9 : N.ps.length ≤ 9
  ps : ∀ p ∈ N.ps, p.ok N.js.length
  on : (N.ps.filter (·.on)).length ≤ 4
theorem filter_onP : ∀ ps : List Pt, ((ps.map Pt.d).filter onP).length = (ps.filter (·.on)).length
  | [] => rfl
  | p :: ps => by
    have e := Pt.onP p
    have ih := filter_onP ps
    cases h : p.on <;> rw [h] at e <;> simp [List.filter_cons, e, h, ih]
theorem Nt.ok.net {N : Nt} (h : N.ok) : netB N.d = true := by
  have a : (N.js.map Jt.d).all jointB = true := by
    rw [List.all_map, List.all_eq_true]
    exact fun j hj => jt_joint (h.js j hj)
  have b : (N.ps.map Pt.d).all (pipeB (N.js.map Jt.d).length) = true := by
    rw [List.all_map, List.all_eq_true, List.length_map]
    exact fun j hj => pt_pipe (h.ps j hj)
  have := h.j2
  have := h.j7
  have := h.p1
  have := h.p9
  have := h.on
  unfold Nt.d
  rw [netB_eq, a, b, filter_onP]
  simp
  omega
theorem Nt.ok.need {N : Nt} (h : N.ok) (k : Nat) : CI (k + 6) "need_net" none [N.d] = some (.none, none) := by
  rw [u_need_net]
  have e := c_net k N.d
  rw [h.net] at e
  simp [runF, endF, penOf, startE, exs, ex, ev, evs, evO, evT, evTs, evI, bnd, ret, setAll, b1D, b2D, truD, isi, ixD, seqD, cmp_eq, cmp_ne, cmp_lt, cmp_le, cmp_gt, cmp_ge, eqD_ii, eqD_ss, bin_add, bin_sub, sizeLine, at0, at1, at2, at3, at4, at5, at6, f_need_net, b_need_net, e]
/-! sizes -/
theorem ok_i {i : Int} (h : i.natAbs < 10 ^ 20) : Ok (.int i) 0 2000 ∧ (PyData.int i).hasDict = false := ⟨ok_int (by
  unfold szI
  have : (10 : Nat) ^ 20 < 2 ^ 1900 := Nat.lt_of_lt_of_le (by decide : (10 : Nat) ^ 20 < 2 ^ 100) (Nat.pow_le_pow_right (by decide) (by decide))
  omega), by simp [PyData.hasDict]⟩
theorem ok_b (b : Bool) : Ok (.bool b) 0 2000 ∧ (PyData.bool b).hasDict = false := ⟨(ok_bool b).mono (Nat.le_refl _) (by decide), by simp [PyData.hasDict]⟩
theorem ok_s {s : Str} (h : s = "source" ∨ s = "tank" ∨ s = "place" ∨ s = "on" ∨ s = "both") : Ok (.str s) 0 2000 ∧ (PyData.str s).hasDict = false := by
  refine ⟨⟨?_, by simp [PyData.depth], ?_, .inl (by simp [PyData.hasDict])⟩, by simp [PyData.hasDict]⟩
  · rcases h with rfl | rfl | rfl | rfl | rfl <;> decide
  · rcases h with rfl | rfl | rfl | rfl | rfl <;> decide
theorem jt_shows {j : Jt} (h : j.ok) : Ok j.d 1 9000 ∧ j.d.hasDict = false := by
  have m : (200 : Nat) < 10 ^ 20 := by decide
  cases j with
  | src a =>
    simp only [Jt.ok] at h
    have := ok_tup (okA_cons (ok_s (s := "source") (by simp)).1 (ok_s (by simp)).2 (okA_cons (v := 0) (ok_i (i := a) (by omega)).1 (ok_i (by omega)).2 okA_nil))
    exact ⟨this.1.mono (by decide) (by decide), this.2⟩
  | tank a b c =>
    simp only [Jt.ok] at h
    have := ok_tup (okA_cons (ok_s (s := "tank") (by simp)).1 (ok_s (by simp)).2 (okA_cons (ok_i (i := a) (by omega)).1 (ok_i (by omega)).2 (okA_cons (ok_i (i := b) (by omega)).1 (ok_i (by omega)).2 (okA_cons (v := 0) (ok_i (i := c) (by omega)).1 (ok_i (by omega)).2 okA_nil))))
    exact ⟨this.1.mono (by decide) (by decide), this.2⟩
  | place a b c =>
    simp only [Jt.ok] at h
    have := ok_tup (okA_cons (ok_s (s := "place") (by simp)).1 (ok_s (by simp)).2 (okA_cons (ok_i (i := a) (by omega)).1 (ok_i (by omega)).2 (okA_cons (ok_i (i := b) (by omega)).1 (ok_i (by omega)).2 (okA_cons (v := 0) (ok_i (i := c) (by omega)).1 (ok_i (by omega)).2 okA_nil))))
    exact ⟨this.1.mono (by decide) (by decide), this.2⟩
theorem pt_shows {n : Nat} {p : Pt} (h : p.ok n) (hn : n ≤ 7) : Ok p.d 1 15000 ∧ p.d.hasDict = false := by
  obtain ⟨a, b, f, on, l, g, v⟩ := p
  obtain ⟨h1, h2, h3, h4, h5, h6⟩ := h
  simp only at h1 h2 h3 h4 h5 h6
  have m : (200 : Nat) < 10 ^ 20 := by decide
  have h5' : l ≤ 50 := by split at h5 <;> omega
  have := ok_tup (okA_cons (ok_i (i := a) (by omega)).1 (ok_i (by omega)).2 (okA_cons (ok_i (i := b) (by omega)).1 (ok_i (by omega)).2 (okA_cons (ok_i (i := f) (by omega)).1 (ok_i (by omega)).2 (okA_cons (ok_s (s := wS on) (by unfold wS; cases on <;> simp)).1 (ok_s (by unfold wS; cases on <;> simp)).2 (okA_cons (ok_i (i := l) (by omega)).1 (ok_i (by omega)).2 (okA_cons (ok_b g).1 (ok_b g).2 (okA_cons (v := 0) (ok_i (i := v) (by omega)).1 (ok_i (by omega)).2 okA_nil)))))))
  exact ⟨this.1.mono (by decide) (by decide), this.2⟩
theorem ok_many {xs : List PyData} {n w N : Nat} (h : ∀ x ∈ xs, Ok x n w ∧ x.hasDict = false) (hl : xs.length ≤ N) : Ok (.tuple xs) (n + 1) (3 + N * (w + 2)) ∧ (PyData.tuple xs).hasDict = false := by
  have := ok_tup (okA_all h)
  refine ⟨this.1.mono (Nat.le_refl _) ?_, this.2⟩
  have := Nat.mul_le_mul_right (w + 2) hl
  omega
theorem Nt.ok.shows {N : Nt} (h : N.ok) : Ok N.d 3 210000 ∧ N.d.hasDict = false := by
  have a := ok_many (xs := N.js.map Jt.d) (n := 1) (w := 9000) (N := 7) (fun x hx => by
    obtain ⟨j, hj, rfl⟩ := List.mem_map.mp hx
    exact jt_shows (h.js j hj)) (by have := h.j7; simpa using this)
  have b := ok_many (xs := N.ps.map Pt.d) (n := 1) (w := 15000) (N := 9) (fun x hx => by
    obtain ⟨j, hj, rfl⟩ := List.mem_map.mp hx
    exact pt_shows (h.ps j hj) h.j7) (by have := h.p9; simpa using this)
  have := ok_tup (okA_cons a.1 a.2 (okA_cons (v := 0) b.1 b.2 okA_nil))
  exact ⟨this.1.mono (by decide) (by decide), this.2⟩
/-! cases -/
structure Cs where
  asked : List Rat
  levels : List Rat
  shut : List Nat
def intsN (l : List Nat) : List PyData := l.map fun (n : Nat) => .int (n : Int)
def Cs.d (c : Cs) : PyData := .tuple [.tuple (c.asked.map frq), .tuple (c.levels.map frq), .tuple (intsN c.shut)]
theorem mulS {i j : Int} (hi : i.natAbs < 10 ^ 20) (hj : j.natAbs < 10 ^ 20) : binD .mul (.int i) (.int j) = some (.int (i * j)) := by
  have m2 : (10 : Nat) ^ 20 < 2 ^ 4096 := by decide
  exact bin_mul (by omega) (by omega)
/-! ### looks at things of any kind -/
mutual
def fine : PyData → Bool
  | .int i => decide (i.natAbs < 10 ^ 20)
  | .tuple xs => decide (xs.length ≤ 60) && fineA xs
  | .list xs => decide (xs.length ≤ 60) && fineA xs
  | _ => true
def fineA : List PyData → Bool
  | [] => true
  | x :: xs => fine x && fineA xs
end
theorem fineA_iff : ∀ {xs : List PyData}, fineA xs = true ↔ ∀ x ∈ xs, fine x = true
  | [] => by simp [fineA]
  | x :: xs => by simp [fineA, fineA_iff (xs := xs)]
theorem fine_tup {xs : List PyData} (h : fine (.tuple xs) = true) : xs.length ≤ 60 ∧ ∀ x ∈ xs, fine x = true := by
  simp [fine] at h
  exact ⟨h.1, fineA_iff.mp h.2⟩
theorem c_common (k : Nat) (a b : Int) (ha : szI a 8000) (hb : szI b 8000) : CI (k + 1) "common" none [.int a, .int b] = some (.int (Int.gcd a b), none) := by
  rw [u_common]
  have w := wh_gcdL (cnd := evT ⟨CI k, glob, FU, XI k⟩ (.leaf (.cmp .ne (.var 1) (.con (.int 0))))) (bdy := exs ⟨CI k, glob, FU, XI k⟩ [(.par [0, 1] [(.var 1), (.bin .mod (.var 0) (.var 1))])]) (fun x y => [some (.d (.int x)), some (.d (.int y))]) (fun x y => by simp [runF, endF, penOf, startE, exs, ex, ev, evs, evO, evT, evTs, evI, bnd, ret, setAll, b1D, b2D, truD, isi, ixD, seqD, cmp_eq, cmp_ne, cmp_lt, cmp_le, cmp_gt, cmp_ge, eqD_ii, eqD_ss, bin_add, bin_sub, sizeLine, at0, at1, at2, at3, at4, at5, at6]) (fun x y hy => by simp [runF, endF, penOf, startE, exs, ex, ev, evs, evO, evT, evTs, evI, bnd, ret, setAll, b1D, b2D, truD, isi, ixD, seqD, cmp_eq, cmp_ne, cmp_lt, cmp_le, cmp_gt, cmp_ge, eqD_ii, eqD_ss, bin_add, bin_sub, sizeLine, at0, at1, at2, at3, at4, at5, at6, bin_mod hy])
    16000 FU a.natAbs b.natAbs (by omega) (by omega) (by
      unfold szI at ha hb
      have e : (2 : Nat) ^ 16000 = 2 ^ 8000 * 2 ^ 8000 := by rw [← Nat.pow_add]
      have h := Nat.mul_lt_mul_of_lt_of_lt ha hb
      rw [← e] at h
      have h2 : ((a.natAbs * b.natAbs : Nat) : Int) < ((2 ^ 16000 : Nat) : Int) := Int.ofNat_lt.mpr h
      rw [Int.natCast_mul, Int.natCast_pow] at h2
      exact h2) (by unfold FU; decide)
  have g : Int.gcd (a.natAbs : Int) (b.natAbs : Int) = Int.gcd a b := by simp [Int.gcd]
  have ab : ∀ x : Int, (if x < 0 then -x else x) = (x.natAbs : Int) := fun x => by split <;> omega
  rw [g] at w
  simp only [runF, endF, penOf, startE, exs, ex, ev, evs, evO, evT, evTs, evI, bnd, ret, setAll, b1D, b2D, truD, isi, ixD, seqD, cmp_eq, cmp_ne, cmp_lt, cmp_le, cmp_gt, cmp_ge, eqD_ii, eqD_ss, bin_add, bin_sub, sizeLine, at0, at1, at2, at3, at4, at5, at6, f_common, b_common, List.map_cons, List.map_nil, ab] at w ⊢
  simp [runF, endF, penOf, startE, exs, ex, ev, evs, evO, evT, evTs, evI, bnd, ret, setAll, b1D, b2D, truD, isi, ixD, seqD, cmp_eq, cmp_ne, cmp_lt, cmp_le, cmp_gt, cmp_ge, eqD_ii, eqD_ss, bin_add, bin_sub, sizeLine, at0, at1, at2, at3, at4, at5, at6, ab, w]
def frac : PyData → Bool
  | .tuple [.int t, .int b] => decide (0 < b) && decide (Int.gcd t b = 1)
  | _ => false
def btw (hi : Int) : PyData → Bool
  | .tuple [.int t, .int b] => decide (0 < b) && (decide (Int.gcd t b = 1) && (decide (0 ≤ t) && decide (t ≤ hi * b)))
  | _ => false
theorem fine_int {i : Int} (h : fine (.int i) = true) : i.natAbs < 10 ^ 20 := by simpa [fine] using h
theorem szI20 {i : Int} {n : Nat} (h : i.natAbs < 10 ^ 20) (hn : 100 ≤ n) : szI i n := by
  unfold szI
  have a : (10 : Nat) ^ 20 < 2 ^ 100 := by decide
  have b : (2 : Nat) ^ 100 ≤ 2 ^ n := Nat.pow_le_pow_right (by decide) hn
  omega
theorem c_fraction (k : Nat) (x : PyData) (h : fine x = true) : CI (k + 2) "is_fraction" none [x] = some (.bool (frac x), none) := by
  rw [u_is_fraction]
  match x, h with
  | .tuple [y, z], h =>
    have hf := (fine_tup h).2
    cases y <;> cases z <;> try (simp [runF, endF, penOf, startE, exs, ex, ev, evs, evO, evT, evTs, evI, bnd, ret, setAll, b1D, b2D, truD, isi, ixD, seqD, cmp_eq, cmp_ne, cmp_lt, cmp_le, cmp_gt, cmp_ge, eqD_ii, eqD_ss, bin_add, bin_sub, sizeLine, at0, at1, at2, at3, at4, at5, at6, f_is_fraction, b_is_fraction, c_whole, cmpI, bindT, wipeE, backE, notOwn, bools, frac]; done)
    rename_i a b
    have ha := fine_int (hf _ (.head _))
    have hb := fine_int (hf _ (.tail _ (.head _)))
    have cc := c_common k a b (szI20 ha (by decide)) (szI20 hb (by decide))
    by_cases h0 : 0 < b
    · simp [runF, endF, penOf, startE, exs, ex, ev, evs, evO, evT, evTs, evI, bnd, ret, setAll, b1D, b2D, truD, isi, ixD, seqD, cmp_eq, cmp_ne, cmp_lt, cmp_le, cmp_gt, cmp_ge, eqD_ii, eqD_ss, bin_add, bin_sub, sizeLine, at0, at1, at2, at3, at4, at5, at6, f_is_fraction, b_is_fraction, c_whole, cmpI, bindT, wipeE, backE, notOwn, bools, frac, atI, ixN, h0, cc]
      omega
    · simp [runF, endF, penOf, startE, exs, ex, ev, evs, evO, evT, evTs, evI, bnd, ret, setAll, b1D, b2D, truD, isi, ixD, seqD, cmp_eq, cmp_ne, cmp_lt, cmp_le, cmp_gt, cmp_ge, eqD_ii, eqD_ss, bin_add, bin_sub, sizeLine, at0, at1, at2, at3, at4, at5, at6, f_is_fraction, b_is_fraction, c_whole, cmpI, bindT, wipeE, backE, notOwn, bools, frac, atI, ixN, h0]
  | .tuple [], _ => simp [runF, endF, penOf, startE, exs, ex, ev, evs, evO, evT, evTs, evI, bnd, ret, setAll, b1D, b2D, truD, isi, ixD, seqD, cmp_eq, cmp_ne, cmp_lt, cmp_le, cmp_gt, cmp_ge, eqD_ii, eqD_ss, bin_add, bin_sub, sizeLine, at0, at1, at2, at3, at4, at5, at6, f_is_fraction, b_is_fraction, frac]
  | .tuple [_], _ => simp [runF, endF, penOf, startE, exs, ex, ev, evs, evO, evT, evTs, evI, bnd, ret, setAll, b1D, b2D, truD, isi, ixD, seqD, cmp_eq, cmp_ne, cmp_lt, cmp_le, cmp_gt, cmp_ge, eqD_ii, eqD_ss, bin_add, bin_sub, sizeLine, at0, at1, at2, at3, at4, at5, at6, f_is_fraction, b_is_fraction, frac]
  | .tuple (_ :: _ :: _ :: r), _ =>
    have e : ¬ ((r.length : Int) + 1 + 1 + 1 = 2) := by omega
    simp [runF, endF, penOf, startE, exs, ex, ev, evs, evO, evT, evTs, evI, bnd, ret, setAll, b1D, b2D, truD, isi, ixD, seqD, cmp_eq, cmp_ne, cmp_lt, cmp_le, cmp_gt, cmp_ge, eqD_ii, eqD_ss, bin_add, bin_sub, sizeLine, at0, at1, at2, at3, at4, at5, at6, f_is_fraction, b_is_fraction, frac, e]
  | .none, _ => simp [runF, endF, penOf, startE, exs, ex, ev, evs, evO, evT, evTs, evI, bnd, ret, setAll, b1D, b2D, truD, isi, ixD, seqD, cmp_eq, cmp_ne, cmp_lt, cmp_le, cmp_gt, cmp_ge, eqD_ii, eqD_ss, bin_add, bin_sub, sizeLine, at0, at1, at2, at3, at4, at5, at6, f_is_fraction, b_is_fraction, frac]
  | .bool _, _ => simp [runF, endF, penOf, startE, exs, ex, ev, evs, evO, evT, evTs, evI, bnd, ret, setAll, b1D, b2D, truD, isi, ixD, seqD, cmp_eq, cmp_ne, cmp_lt, cmp_le, cmp_gt, cmp_ge, eqD_ii, eqD_ss, bin_add, bin_sub, sizeLine, at0, at1, at2, at3, at4, at5, at6, f_is_fraction, b_is_fraction, frac]
  | .int _, _ => simp [runF, endF, penOf, startE, exs, ex, ev, evs, evO, evT, evTs, evI, bnd, ret, setAll, b1D, b2D, truD, isi, ixD, seqD, cmp_eq, cmp_ne, cmp_lt, cmp_le, cmp_gt, cmp_ge, eqD_ii, eqD_ss, bin_add, bin_sub, sizeLine, at0, at1, at2, at3, at4, at5, at6, f_is_fraction, b_is_fraction, frac]
  | .str _, _ => simp [runF, endF, penOf, startE, exs, ex, ev, evs, evO, evT, evTs, evI, bnd, ret, setAll, b1D, b2D, truD, isi, ixD, seqD, cmp_eq, cmp_ne, cmp_lt, cmp_le, cmp_gt, cmp_ge, eqD_ii, eqD_ss, bin_add, bin_sub, sizeLine, at0, at1, at2, at3, at4, at5, at6, f_is_fraction, b_is_fraction, frac]
  | .list _, _ => simp [runF, endF, penOf, startE, exs, ex, ev, evs, evO, evT, evTs, evI, bnd, ret, setAll, b1D, b2D, truD, isi, ixD, seqD, cmp_eq, cmp_ne, cmp_lt, cmp_le, cmp_gt, cmp_ge, eqD_ii, eqD_ss, bin_add, bin_sub, sizeLine, at0, at1, at2, at3, at4, at5, at6, f_is_fraction, b_is_fraction, frac]
  | .dict _, _ => simp [runF, endF, penOf, startE, exs, ex, ev, evs, evO, evT, evTs, evI, bnd, ret, setAll, b1D, b2D, truD, isi, ixD, seqD, cmp_eq, cmp_ne, cmp_lt, cmp_le, cmp_gt, cmp_ge, eqD_ii, eqD_ss, bin_add, bin_sub, sizeLine, at0, at1, at2, at3, at4, at5, at6, f_is_fraction, b_is_fraction, frac]
theorem frac_shape {x : PyData} (h : frac x = true) : ∃ t b, x = .tuple [.int t, .int b] ∧ 0 < b ∧ Int.gcd t b = 1 := by
  unfold frac at h
  split at h
  · rename_i t b
    simp at h
    exact ⟨t, b, rfl, h.1, h.2⟩
  · cases h
theorem c_between (k : Nat) (x : PyData) (h : fine x = true) (hi : Int) (h1 : hi.natAbs ≤ 1000) : CI (k + 3) "is_between" none [x, .int 0, .int hi] = some (.bool (btw hi x), none) := by
  rw [u_is_between]
  have e := c_fraction k x h
  cases hf : frac x
  · rw [hf] at e
    have hb : btw hi x = false := by
      unfold btw
      split
      · rename_i t b
        simp [frac] at hf
        by_cases h0 : 0 < b
        · simp [hf h0]
        · simp [h0]
      · rfl
    simp [runF, endF, penOf, startE, exs, ex, ev, evs, evO, evT, evTs, evI, bnd, ret, setAll, b1D, b2D, truD, isi, ixD, seqD, cmp_eq, cmp_ne, cmp_lt, cmp_le, cmp_gt, cmp_ge, eqD_ii, eqD_ss, bin_add, bin_sub, sizeLine, at0, at1, at2, at3, at4, at5, at6, f_is_between, b_is_between, e, hb]
  · rw [hf] at e
    obtain ⟨t, b, rfl, h0, hg⟩ := frac_shape hf
    have fi := (fine_tup h).2
    have ht := fine_int (fi _ (.head _))
    have hb := fine_int (fi _ (.tail _ (.head _)))
    have Q : (1000 : Nat) < 10 ^ 20 := by decide
    have m1 := mulS (i := 0) (j := b) (by decide) hb
    have m2 := mulS (i := hi) (j := b) (by omega) hb
    by_cases t0 : 0 ≤ t <;> simp [runF, endF, penOf, startE, exs, ex, ev, evs, evO, evT, evTs, evI, bnd, ret, setAll, b1D, b2D, truD, isi, ixD, seqD, cmp_eq, cmp_ne, cmp_lt, cmp_le, cmp_gt, cmp_ge, eqD_ii, eqD_ss, bin_add, bin_sub, sizeLine, at0, at1, at2, at3, at4, at5, at6, f_is_between, b_is_between, e, btw, m1, m2, h0, hg, t0]

def askB (js : List Jt) : PyData → Bool
  | .tuple xs => decide (xs.length = js.length) && (xs.zip js).all fun q => btw (if q.2.isP then 50 else 0) q.1
  | _ => false
def nou : PyData → Bool
  | .tuple [.int t, .int b] => decide (t = 0) && decide (b = 1)
  | _ => false
theorem btw_frac {hi : Int} {x : PyData} (h : btw hi x = true) : ∃ t b, x = .tuple [.int t, .int b] ∧ 0 < b ∧ Int.gcd t b = 1 ∧ 0 ≤ t ∧ t ≤ hi * b := by
  unfold btw at h
  split at h
  · rename_i t b
    simp at h
    exact ⟨t, b, rfl, h.1, h.2.1, h.2.2.1, h.2.2.2⟩
  · cases h
theorem btw_0 (x : PyData) : btw 0 x = (btw 50 x && nou x) := by
  cases h : btw 50 x
  · rw [Bool.false_and]
    cases h2 : btw 0 x
    · rfl
    · obtain ⟨t, b, rfl, a1, a2, a3, a4⟩ := btw_frac h2
      have : t ≤ 50 * b := by omega
      simp [btw, a1, a2, a3, this] at h
  · obtain ⟨t, b, rfl, a1, a2, a3, a4⟩ := btw_frac h
    rw [Bool.true_and, Bool.eq_iff_iff]
    simp [btw, nou, a1, a2, a3]
    constructor
    · intro h0
      have t0 : t = 0 := by omega
      subst t0
      rw [Int.gcd_zero_left] at a2
      exact ⟨rfl, by omega⟩
    · rintro ⟨rfl, rfl⟩
      exact Int.le_refl _
theorem all_zip {α β : Type} (p : α → Bool) : ∀ {xs : List α} {ys : List β}, xs.length = ys.length → xs.all p = (xs.zip ys).all fun q => p q.1
  | [], [], _ => rfl
  | [], _ :: _, h => by cases h
  | _ :: _, [], h => by cases h
  | x :: xs, y :: ys, h => by
    rw [List.zip_cons_cons, List.all_cons, List.all_cons, all_zip p (xs := xs) (ys := ys) (by simpa using h)]
theorem all_and {α : Type} (p q : α → Bool) : ∀ (xs : List α), (xs.all p && xs.all q) = xs.all fun x => p x && q x
  | [] => rfl
  | x :: xs => by
    rw [List.all_cons, List.all_cons, List.all_cons, ← all_and p q xs]
    cases p x <;> cases q x <;> simp
theorem eq_nou {x : PyData} {hi : Int} (h : btw hi x = true) : cmpD .eq x (.tuple [.int 0, .int 1]) = some (nou x) := by
  obtain ⟨t, b, rfl, _⟩ := btw_frac h
  rw [cmp_eq]
  simp [nou, eqD, SeqAt.shaped, PyData.canLay0, PyData.depth, PyData.depthAll, PyData.eqv, PyData.eqvAll, PyData.canLayAll0]
  rfl
theorem c_askedG (k : Nat) (N : Nt) (hN : N.ok) (x : PyData) (hx : fine x = true) : CI (k + 4) "are_asked" none [N.d, x] = some (.bool (askB N.js x), none) := by
  rw [u_are_asked]
  by_cases ht : ∃ xs, x = .tuple xs
  · obtain ⟨xs, rfl⟩ := ht
    obtain ⟨fl, ff⟩ := fine_tup hx
    obtain ⟨E, hE⟩ : ∃ E, E = [some (Sv.d N.d), some (.d (.tuple xs)), none, none] := ⟨_, rfl⟩
    refine run_ret (ρ := E) rfl rfl rfl ?_
    show exs (cf (k + 3)) b_are_asked [some (.d N.d), some (.d (.tuple xs)), none, none] = _
    rw [← hE]
    unfold b_are_asked
    by_cases hl : xs.length = N.js.length
    · have A := ev_allG (c := cf (k + 3)) (e := .call "is_between" [(.var 2), (.con (.int 0)), (.glob "MOST_ASKED")]) (tg := .name 2) (it := .seq (.var 1)) (cs := []) (own := [2]) (ρ := E) (ρ1 := E) (xs := xs) (btw 50) (by simp [hE, notOwn]) (by rw [hE]; exact evI_seqT rfl) (by simp [hE, notOwn]) (by omega) (fun y hy => by
        have e := c_between k y (ff y hy) 50 (by decide)
        simp [hE, stepC, runF, endF, penOf, startE, exs, ex, ev, evs, evO, evT, evTs, evI, bnd, ret, setAll, b1D, b2D, truD, isi, ixD, seqD, cmp_eq, cmp_ne, cmp_lt, cmp_le, cmp_gt, cmp_ge, eqD_ii, eqD_ss, bin_add, bin_sub, sizeLine, at0, at1, at2, at3, at4, at5, at6, bindT, wipeE, backE, g_MOST_ASKED, globD, e])
      rw [exs_ite (x := false) (ρ' := E) (evT_or (x := false) (y := false) (by simp [hE, runF, endF, penOf, startE, exs, ex, ev, evs, evO, evT, evTs, evI, bnd, ret, setAll, b1D, b2D, truD, isi, ixD, seqD, cmp_eq, cmp_ne, cmp_lt, cmp_le, cmp_gt, cmp_ge, eqD_ii, eqD_ss, bin_add, bin_sub, sizeLine, at0, at1, at2, at3, at4, at5, at6]) fun _ => by simp [hE, runF, endF, penOf, startE, exs, ex, ev, evs, evO, evT, evTs, evI, bnd, ret, setAll, b1D, b2D, truD, isi, ixD, seqD, cmp_eq, cmp_ne, cmp_lt, cmp_le, cmp_gt, cmp_ge, eqD_ii, eqD_ss, bin_add, bin_sub, sizeLine, at0, at1, at2, at3, at4, at5, at6, Nt.d, hl]) (fun h => by cases h)]
      simp only [if_false, Bool.false_eq_true]
      rw [exs_ite (x := !xs.all (btw 50)) (ρ' := E) (evT_not (evT_leaf A)) (fun h => ⟨_, by simp only [hE]; exact exs_ret rfl⟩)]
      have key : askB N.js (.tuple xs) = (xs.all (btw 50) && (xs.zip N.js).all fun q => nou q.1 || q.2.isP) := by
        rw [all_zip (btw 50) hl, all_and]
        simp only [askB, hl, decide_true, Bool.true_and]
        congr 1
        funext q
        cases q.2.isP
        · simp [btw_0]
        · simp
      cases ha : xs.all (btw 50)
      · rw [key, ha]
        simp [hE, runF, endF, penOf, startE, exs, ex, ev, evs, evO, evT, evTs, evI, bnd, ret, setAll, b1D, b2D, truD, isi, ixD, seqD, cmp_eq, cmp_ne, cmp_lt, cmp_le, cmp_gt, cmp_ge, eqD_ii, eqD_ss, bin_add, bin_sub, sizeLine, at0, at1, at2, at3, at4, at5, at6]
      · rw [key, ha]
        simp only [Bool.not_true, Bool.false_eq_true, if_false, Bool.true_and]
        have B := ev_allM (c := cf (k + 3)) (e := .or (.cmp .eq (.var 2) (.glob "NOUGHT")) (.cmp .eq (.ix (.var 3) (.con (.int 0))) (.glob "PLACE"))) (tg := .tup [(.name 2), (.name 3)]) (it := .zip (.var 1) (.ix (.var 0) (.con (.int 0)))) (cs := []) (own := [2, 3]) (ρ := E) (ρ1 := E) (d := fun q : PyData × Jt => .tuple [q.1, q.2.d]) (as := xs.zip N.js) (fun q => nou q.1 || q.2.isP) (by simp [hE, notOwn]) (by
            rw [hE]
            exact evI_zip (x := .tuple xs) (y := .tuple (N.js.map Jt.d)) (d := fun x => x) rfl (by simp [runF, endF, penOf, startE, exs, ex, ev, evs, evO, evT, evTs, evI, bnd, ret, setAll, b1D, b2D, truD, isi, ixD, seqD, cmp_eq, cmp_ne, cmp_lt, cmp_le, cmp_gt, cmp_ge, eqD_ii, eqD_ss, bin_add, bin_sub, sizeLine, at0, at1, at2, at3, at4, at5, at6, Nt.d]) (by simp [zipK])) (by simp [hE, notOwn]) (by simp; omega) (fun q hq => by
          obtain ⟨a, j⟩ := q
          have hb : btw 50 a = true := List.all_eq_true.mp ha a (List.of_mem_zip hq).1
          have n0 := eq_nou hb
          simp only [cmp_eq] at n0
          cases hn : nou a
          · rw [hn] at n0
            cases j <;> simp [hE, stepC, runF, endF, penOf, startE, exs, ex, ev, evs, evO, evT, evTs, evI, bnd, ret, setAll, b1D, b2D, truD, isi, ixD, seqD, cmp_eq, cmp_ne, cmp_lt, cmp_le, cmp_gt, cmp_ge, eqD_ii, eqD_ss, bin_add, bin_sub, sizeLine, at0, at1, at2, at3, at4, at5, at6, bindT, bindTs, wipeE, backE, g_NOUGHT, g_PLACE, globD, Jt.d, Jt.isP, n0, hn, sp1, sp2]
          · rw [hn] at n0
            cases j <;> simp [hE, stepC, runF, endF, penOf, startE, exs, ex, ev, evs, evO, evT, evTs, evI, bnd, ret, setAll, b1D, b2D, truD, isi, ixD, seqD, cmp_eq, cmp_ne, cmp_lt, cmp_le, cmp_gt, cmp_ge, eqD_ii, eqD_ss, bin_add, bin_sub, sizeLine, at0, at1, at2, at3, at4, at5, at6, bindT, bindTs, wipeE, backE, g_NOUGHT, g_PLACE, globD, Jt.d, Jt.isP, n0, hn])
        exact exs_ret B
    · rw [exs_ite (x := true) (ρ' := E) (evT_or (x := false) (y := true) (by simp [hE, runF, endF, penOf, startE, exs, ex, ev, evs, evO, evT, evTs, evI, bnd, ret, setAll, b1D, b2D, truD, isi, ixD, seqD, cmp_eq, cmp_ne, cmp_lt, cmp_le, cmp_gt, cmp_ge, eqD_ii, eqD_ss, bin_add, bin_sub, sizeLine, at0, at1, at2, at3, at4, at5, at6]) fun _ => by
        have : ¬ (xs.length : Int) = N.js.length := by omega
        simp [hE, runF, endF, penOf, startE, exs, ex, ev, evs, evO, evT, evTs, evI, bnd, ret, setAll, b1D, b2D, truD, isi, ixD, seqD, cmp_eq, cmp_ne, cmp_lt, cmp_le, cmp_gt, cmp_ge, eqD_ii, eqD_ss, bin_add, bin_sub, sizeLine, at0, at1, at2, at3, at4, at5, at6, Nt.d, this]) (fun h => ⟨_, by simp only [hE]; exact exs_ret rfl⟩)]
      simp [hE, runF, endF, penOf, startE, exs, ex, ev, evs, evO, evT, evTs, evI, bnd, ret, setAll, b1D, b2D, truD, isi, ixD, seqD, cmp_eq, cmp_ne, cmp_lt, cmp_le, cmp_gt, cmp_ge, eqD_ii, eqD_ss, bin_add, bin_sub, sizeLine, at0, at1, at2, at3, at4, at5, at6, askB, hl]
  · have e : askB N.js x = false := by
      unfold askB
      split
      · exact absurd ⟨_, rfl⟩ ht
      · rfl
    rw [e]
    cases x <;> first | exact absurd ⟨_, rfl⟩ ht | simp [runF, endF, penOf, startE, exs, ex, ev, evs, evO, evT, evTs, evI, bnd, ret, setAll, b1D, b2D, truD, isi, ixD, seqD, cmp_eq, cmp_ne, cmp_lt, cmp_le, cmp_gt, cmp_ge, eqD_ii, eqD_ss, bin_add, bin_sub, sizeLine, at0, at1, at2, at3, at4, at5, at6, f_are_asked, b_are_asked]

/-! what is shut, of any kind -/
def gateB (ps : List Pt) (i : Int) : Bool := decide (0 ≤ i) && match ps[i.toNat]? with
  | some p => p.g || decide (0 < p.l)
  | none => false
def canB (ps : List Pt) : PyData → Bool
  | .int i => gateB ps i
  | _ => false
def shuB (ps : List Pt) : PyData → Bool
  | .tuple xs => match intsD xs with
    | some ns => ns.all (gateB ps) && decide (ns.Pairwise (· < ·))
    | none => false
  | _ => false
theorem c_canshutG (k : Nat) (N : Nt) (y : PyData) : CI (k + 3) "can_shut" none [N.d, y] = some (.bool (canB N.ps y), none) := by
  rw [u_can_shut]
  have e1 := c_num k y 0 ((N.ps.length : Int) - 1)
  have len : ev (cf (k + 2)) (.bin .sub (.b1 .len (.ix (.var 0) (.con (.int 1)))) (.con (.int 1))) [some (.d N.d), some (.d y)] = some (.int ((N.ps.length : Int) - 1), [some (.d N.d), some (.d y)]) := by
    simp [runF, endF, penOf, startE, exs, ex, ev, evs, evO, evT, evTs, evI, bnd, ret, setAll, b1D, b2D, truD, isi, ixD, seqD, cmp_eq, cmp_ne, cmp_lt, cmp_le, cmp_gt, cmp_ge, eqD_ii, eqD_ss, bin_add, bin_sub, sizeLine, at0, at1, at2, at3, at4, at5, at6, Nt.d]
  refine run_ret (ρ := [some (.d N.d), some (.d y)]) rfl rfl rfl ?_
  show exs (cf (k + 2)) b_can_shut [some (.d N.d), some (.d y)] = _
  refine exs_ret ?_
  cases hn : num y 0 ((N.ps.length : Int) - 1)
  · rw [hn] at e1
    rw [ev_andF (ev_call3 (ρ1 := [some (.d N.d), some (.d y)]) (x := y) rfl (ρ2 := [some (.d N.d), some (.d y)]) (y := .int 0) rfl len e1)]
    have : canB N.ps y = false := by
      cases y <;> simp [canB]
      rename_i i
      simp [num] at hn
      by_cases h0 : 0 ≤ i
      · have := hn h0
        simp [gateB, h0]
        rw [List.getElem?_eq_none (by omega)]
      · simp [gateB, h0]
    rw [this]
  · rw [hn] at e1
    obtain ⟨i, rfl, h0, h1⟩ := num_int hn
    rw [ev_andT (ev_call3 (ρ1 := [some (.d N.d), some (.d (.int i))]) (x := .int i) rfl (ρ2 := [some (.d N.d), some (.d (.int i))]) (y := .int 0) rfl len e1)]
    obtain ⟨n, rfl⟩ := Int.eq_ofNat_of_zero_le h0
    have hn' : n < N.ps.length := by omega
    obtain ⟨p, hp⟩ : ∃ p, N.ps[n]? = some p := ⟨_, List.getElem?_eq_getElem hn'⟩
    have e : atI (N.ps.map Pt.d) (n : Int) = some p.d := by rw [atI_n, List.getElem?_map, hp]; rfl
    have e2 : CI (k + 2) "is_pump" none [N.d, .int n] = some (.bool (decide (0 < p.l)), none) := by
      rw [u_is_pump]
      simp [runF, endF, penOf, startE, exs, ex, ev, evs, evO, evT, evTs, evI, bnd, ret, setAll, b1D, b2D, truD, isi, ixD, seqD, cmp_eq, cmp_ne, cmp_lt, cmp_le, cmp_gt, cmp_ge, eqD_ii, eqD_ss, bin_add, bin_sub, sizeLine, at0, at1, at2, at3, at4, at5, at6, f_is_pump, b_is_pump, Nt.d, e, Pt.d]
    simp only [canB, gateB, Int.toNat_natCast, hp]
    obtain ⟨a, b, f, on, l, g, v⟩ := p
    simp [Pt.d] at e
    have e2' : (cf (k + 2)).call "is_pump" none [N.d, .int n] = some (.bool (decide (0 < l)), none) := e2
    generalize cf (k + 2) = c at *
    have i1 : ev c (.ix (.ix (.ix (.var 0) (.con (.int 1))) (.var 1)) (.con (.int 5))) [some (.d N.d), some (.d (.int n))] = some (.bool g, [some (.d N.d), some (.d (.int n))]) := by
      simp [runF, endF, penOf, startE, exs, ex, ev, evs, evO, evT, evTs, evI, bnd, ret, setAll, b1D, b2D, truD, isi, ixD, seqD, cmp_eq, cmp_ne, cmp_lt, cmp_le, cmp_gt, cmp_ge, eqD_ii, eqD_ss, bin_add, bin_sub, sizeLine, at0, at1, at2, at3, at4, at5, at6, Nt.d, e]
    cases g
    · rw [ev_orF i1, ev_call2 (ρ1 := [some (.d N.d), some (.d (.int n))]) (x := N.d) rfl (ρ2 := [some (.d N.d), some (.d (.int n))]) (y := .int n) rfl e2']
      simp
    · rw [ev_orT i1]
      simp
theorem intsD_eq : ∀ {xs : List PyData} {ns : List Int}, intsD xs = some ns → xs = ns.map .int
  | [], ns, h => by cases h; rfl
  | .int i :: xs, ns, h => by
    simp only [intsD] at h
    obtain ⟨ms, h1, rfl⟩ := Option.map_eq_some_iff.mp h
    rw [intsD_eq h1]
    rfl
  | .none :: _, _, h => by cases h
  | .bool _ :: _, _, h => by cases h
  | .str _ :: _, _, h => by cases h
  | .list _ :: _, _, h => by cases h
  | .tuple _ :: _, _, h => by cases h
  | .dict _ :: _, _, h => by cases h
theorem all_can (ps : List Pt) : ∀ xs : List PyData, xs.all (canB ps) = match intsD xs with
    | some ns => ns.all (gateB ps)
    | none => false
  | [] => rfl
  | .int i :: xs => by
    rw [List.all_cons, all_can ps xs]
    simp only [intsD, canB]
    cases intsD xs <;> simp
  | .none :: _ => by simp [canB, intsD]
  | .bool _ :: _ => by simp [canB, intsD]
  | .str _ :: _ => by simp [canB, intsD]
  | .list _ :: _ => by simp [canB, intsD]
  | .tuple _ :: _ => by simp [canB, intsD]
  | .dict _ :: _ => by simp [canB, intsD]
theorem adj_pw : ∀ {l : List Int}, ((l.dropLast.zip l.tail).all fun q => decide (q.1 < q.2)) = decide (l.Pairwise (· < ·))
  | [] => by simp
  | [a] => by simp
  | a :: b :: l => by
    have ih := adj_pw (l := b :: l)
    simp only [List.dropLast_cons_cons, List.tail_cons, List.zip_cons_cons, List.all_cons] at ih ⊢
    rw [ih, Bool.eq_iff_iff]
    simp only [Bool.and_eq_true, decide_eq_true_eq]
    constructor
    · rintro ⟨h1, h2⟩
      refine List.pairwise_cons.mpr ⟨fun c hc => ?_, h2⟩
      cases hc with
      | head => exact h1
      | tail _ hc => exact Int.lt_trans h1 ((List.pairwise_cons.mp h2).1 c hc)
    · intro h
      exact ⟨(List.pairwise_cons.mp h).1 b (.head _), (List.pairwise_cons.mp h).2⟩
theorem cut_tl (l : List PyData) : cutD l (some 1) none = l.tail := by
  cases l with
  | nil => exact cut_10
  | cons x l => exact cut_1 x l
theorem c_risingG (k : Nat) (l : List Int) (hl : l.length ≤ 1000) : CI (k + 1) "are_rising" none [.tuple (l.map .int)] = some (.bool (decide (l.Pairwise (· < ·))), none) := by
  rw [u_are_rising]
  obtain ⟨E, hE⟩ : ∃ E, E = [some (Sv.d (.tuple (l.map .int))), none, none] := ⟨_, rfl⟩
  have B := ev_allM (c := cf k) (e := .cmp .lt (.var 1) (.var 2)) (tg := .tup [(.name 1), (.name 2)]) (it := .zip (.sl (.var 0) none (some (.neg (.con (.int 1))))) (.sl (.var 0) (some (.con (.int 1))) none)) (cs := []) (own := [1, 2]) (ρ := E) (ρ1 := E) (d := fun q : Int × Int => .tuple [.int q.1, .int q.2]) (as := l.dropLast.zip l.tail) (fun q => decide (q.1 < q.2)) (by simp [hE, notOwn]) (by
      refine evI_zip (x := .tuple (l.map PyData.int).dropLast) (y := .tuple (l.map PyData.int).tail) (d := .int) (e := .int) (ρ1 := E) (by rw [hE]; simp [runF, endF, penOf, startE, exs, ex, ev, evs, evO, evT, evTs, evI, bnd, ret, setAll, b1D, b2D, truD, isi, ixD, seqD, cmp_eq, cmp_ne, cmp_lt, cmp_le, cmp_gt, cmp_ge, eqD_ii, eqD_ss, bin_add, bin_sub, sizeLine, at0, at1, at2, at3, at4, at5, at6, partD, slD, cut_neg]) (by rw [hE]; simp [runF, endF, penOf, startE, exs, ex, ev, evs, evO, evT, evTs, evI, bnd, ret, setAll, b1D, b2D, truD, isi, ixD, seqD, cmp_eq, cmp_ne, cmp_lt, cmp_le, cmp_gt, cmp_ge, eqD_ii, eqD_ss, bin_add, bin_sub, sizeLine, at0, at1, at2, at3, at4, at5, at6, partD, slD, cut_tl]) ?_
      rw [← List.map_dropLast, ← List.map_tail]
      rfl) (by simp [hE, notOwn]) (by simp; omega) (fun q hq => by
    simp [hE, stepC, runF, endF, penOf, startE, exs, ex, ev, evs, evO, evT, evTs, evI, bnd, ret, setAll, b1D, b2D, truD, isi, ixD, seqD, cmp_eq, cmp_ne, cmp_lt, cmp_le, cmp_gt, cmp_ge, eqD_ii, eqD_ss, bin_add, bin_sub, sizeLine, at0, at1, at2, at3, at4, at5, at6, bindT, bindTs, wipeE, backE])
  rw [adj_pw] at B
  refine run_ret (ρ := E) rfl rfl rfl ?_
  show exs (cf k) b_are_rising [some (.d (.tuple (l.map .int))), none, none] = _
  rw [← hE]
  exact exs_ret B
theorem c_shutG (k : Nat) (N : Nt) (x : PyData) (hx : fine x = true) : CI (k + 4) "are_shut" none [N.d, x] = some (.bool (shuB N.ps x), none) := by
  rw [u_are_shut]
  by_cases ht : ∃ xs, x = .tuple xs
  · obtain ⟨xs, rfl⟩ := ht
    obtain ⟨fl, ff⟩ := fine_tup hx
    obtain ⟨E, hE⟩ : ∃ E, E = [some (Sv.d N.d), some (.d (.tuple xs)), none] := ⟨_, rfl⟩
    have B := ev_allG (c := cf (k + 3)) (e := .call "can_shut" [(.var 0), (.var 2)]) (tg := .name 2) (it := .seq (.var 1)) (cs := []) (own := [2]) (ρ := E) (ρ1 := E) (xs := xs) (canB N.ps) (by simp [hE, notOwn]) (by rw [hE]; exact evI_seqT rfl) (by simp [hE, notOwn]) (by omega) (fun y hy => by
      have e := c_canshutG k N y
      simp [hE, stepC, runF, endF, penOf, startE, exs, ex, ev, evs, evO, evT, evTs, evI, bnd, ret, setAll, b1D, b2D, truD, isi, ixD, seqD, cmp_eq, cmp_ne, cmp_lt, cmp_le, cmp_gt, cmp_ge, eqD_ii, eqD_ss, bin_add, bin_sub, sizeLine, at0, at1, at2, at3, at4, at5, at6, bindT, wipeE, backE, e])
    refine run_ret (ρ := E) rfl rfl rfl ?_
    show exs (cf (k + 3)) b_are_shut [some (.d N.d), some (.d (.tuple xs)), none] = _
    rw [← hE]
    refine exs_ret ?_
    rw [ev_andT (ρ1 := E) (by rw [hE]; rfl)]
    rw [all_can] at B
    simp only [shuB]
    cases hi : intsD xs with
    | none =>
      rw [hi] at B
      rw [ev_andF B]
    | some ns =>
      rw [hi] at B
      simp only at B ⊢
      cases ha : ns.all (gateB N.ps)
      · rw [ha] at B
        rw [ev_andF B]
        simp
      · rw [ha] at B
        rw [ev_andT B]
        have e := intsD_eq hi
        have R := c_risingG (k + 2) ns (by rw [e] at fl; simp at fl; omega)
        rw [hE, e]
        rw [ev_call1 (ρ1 := [some (Sv.d N.d), some (.d (.tuple (ns.map .int))), none]) (x := .tuple (ns.map .int)) rfl R]
        simp
  · have e : shuB N.ps x = false := by
      unfold shuB
      split
      · exact absurd ⟨_, rfl⟩ ht
      · rfl
    rw [e]
    cases x <;> first | exact absurd ⟨_, rfl⟩ ht | simp [runF, endF, penOf, startE, exs, ex, ev, evs, evO, evT, evTs, evI, bnd, ret, setAll, b1D, b2D, truD, isi, ixD, seqD, cmp_eq, cmp_ne, cmp_lt, cmp_le, cmp_gt, cmp_ge, eqD_ii, eqD_ss, bin_add, bin_sub, sizeLine, at0, at1, at2, at3, at4, at5, at6, f_are_shut, b_are_shut]

def Jt.top : Jt → Option Int
  | .tank _ _ t => some t
  | _ => none
def Nt.tops (N : Nt) : List Int := N.js.filterMap Jt.top
theorem js_len (N : Nt) (c : Cfg) (ρ : En) (h : ρ[0]? = some (some (.d N.d))) : ev c (.b1 .len (.ix (.var 0) (.con (.int 0)))) ρ = some (.int N.js.length, ρ) := by
  simp [runF, endF, penOf, startE, exs, ex, ev, evs, evO, evT, evTs, evI, bnd, ret, setAll, b1D, b2D, truD, isi, ixD, seqD, cmp_eq, cmp_ne, cmp_lt, cmp_le, cmp_gt, cmp_ge, eqD_ii, eqD_ss, bin_add, bin_sub, sizeLine, at0, at1, at2, at3, at4, at5, at6, h, Nt.d]
/-! tanks -/
def Jt.tk (j : Jt) (i : Nat) : Option Nat := match j with
  | .tank _ _ _ => some i
  | _ => none
def Nt.tix (N : Nt) : List Nat := N.js.zipIdx.filterMap fun q => q.1.tk q.2
theorem zip_mem {α : Type} {xs : List α} {q : α × Nat} (h : q ∈ xs.zipIdx) : xs[q.2]? = some q.1 := by
  have := List.mem_zipIdx_iff_getElem?.mp h
  simpa using this
theorem range_zip {α β : Type} (xs : List α) (g : Nat → Option β) : (List.range xs.length).filterMap g = xs.zipIdx.filterMap fun q => g q.2 := by
  rw [List.range_eq_range', ← List.zipIdx_map_snd, List.filterMap_map]
  rfl
theorem c_tanks (k : Nat) (N : Nt) (hN : N.ok) : CI (k + 1) "tanks_of" none [N.d] = some (.list (intsN N.tix), none) := by
  rw [u_tanks_of]
  have j7 := hN.j7
  have A := ev_compP (c := cf k) (e := .var 1) (tg := .name 1) (it := .rng1 (.b1 .len (.ix (.var 0) (.con (.int 0))))) (cs := [(.leaf (.cmp .eq (.ix (.ix (.ix (.var 0) (.con (.int 0))) (.var 1)) (.con (.int 0))) (.glob "TANK")))]) (own := [1]) (ρ := [some (.d N.d), none]) (ρ1 := [some (.d N.d), none]) (d := fun (j : Nat) => .int (j : Int)) (as := List.range N.js.length) (fun i => ((N.js[i]?).bind fun j => j.tk i).map fun (i : Nat) => .int (i : Int)) (by simp [notOwn]) (evI_rng (js_len N _ _ rfl) (by omega)) (by simp [notOwn]) (by simp; omega) (fun i hi => by
    have hi' := List.mem_range.mp hi
    obtain ⟨j, hj⟩ : ∃ j, N.js[i]? = some j := ⟨_, List.getElem?_eq_getElem hi'⟩
    have e : atI (N.js.map Jt.d) (i : Int) = some j.d := by rw [atI_n, List.getElem?_map, hj]; rfl
    rw [hj]
    cases j with
    | place x y z => simp [Jt.d] at e; simp [stepC, runF, endF, penOf, startE, exs, ex, ev, evs, evO, evT, evTs, evI, bnd, ret, setAll, b1D, b2D, truD, isi, ixD, seqD, cmp_eq, cmp_ne, cmp_lt, cmp_le, cmp_gt, cmp_ge, eqD_ii, eqD_ss, bin_add, bin_sub, sizeLine, at0, at1, at2, at3, at4, at5, at6, bindT, wipeE, backE, Nt.d, e, Jt.d, Jt.tk, g_TANK, globD, sp5]
    | src x => simp [Jt.d] at e; simp [stepC, runF, endF, penOf, startE, exs, ex, ev, evs, evO, evT, evTs, evI, bnd, ret, setAll, b1D, b2D, truD, isi, ixD, seqD, cmp_eq, cmp_ne, cmp_lt, cmp_le, cmp_gt, cmp_ge, eqD_ii, eqD_ss, bin_add, bin_sub, sizeLine, at0, at1, at2, at3, at4, at5, at6, bindT, wipeE, backE, Nt.d, e, Jt.d, Jt.tk, g_TANK, globD, sp4]
    | tank x y z => simp [Jt.d] at e; simp [stepC, runF, endF, penOf, startE, exs, ex, ev, evs, evO, evT, evTs, evI, bnd, ret, setAll, b1D, b2D, truD, isi, ixD, seqD, cmp_eq, cmp_ne, cmp_lt, cmp_le, cmp_gt, cmp_ge, eqD_ii, eqD_ss, bin_add, bin_sub, sizeLine, at0, at1, at2, at3, at4, at5, at6, bindT, wipeE, backE, Nt.d, e, Jt.d, Jt.tk, g_TANK, globD])
  have e : (List.range N.js.length).filterMap (fun i => ((N.js[i]?).bind fun j => j.tk i).map fun (i : Nat) => PyData.int (i : Int)) = intsN N.tix := by
    rw [range_zip]
    unfold intsN Nt.tix
    rw [List.map_filterMap]
    refine fm_congr fun q hq => ?_
    rw [zip_mem hq]
    rfl
  rw [e] at A
  refine run_lst (ρ := [some (.d N.d), none]) rfl rfl ?_
  exact exs_ret A
def topAt (js : List Jt) (i : Nat) : Int := ((js[i]?).bind Jt.top).getD 0
theorem tops_tix (N : Nt) : N.tops = N.tix.map (topAt N.js) := by
  unfold Nt.tops Nt.tix
  rw [List.map_filterMap]
  have e : N.js.filterMap Jt.top = (N.js.zipIdx.map Prod.fst).filterMap Jt.top := by rw [List.zipIdx_map_fst]
  rw [e, List.filterMap_map]
  refine fm_congr fun q hq => ?_
  have := zip_mem hq
  obtain ⟨j, i⟩ := q
  cases j <;> simp_all [Jt.tk, Jt.top, topAt]
theorem tix_lt (N : Nt) : ∀ i ∈ N.tix, ∃ x y t, N.js[i]? = some (.tank x y t) := fun i hi => by
  unfold Nt.tix at hi
  obtain ⟨q, hq, e⟩ := List.mem_filterMap.mp hi
  have := zip_mem hq
  obtain ⟨j, n⟩ := q
  cases j <;> simp [Jt.tk] at e
  subst e
  exact ⟨_, _, _, this⟩
theorem tix_len (N : Nt) : N.tix.length ≤ N.js.length := by
  unfold Nt.tix
  have := List.length_filterMap_le (fun q : Jt × Nat => q.1.tk q.2) N.js.zipIdx
  simpa using this
def levB (N : Nt) : PyData → Bool
  | .tuple xs => decide (xs.length = N.tops.length) && (xs.zip N.tops).all fun q => btw q.2 q.1
  | _ => false
theorem c_levelsG (k : Nat) (N : Nt) (hN : N.ok) (x : PyData) (hx : fine x = true) : CI (k + 4) "are_levels_of" none [N.d, x] = some (.bool (levB N x), none) := by
  rw [u_are_levels_of]
  have j7 := hN.j7
  have T := c_tanks (k + 2) N hN
  have hl2 := tix_len N
  have hl3 : N.tops.length = N.tix.length := by rw [tops_tix]; simp
  by_cases ht : ∃ xs, x = .tuple xs
  · obtain ⟨xs, rfl⟩ := ht
    obtain ⟨fl, ff⟩ := fine_tup hx
    obtain ⟨E, hE⟩ : ∃ E, E = [some (Sv.d N.d), some (.d (.tuple xs)), some (.d (.list (intsN N.tix))), none, none] := ⟨_, rfl⟩
    refine run_ret (ρ := E) rfl rfl rfl ?_
    show exs (cf (k + 3)) b_are_levels_of [some (.d N.d), some (.d (.tuple xs)), none, none, none] = _
    unfold b_are_levels_of
    refine exs_next (ρ' := E) (by simp [hE, runF, endF, penOf, startE, exs, ex, ev, evs, evO, evT, evTs, evI, bnd, ret, setAll, b1D, b2D, truD, isi, ixD, seqD, cmp_eq, cmp_ne, cmp_lt, cmp_le, cmp_gt, cmp_ge, eqD_ii, eqD_ss, bin_add, bin_sub, sizeLine, at0, at1, at2, at3, at4, at5, at6, T]) ?_
    by_cases hl : xs.length = N.tix.length
    · rw [exs_ite (x := false) (ρ' := E) (evT_or (x := false) (y := false) (by simp [hE, runF, endF, penOf, startE, exs, ex, ev, evs, evO, evT, evTs, evI, bnd, ret, setAll, b1D, b2D, truD, isi, ixD, seqD, cmp_eq, cmp_ne, cmp_lt, cmp_le, cmp_gt, cmp_ge, eqD_ii, eqD_ss, bin_add, bin_sub, sizeLine, at0, at1, at2, at3, at4, at5, at6]) fun _ => by
        simp [hE, runF, endF, penOf, startE, exs, ex, ev, evs, evO, evT, evTs, evI, bnd, ret, setAll, b1D, b2D, truD, isi, ixD, seqD, cmp_eq, cmp_ne, cmp_lt, cmp_le, cmp_gt, cmp_ge, eqD_ii, eqD_ss, bin_add, bin_sub, sizeLine, at0, at1, at2, at3, at4, at5, at6, intsN, hl]) (fun h => by cases h)]
      simp only [if_false, Bool.false_eq_true]
      have B := ev_allM (c := cf (k + 3)) (e := .call "is_between" [(.var 3), (.con (.int 0)), (.ix (.ix (.ix (.var 0) (.con (.int 0))) (.var 4)) (.con (.int 3)))]) (tg := .tup [(.name 3), (.name 4)]) (it := .zip (.var 1) (.var 2)) (cs := []) (own := [3, 4]) (ρ := E) (ρ1 := E) (d := fun q : PyData × Nat => .tuple [q.1, .int (q.2 : Int)]) (as := xs.zip N.tix) (fun q => btw (topAt N.js q.2) q.1) (by simp [hE, notOwn]) (by rw [hE]; exact evI_zip (x := .tuple xs) (y := .list (intsN N.tix)) (d := fun x => x) (e := fun (n : Nat) => .int (n : Int)) (as := xs) (bs := N.tix) (ρ1 := [some (Sv.d N.d), some (.d (.tuple xs)), some (.d (.list (intsN N.tix))), none, none]) rfl rfl (by simp [zipK, intsN])) (by simp [hE, notOwn]) (by simp; omega) (fun q hq => by
        obtain ⟨a, i⟩ := q
        have hm := List.of_mem_zip hq
        obtain ⟨x, y, t, e⟩ := tix_lt N i hm.2
        have e' : atI (N.js.map Jt.d) (i : Int) = some (Jt.tank x y t).d := by rw [atI_n, List.getElem?_map, e]; rfl
        have ok := hN.js _ (List.mem_of_getElem? e)
        simp only [Jt.ok] at ok
        have c := c_between k a (ff a hm.1) t (by omega)
        have tt : topAt N.js i = t := by simp [topAt, e, Jt.top]
        simp [Jt.d] at e'
        simp only [tt]
        simp [hE, stepC, runF, endF, penOf, startE, exs, ex, ev, evs, evO, evT, evTs, evI, bnd, ret, setAll, b1D, b2D, truD, isi, ixD, seqD, cmp_eq, cmp_ne, cmp_lt, cmp_le, cmp_gt, cmp_ge, eqD_ii, eqD_ss, bin_add, bin_sub, sizeLine, at0, at1, at2, at3, at4, at5, at6, bindT, bindTs, wipeE, backE, Nt.d, e', c])
      have e : levB N (.tuple xs) = (xs.zip N.tix).all fun q => btw (topAt N.js q.2) q.1 := by
        simp only [levB]
        rw [decide_eq_true (by omega), Bool.true_and, tops_tix, List.zip_map_right, List.all_map]
        rfl
      rw [e]
      exact exs_ret B
    · rw [exs_ite (x := true) (ρ' := E) (evT_or (x := false) (y := true) (by simp [hE, runF, endF, penOf, startE, exs, ex, ev, evs, evO, evT, evTs, evI, bnd, ret, setAll, b1D, b2D, truD, isi, ixD, seqD, cmp_eq, cmp_ne, cmp_lt, cmp_le, cmp_gt, cmp_ge, eqD_ii, eqD_ss, bin_add, bin_sub, sizeLine, at0, at1, at2, at3, at4, at5, at6]) fun _ => by
        have : ¬ (xs.length : Int) = (N.tix.length : Int) := by omega
        simp [hE, runF, endF, penOf, startE, exs, ex, ev, evs, evO, evT, evTs, evI, bnd, ret, setAll, b1D, b2D, truD, isi, ixD, seqD, cmp_eq, cmp_ne, cmp_lt, cmp_le, cmp_gt, cmp_ge, eqD_ii, eqD_ss, bin_add, bin_sub, sizeLine, at0, at1, at2, at3, at4, at5, at6, intsN, this]) (fun h => ⟨_, by simp only [hE]; exact exs_ret rfl⟩)]
      have : levB N (.tuple xs) = false := by
        simp only [levB]
        rw [decide_eq_false (by omega), Bool.false_and]
      rw [this]
      simp [hE, runF, endF, penOf, startE, exs, ex, ev, evs, evO, evT, evTs, evI, bnd, ret, setAll, b1D, b2D, truD, isi, ixD, seqD, cmp_eq, cmp_ne, cmp_lt, cmp_le, cmp_gt, cmp_ge, eqD_ii, eqD_ss, bin_add, bin_sub, sizeLine, at0, at1, at2, at3, at4, at5, at6]
  · have e : levB N x = false := by
      unfold levB
      split
      · exact absurd ⟨_, rfl⟩ ht
      · rfl
    rw [e]
    cases x <;> first | exact absurd ⟨_, rfl⟩ ht | simp [runF, endF, penOf, startE, exs, ex, ev, evs, evO, evT, evTs, evI, bnd, ret, setAll, b1D, b2D, truD, isi, ixD, seqD, cmp_eq, cmp_ne, cmp_lt, cmp_le, cmp_gt, cmp_ge, eqD_ii, eqD_ss, bin_add, bin_sub, sizeLine, at0, at1, at2, at3, at4, at5, at6, f_are_levels_of, b_are_levels_of, T]

/-! ### nets have kinds -/
theorem jt_of {x : PyData} (h : jointB x = true) : ∃ j : Jt, x = j.d ∧ j.ok := by
  unfold jointB at h
  split at h
  · rename_i w y
    simp only [Bool.and_eq_true, decide_eq_true_eq] at h
    obtain ⟨rfl, h2⟩ := h
    obtain ⟨i, rfl, a, b⟩ := num_int h2
    exact ⟨.src i, rfl, a, b⟩
  · rename_i w y l m
    simp only [Bool.or_eq_true, Bool.and_eq_true, decide_eq_true_eq] at h
    rcases h with ⟨rfl, h1, h2, h3⟩ | ⟨rfl, h1, h2, h3⟩
    · obtain ⟨i, rfl, a⟩ := num_int h1
      obtain ⟨j, rfl, b⟩ := num_int h2
      obtain ⟨n, rfl, c⟩ := num_int h3
      exact ⟨.place i n j, rfl, a, b, c⟩
    · obtain ⟨i, rfl, a⟩ := num_int h1
      obtain ⟨j, rfl, b⟩ := num_int h2
      obtain ⟨n, rfl, c⟩ := num_int h3
      exact ⟨.tank i j n, rfl, a, b, c⟩
  · cases h
theorem pt_of {n : Nat} {x : PyData} (h : pipeB n x = true) : ∃ p : Pt, x = p.d ∧ p.ok n := by
  unfold pipeB at h
  split at h
  · rename_i a b f w l g v
    simp only [Bool.and_eq_true] at h
    obtain ⟨h1, h2, h3, h4, h5, h6, h7, h8⟩ := h
    obtain ⟨i, rfl, i0, i1⟩ := num_int h1
    obtain ⟨j, rfl, j0, j1⟩ := num_int h2
    obtain ⟨f, rfl, f0⟩ := num_int h4
    obtain ⟨l, rfl, l0⟩ := num_int h6
    obtain ⟨v, rfl, v0⟩ := num_int h8
    obtain ⟨i, rfl⟩ := Int.eq_ofNat_of_zero_le i0
    obtain ⟨j, rfl⟩ := Int.eq_ofNat_of_zero_le j0
    cases g <;> simp [isi] at h7
    rename_i g
    cases w <;> simp [wayB] at h5
    rename_i w
    have hij : i ≠ j := by
      intro e
      subst e
      simp [sameI] at h3
    rcases h5 with rfl | rfl
    · exact ⟨⟨i, j, f, false, l, g, v⟩, rfl, ⟨by show i < n; omega, by show j < n; omega, hij, f0, by simpa [isOn, both_on] using l0, v0⟩⟩
    · exact ⟨⟨i, j, f, true, l, g, v⟩, rfl, ⟨by show i < n; omega, by show j < n; omega, hij, f0, by simpa [isOn] using l0, v0⟩⟩
  · cases h
theorem map_of {α : Type} {d : α → PyData} {p : α → Prop} : ∀ {xs : List PyData}, (∀ x ∈ xs, ∃ a, x = d a ∧ p a) → ∃ as : List α, xs = as.map d ∧ ∀ a ∈ as, p a
  | [], _ => ⟨[], rfl, fun _ h => nomatch h⟩
  | x :: xs, h => by
    obtain ⟨a, e, pa⟩ := h x (.head _)
    obtain ⟨as, es, ps⟩ := map_of fun y hy => h y (.tail _ hy)
    refine ⟨a :: as, by rw [e, es]; rfl, fun b hb => ?_⟩
    cases hb with
    | head => exact pa
    | tail _ hb => exact ps b hb
theorem nt_of {js ps : List PyData} (h : netB (.tuple [.tuple js, .tuple ps]) = true) : ∃ N : Nt, js = N.js.map Jt.d ∧ ps = N.ps.map Pt.d ∧ N.ok := by
  rw [netB_eq] at h
  simp only [Bool.and_eq_true, decide_eq_true_eq] at h
  obtain ⟨⟨⟨a, b⟩, c⟩, ⟨⟨d, e⟩, f⟩, g⟩ := h
  obtain ⟨J, rfl, oj⟩ := map_of (d := Jt.d) fun x hx => jt_of (List.all_eq_true.mp c x hx)
  obtain ⟨P, rfl, op⟩ := map_of (d := Pt.d) fun x hx => pt_of (List.all_eq_true.mp f x hx)
  rw [filter_onP] at g
  simp only [List.length_map] at a b d e op
  exact ⟨⟨J, P⟩, rfl, rfl, ⟨a, b, oj, d, e, op, g⟩⟩
/-! ### cases, of any kind -/
def caseB (N : Nt) : PyData → Bool
  | .tuple [a, l, s] => askB N.js a && (levB N l && shuB N.ps s)
  | _ => false
theorem c_caseof (k : Nat) (N : Nt) (hN : N.ok) (x : PyData) (hx : fine x = true) : CI (k + 5) "is_case_of" none [N.d, x] = some (.bool (caseB N x), none) := by
  rw [u_is_case_of]
  by_cases h3 : ∃ a l s, x = .tuple [a, l, s]
  · obtain ⟨a, l, s, rfl⟩ := h3
    have ff := (fine_tup hx).2
    have A := c_askedG k N hN a (ff _ (.head _))
    have B := c_levelsG k N hN l (ff _ (.tail _ (.head _)))
    have C := c_shutG k N s (ff _ (.tail _ (.tail _ (.head _))))
    simp only [caseB]
    cases qa : askB N.js a <;> cases qb : levB N l <;> rw [qa] at A <;> rw [qb] at B <;> simp [runF, endF, penOf, startE, exs, ex, ev, evs, evO, evT, evTs, evI, bnd, ret, setAll, b1D, b2D, truD, isi, ixD, seqD, cmp_eq, cmp_ne, cmp_lt, cmp_le, cmp_gt, cmp_ge, eqD_ii, eqD_ss, bin_add, bin_sub, sizeLine, at0, at1, at2, at3, at4, at5, at6, f_is_case_of, b_is_case_of, A, B, C]
  · have e : caseB N x = false := by
      unfold caseB
      split
      · exact absurd ⟨_, _, _, rfl⟩ h3
      · rfl
    rw [e]
    match x, h3 with
    | .tuple [], _ => simp [runF, endF, penOf, startE, exs, ex, ev, evs, evO, evT, evTs, evI, bnd, ret, setAll, b1D, b2D, truD, isi, ixD, seqD, cmp_eq, cmp_ne, cmp_lt, cmp_le, cmp_gt, cmp_ge, eqD_ii, eqD_ss, bin_add, bin_sub, sizeLine, at0, at1, at2, at3, at4, at5, at6, f_is_case_of, b_is_case_of]
    | .tuple [_], _ => simp [runF, endF, penOf, startE, exs, ex, ev, evs, evO, evT, evTs, evI, bnd, ret, setAll, b1D, b2D, truD, isi, ixD, seqD, cmp_eq, cmp_ne, cmp_lt, cmp_le, cmp_gt, cmp_ge, eqD_ii, eqD_ss, bin_add, bin_sub, sizeLine, at0, at1, at2, at3, at4, at5, at6, f_is_case_of, b_is_case_of]
    | .tuple [_, _], _ => simp [runF, endF, penOf, startE, exs, ex, ev, evs, evO, evT, evTs, evI, bnd, ret, setAll, b1D, b2D, truD, isi, ixD, seqD, cmp_eq, cmp_ne, cmp_lt, cmp_le, cmp_gt, cmp_ge, eqD_ii, eqD_ss, bin_add, bin_sub, sizeLine, at0, at1, at2, at3, at4, at5, at6, f_is_case_of, b_is_case_of]
    | .tuple [_, _, _], h => exact absurd ⟨_, _, _, rfl⟩ h
    | .tuple (_ :: _ :: _ :: _ :: r), _ =>
      have e : ¬ ((r.length : Int) + 1 + 1 + 1 + 1 = 3) := by omega
      simp [runF, endF, penOf, startE, exs, ex, ev, evs, evO, evT, evTs, evI, bnd, ret, setAll, b1D, b2D, truD, isi, ixD, seqD, cmp_eq, cmp_ne, cmp_lt, cmp_le, cmp_gt, cmp_ge, eqD_ii, eqD_ss, bin_add, bin_sub, sizeLine, at0, at1, at2, at3, at4, at5, at6, f_is_case_of, b_is_case_of, e]
    | .none, _ => simp [runF, endF, penOf, startE, exs, ex, ev, evs, evO, evT, evTs, evI, bnd, ret, setAll, b1D, b2D, truD, isi, ixD, seqD, cmp_eq, cmp_ne, cmp_lt, cmp_le, cmp_gt, cmp_ge, eqD_ii, eqD_ss, bin_add, bin_sub, sizeLine, at0, at1, at2, at3, at4, at5, at6, f_is_case_of, b_is_case_of]
    | .bool _, _ => simp [runF, endF, penOf, startE, exs, ex, ev, evs, evO, evT, evTs, evI, bnd, ret, setAll, b1D, b2D, truD, isi, ixD, seqD, cmp_eq, cmp_ne, cmp_lt, cmp_le, cmp_gt, cmp_ge, eqD_ii, eqD_ss, bin_add, bin_sub, sizeLine, at0, at1, at2, at3, at4, at5, at6, f_is_case_of, b_is_case_of]
    | .int _, _ => simp [runF, endF, penOf, startE, exs, ex, ev, evs, evO, evT, evTs, evI, bnd, ret, setAll, b1D, b2D, truD, isi, ixD, seqD, cmp_eq, cmp_ne, cmp_lt, cmp_le, cmp_gt, cmp_ge, eqD_ii, eqD_ss, bin_add, bin_sub, sizeLine, at0, at1, at2, at3, at4, at5, at6, f_is_case_of, b_is_case_of]
    | .str _, _ => simp [runF, endF, penOf, startE, exs, ex, ev, evs, evO, evT, evTs, evI, bnd, ret, setAll, b1D, b2D, truD, isi, ixD, seqD, cmp_eq, cmp_ne, cmp_lt, cmp_le, cmp_gt, cmp_ge, eqD_ii, eqD_ss, bin_add, bin_sub, sizeLine, at0, at1, at2, at3, at4, at5, at6, f_is_case_of, b_is_case_of]
    | .list _, _ => simp [runF, endF, penOf, startE, exs, ex, ev, evs, evO, evT, evTs, evI, bnd, ret, setAll, b1D, b2D, truD, isi, ixD, seqD, cmp_eq, cmp_ne, cmp_lt, cmp_le, cmp_gt, cmp_ge, eqD_ii, eqD_ss, bin_add, bin_sub, sizeLine, at0, at1, at2, at3, at4, at5, at6, f_is_case_of, b_is_case_of]
    | .dict _, _ => simp [runF, endF, penOf, startE, exs, ex, ev, evs, evO, evT, evTs, evI, bnd, ret, setAll, b1D, b2D, truD, isi, ixD, seqD, cmp_eq, cmp_ne, cmp_lt, cmp_le, cmp_gt, cmp_ge, eqD_ii, eqD_ss, bin_add, bin_sub, sizeLine, at0, at1, at2, at3, at4, at5, at6, f_is_case_of, b_is_case_of]
theorem c_case (k : Nat) (N : Nt) (hN : N.ok) (x : PyData) (hx : fine x = true) : CI (k + 7) "is_case" none [N.d, x] = some (.bool (caseB N x), none) := by
  rw [u_is_case]
  have n1 := hN.need k
  have n2 := c_caseof (k + 1) N hN x hx
  simp [runF, endF, penOf, startE, exs, ex, ev, evs, evO, evT, evTs, evI, bnd, ret, setAll, b1D, b2D, truD, isi, ixD, seqD, cmp_eq, cmp_ne, cmp_lt, cmp_le, cmp_gt, cmp_ge, eqD_ii, eqD_ss, bin_add, bin_sub, sizeLine, at0, at1, at2, at3, at4, at5, at6, f_is_case, b_is_case, n1, n2]
theorem no_net (k : Nat) (x y : PyData) (h : netB x = false) : CI (k + 7) "is_case" none [x, y] = none ∧ XI (k + 7) "is_case" [x, y] = some "NoNet" := by
  have c := c_net k x
  rw [h] at c
  have n1 : CI (k + 6) "need_net" none [x] = none := by
    rw [u_need_net]
    simp [runF, endF, penOf, startE, exs, ex, ev, evs, evO, evT, evTs, evI, bnd, ret, setAll, b1D, b2D, truD, isi, ixD, seqD, cmp_eq, cmp_ne, cmp_lt, cmp_le, cmp_gt, cmp_ge, eqD_ii, eqD_ss, bin_add, bin_sub, sizeLine, at0, at1, at2, at3, at4, at5, at6, f_need_net, b_need_net, c]
  have n2 : XI (k + 6) "need_net" [x] = some "NoNet" := by
    rw [x_need_net]
    simp [runF, endF, penOf, startE, exs, ex, ev, evs, evO, evT, evTs, evI, bnd, ret, setAll, b1D, b2D, truD, isi, ixD, seqD, cmp_eq, cmp_ne, cmp_lt, cmp_le, cmp_gt, cmp_ge, eqD_ii, eqD_ss, bin_add, bin_sub, sizeLine, at0, at1, at2, at3, at4, at5, at6, runX, f_need_net, b_need_net, exRs, exR, c]
  rw [u_is_case, x_is_case]
  exact ⟨by simp [runF, endF, penOf, startE, exs, ex, ev, evs, evO, evT, evTs, evI, bnd, ret, setAll, b1D, b2D, truD, isi, ixD, seqD, cmp_eq, cmp_ne, cmp_lt, cmp_le, cmp_gt, cmp_ge, eqD_ii, eqD_ss, bin_add, bin_sub, sizeLine, at0, at1, at2, at3, at4, at5, at6, f_is_case, b_is_case, n1], by simp [runF, endF, penOf, startE, exs, ex, ev, evs, evO, evT, evTs, evI, bnd, ret, setAll, b1D, b2D, truD, isi, ixD, seqD, cmp_eq, cmp_ne, cmp_lt, cmp_le, cmp_gt, cmp_ge, eqD_ii, eqD_ss, bin_add, bin_sub, sizeLine, at0, at1, at2, at3, at4, at5, at6, runX, f_is_case, b_is_case, exRs, exR, exC, n1, n2]⟩

theorem low_eq {a b : Int} (h0 : 0 < b) : (eqD (.tuple [.int (a / Int.gcd a b), .int (b / Int.gcd a b)]) (.tuple [.int a, .int b])) = some (decide (Int.gcd a b = 1)) := by
  simp [runF, endF, penOf, startE, exs, ex, ev, evs, evO, evT, evTs, evI, bnd, ret, setAll, b1D, b2D, truD, isi, ixD, seqD, cmp_eq, cmp_ne, cmp_lt, cmp_le, cmp_gt, cmp_ge, eqD_ii, eqD_ss, bin_add, bin_sub, sizeLine, at0, at1, at2, at3, at4, at5, at6, eqD, SeqAt.shaped, PyData.canLay0, PyData.canLayAll0, PyData.depth, PyData.depthAll, PyData.eqv, PyData.eqvAll]
  have hg : 0 < ((a.gcd b : Nat) : Int) := by
    have := Int.gcd_pos_of_ne_zero_right a (b := b) (by omega)
    omega
  rw [Bool.eq_iff_iff]
  simp only [Bool.and_eq_true, beq_iff_eq, decide_eq_true_eq]
  constructor
  · intro ⟨_, h2⟩
    have h3 := Int.ediv_mul_cancel (Int.gcd_dvd_right a b)
    rw [h2] at h3
    have h4 : b * ((a.gcd b : Nat) : Int) = b * 1 := by omega
    have h5 := Int.eq_of_mul_eq_mul_left (by omega) h4
    omega
  · intro h
    rw [h]
    simp [runF, endF, penOf, startE, exs, ex, ev, evs, evO, evT, evTs, evI, bnd, ret, setAll, b1D, b2D, truD, isi, ixD, seqD, cmp_eq, cmp_ne, cmp_lt, cmp_le, cmp_gt, cmp_ge, eqD_ii, eqD_ss, bin_add, bin_sub, sizeLine, at0, at1, at2, at3, at4, at5, at6]
theorem c_made (k : Nat) (t b : Int) (hp : 0 < b) (h1 : szI t 4000) (h2 : szI b 4000) : CI (k + 1) "_law_low" none [.int t, .int b] = some (.tuple [.int (t / Int.gcd t b), .int (b / Int.gcd t b)], none) := by
  rw [u_law_low]
  have g := gcd_pos (t := t) (b := b) (by omega)
  have gs := gcd_sz (t := t) (b := b) (by omega) h2
  have d := fun i => bin_divS (i := i) g gs (by decide)
  have w := wh_gcdL (cnd := evT ⟨CI k, glob, FU, XI k⟩ (.leaf (.cmp .ne (.var 3) (.con (.int 0))))) (bdy := exs ⟨CI k, glob, FU, XI k⟩ [(.par [2, 3] [(.var 3), (.bin .mod (.var 2) (.var 3))])]) (fun x y => [some (.d (.int t)), some (.d (.int b)), some (.d (.int x)), some (.d (.int y))]) (fun x y => by simp [runF, endF, penOf, startE, exs, ex, ev, evs, evO, evT, evTs, evI, bnd, ret, setAll, b1D, b2D, truD, isi, ixD, seqD, cmp_eq, cmp_ne, cmp_lt, cmp_le, cmp_gt, cmp_ge, eqD_ii, eqD_ss, bin_add, bin_sub, sizeLine, at0, at1, at2, at3, at4, at5, at6]) (fun x y hy => by simp [runF, endF, penOf, startE, exs, ex, ev, evs, evO, evT, evTs, evI, bnd, ret, setAll, b1D, b2D, truD, isi, ixD, seqD, cmp_eq, cmp_ne, cmp_lt, cmp_le, cmp_gt, cmp_ge, eqD_ii, eqD_ss, bin_add, bin_sub, sizeLine, at0, at1, at2, at3, at4, at5, at6, bin_mod hy])
    8000 FU t.natAbs b (by omega) (by omega) (by
      unfold szI at h1 h2
      have e : (2 : Nat) ^ 8000 = 2 ^ 4000 * 2 ^ 4000 := by rw [← Nat.pow_add]
      have h := Nat.mul_lt_mul_of_lt_of_lt h1 h2
      rw [← e] at h
      have h2 : ((t.natAbs * b.natAbs : Nat) : Int) < ((2 ^ 8000 : Nat) : Int) := Int.ofNat_lt.mpr h
      rw [Int.natCast_mul, Int.natCast_pow] at h2
      rw [show (b : Int) = (b.natAbs : Int) by omega]
      exact h2) (by unfold FU; decide)
  have gg : Int.gcd (t.natAbs : Int) b = Int.gcd t b := by simp [Int.gcd]
  have ab : ∀ x : Int, (if x < 0 then -x else x) = (x.natAbs : Int) := fun x => by split <;> omega
  rw [gg] at w
  simp only [runF, endF, penOf, startE, exs, ex, ev, evs, evO, evT, evTs, evI, bnd, ret, setAll, b1D, b2D, truD, isi, ixD, seqD, cmp_eq, cmp_ne, cmp_lt, cmp_le, cmp_gt, cmp_ge, eqD_ii, eqD_ss, bin_add, bin_sub, sizeLine, at0, at1, at2, at3, at4, at5, at6, f_law_low, b_law_low, List.map_cons, List.map_nil, ab] at w ⊢
  simp [runF, endF, penOf, startE, exs, ex, ev, evs, evO, evT, evTs, evI, bnd, ret, setAll, b1D, b2D, truD, isi, ixD, seqD, cmp_eq, cmp_ne, cmp_lt, cmp_le, cmp_gt, cmp_ge, eqD_ii, eqD_ss, bin_add, bin_sub, sizeLine, at0, at1, at2, at3, at4, at5, at6, ab, w, d]
theorem lay_ints : ∀ ns : List Int, PyData.canLayAll0 (ns.map .int) = true ∧ PyData.depthAll (ns.map .int) ≤ 0
  | [] => by simp [PyData.canLayAll0, PyData.depthAll]
  | n :: ns => by
    obtain ⟨a, b⟩ := lay_ints ns
    refine ⟨by simp [PyData.canLayAll0, PyData.canLay0, a], ?_⟩
    simp only [List.map_cons, PyData.depthAll, PyData.depth]
    omega
theorem eqv_ints : ∀ ns ms : List Int, PyData.eqvAll (ns.map .int) (ms.map .int) = decide (ns = ms)
  | [], [] => by simp [PyData.eqvAll]
  | [], _ :: _ => by simp [PyData.eqvAll]
  | _ :: _, [] => by simp [PyData.eqvAll]
  | n :: ns, m :: ms => by
    simp only [List.map_cons, PyData.eqvAll, eqv_ints ns ms, PyData.eqv]
    rw [Bool.eq_iff_iff]
    simp
theorem eqD_ints (ns ms : List Int) : eqD (.list (ns.map .int)) (.list (ms.map .int)) = some (decide (ns = ms)) := by
  obtain ⟨a, b⟩ := lay_ints ns
  obtain ⟨c, d⟩ := lay_ints ms
  have s : ∀ ks : List Int, PyData.canLayAll0 (ks.map .int) = true ∧ PyData.depthAll (ks.map .int) ≤ 0 → SeqAt.shaped (.list (ks.map .int)) = true := fun ks h => by
    simp [SeqAt.shaped, PyData.canLay0, PyData.depth, h.1]
    have := h.2
    omega
  show (if (SeqAt.shaped (.list (ns.map .int)) && SeqAt.shaped (.list (ms.map .int))) = true then some (PyData.eqv (.list (ns.map .int)) (.list (ms.map .int))) else none) = _
  rw [s ns ⟨a, b⟩, s ms ⟨c, d⟩]
  simp [PyData.eqv, eqv_ints]
theorem srt_f2 (ns : List Int) : decide (ns = srtU ns) = decide (ns.Pairwise (· < ·)) := by
  rw [Bool.eq_iff_iff]
  simp only [decide_eq_true_eq]
  constructor
  · intro h
    rw [h]
    exact srtU_srt ns
  · intro h
    exact strict_uniq h (srtU_srt ns) fun z => (srtU_mem ns z).symm
theorem lay_pairs : ∀ {Z : List PyData}, (∀ z ∈ Z, ∃ t b, z = .tuple [.int t, .int b]) → PyData.canLayAll0 Z = true ∧ PyData.depthAll Z ≤ 1
  | [], _ => by simp [PyData.canLayAll0, PyData.depthAll]
  | z :: Z, h => by
    obtain ⟨t, b, rfl⟩ := h z (.head _)
    obtain ⟨c, d⟩ := lay_pairs fun y hy => h y (.tail _ hy)
    refine ⟨by simp [PyData.canLayAll0, PyData.canLay0, c], ?_⟩
    simp only [PyData.depthAll, PyData.depth]
    omega
theorem eqD_le {Z : List PyData} (h : ∀ z ∈ Z, ∃ t b, z = .tuple [.int t, .int b]) : eqD (.list Z) (.list []) = some Z.isEmpty := by
  obtain ⟨c, d⟩ := lay_pairs h
  have s : SeqAt.shaped (.list Z) = true := by
    simp [SeqAt.shaped, PyData.canLay0, PyData.depth, c]
    omega
  show (if (SeqAt.shaped (.list Z) && SeqAt.shaped (.list [])) = true then some (PyData.eqv (.list Z) (.list [])) else none) = _
  rw [s]
  cases Z <;> simp [SeqAt.shaped, PyData.canLay0, PyData.canLayAll0, PyData.depth, PyData.depthAll, PyData.eqv, PyData.eqvAll]
theorem c_lnum (k : Nat) (x : PyData) (lo hi : Int) : CI (k + 1) "_law_number" none [x, .int lo, .int hi] = some (.bool (num x lo hi), none) := by
  rw [u_law_number]
  cases x <;> simp [runF, endF, penOf, startE, exs, ex, ev, evs, evO, evT, evTs, evI, bnd, ret, setAll, b1D, b2D, truD, isi, ixD, seqD, cmp_eq, cmp_ne, cmp_lt, cmp_le, cmp_gt, cmp_ge, eqD_ii, eqD_ss, bin_add, bin_sub, sizeLine, at0, at1, at2, at3, at4, at5, at6, f_law_number, b_law_number, num]
  rename_i i
  by_cases h : lo ≤ i <;> simp [h]
theorem c_lpart (k : Nat) (x : PyData) (h : fine x = true) (far : Int) (hf : far.natAbs ≤ 1000) : CI (k + 2) "_law_is_part" none [x, .int far] = some (.bool (btw far x), none) := by
  rw [u_law_is_part]
  match x, h with
  | .tuple [y, z], h =>
    have hf' := (fine_tup h).2
    cases y <;> cases z <;> try (simp [runF, endF, penOf, startE, exs, ex, ev, evs, evO, evT, evTs, evI, bnd, ret, setAll, b1D, b2D, truD, isi, ixD, seqD, cmp_eq, cmp_ne, cmp_lt, cmp_le, cmp_gt, cmp_ge, eqD_ii, eqD_ss, bin_add, bin_sub, sizeLine, at0, at1, at2, at3, at4, at5, at6, f_law_is_part, b_law_is_part, cmpI, bindT, wipeE, backE, notOwn, bools, btw]; done)
    rename_i a b
    have ha := fine_int (hf' _ (.head _))
    have hb := fine_int (hf' _ (.tail _ (.head _)))
    by_cases h0 : 0 < b
    · have h1 : ¬ b < 1 := by omega
      have cc := c_made k a b h0 (szI20 ha (by decide)) (szI20 hb (by decide))
      have le := low_eq (a := a) h0
      have Q : (1000 : Nat) < 10 ^ 20 := by decide
      have m2 := mulS (i := far) (j := b) (by omega) hb
      by_cases hg : Int.gcd a b = 1
      · have cc' : CI (k + 1) "_law_low" none [.int a, .int b] = some (.tuple [.int a, .int b], none) := by
          rw [hg] at cc; simpa using cc
        have le' : eqD (.tuple [.int a, .int b]) (.tuple [.int a, .int b]) = some true := by
          rw [hg] at le; simpa using le
        by_cases t0 : 0 ≤ a <;> simp [runF, endF, penOf, startE, exs, ex, ev, evs, evO, evT, evTs, evI, bnd, ret, setAll, b1D, b2D, truD, isi, ixD, seqD, cmp_eq, cmp_ne, cmp_lt, cmp_le, cmp_gt, cmp_ge, eqD_ii, eqD_ss, bin_add, bin_sub, sizeLine, at0, at1, at2, at3, at4, at5, at6, f_law_is_part, b_law_is_part, cmpI, bindT, wipeE, backE, notOwn, bools, btw, h0, h1, cc', le', hg, m2, t0]
      · rw [decide_eq_false hg] at le
        simp [runF, endF, penOf, startE, exs, ex, ev, evs, evO, evT, evTs, evI, bnd, ret, setAll, b1D, b2D, truD, isi, ixD, seqD, cmp_eq, cmp_ne, cmp_lt, cmp_le, cmp_gt, cmp_ge, eqD_ii, eqD_ss, bin_add, bin_sub, sizeLine, at0, at1, at2, at3, at4, at5, at6, f_law_is_part, b_law_is_part, cmpI, bindT, wipeE, backE, notOwn, bools, btw, h0, h1, cc, le, hg]
    · have h1 : b < 1 := by omega
      simp [runF, endF, penOf, startE, exs, ex, ev, evs, evO, evT, evTs, evI, bnd, ret, setAll, b1D, b2D, truD, isi, ixD, seqD, cmp_eq, cmp_ne, cmp_lt, cmp_le, cmp_gt, cmp_ge, eqD_ii, eqD_ss, bin_add, bin_sub, sizeLine, at0, at1, at2, at3, at4, at5, at6, f_law_is_part, b_law_is_part, cmpI, bindT, wipeE, backE, notOwn, bools, btw, h0, h1]
  | .tuple [], _ => simp [runF, endF, penOf, startE, exs, ex, ev, evs, evO, evT, evTs, evI, bnd, ret, setAll, b1D, b2D, truD, isi, ixD, seqD, cmp_eq, cmp_ne, cmp_lt, cmp_le, cmp_gt, cmp_ge, eqD_ii, eqD_ss, bin_add, bin_sub, sizeLine, at0, at1, at2, at3, at4, at5, at6, f_law_is_part, b_law_is_part, btw]
  | .tuple [_], _ => simp [runF, endF, penOf, startE, exs, ex, ev, evs, evO, evT, evTs, evI, bnd, ret, setAll, b1D, b2D, truD, isi, ixD, seqD, cmp_eq, cmp_ne, cmp_lt, cmp_le, cmp_gt, cmp_ge, eqD_ii, eqD_ss, bin_add, bin_sub, sizeLine, at0, at1, at2, at3, at4, at5, at6, f_law_is_part, b_law_is_part, btw]
  | .tuple (_ :: _ :: _ :: r), _ =>
    have e : ¬ ((r.length : Int) + 1 + 1 + 1 = 2) := by omega
    simp [runF, endF, penOf, startE, exs, ex, ev, evs, evO, evT, evTs, evI, bnd, ret, setAll, b1D, b2D, truD, isi, ixD, seqD, cmp_eq, cmp_ne, cmp_lt, cmp_le, cmp_gt, cmp_ge, eqD_ii, eqD_ss, bin_add, bin_sub, sizeLine, at0, at1, at2, at3, at4, at5, at6, f_law_is_part, b_law_is_part, btw, e]
  | .none, _ => simp [runF, endF, penOf, startE, exs, ex, ev, evs, evO, evT, evTs, evI, bnd, ret, setAll, b1D, b2D, truD, isi, ixD, seqD, cmp_eq, cmp_ne, cmp_lt, cmp_le, cmp_gt, cmp_ge, eqD_ii, eqD_ss, bin_add, bin_sub, sizeLine, at0, at1, at2, at3, at4, at5, at6, f_law_is_part, b_law_is_part, btw]
  | .bool _, _ => simp [runF, endF, penOf, startE, exs, ex, ev, evs, evO, evT, evTs, evI, bnd, ret, setAll, b1D, b2D, truD, isi, ixD, seqD, cmp_eq, cmp_ne, cmp_lt, cmp_le, cmp_gt, cmp_ge, eqD_ii, eqD_ss, bin_add, bin_sub, sizeLine, at0, at1, at2, at3, at4, at5, at6, f_law_is_part, b_law_is_part, btw]
  | .int _, _ => simp [runF, endF, penOf, startE, exs, ex, ev, evs, evO, evT, evTs, evI, bnd, ret, setAll, b1D, b2D, truD, isi, ixD, seqD, cmp_eq, cmp_ne, cmp_lt, cmp_le, cmp_gt, cmp_ge, eqD_ii, eqD_ss, bin_add, bin_sub, sizeLine, at0, at1, at2, at3, at4, at5, at6, f_law_is_part, b_law_is_part, btw]
  | .str _, _ => simp [runF, endF, penOf, startE, exs, ex, ev, evs, evO, evT, evTs, evI, bnd, ret, setAll, b1D, b2D, truD, isi, ixD, seqD, cmp_eq, cmp_ne, cmp_lt, cmp_le, cmp_gt, cmp_ge, eqD_ii, eqD_ss, bin_add, bin_sub, sizeLine, at0, at1, at2, at3, at4, at5, at6, f_law_is_part, b_law_is_part, btw]
  | .list _, _ => simp [runF, endF, penOf, startE, exs, ex, ev, evs, evO, evT, evTs, evI, bnd, ret, setAll, b1D, b2D, truD, isi, ixD, seqD, cmp_eq, cmp_ne, cmp_lt, cmp_le, cmp_gt, cmp_ge, eqD_ii, eqD_ss, bin_add, bin_sub, sizeLine, at0, at1, at2, at3, at4, at5, at6, f_law_is_part, b_law_is_part, btw]
  | .dict _, _ => simp [runF, endF, penOf, startE, exs, ex, ev, evs, evO, evT, evTs, evI, bnd, ret, setAll, b1D, b2D, truD, isi, ixD, seqD, cmp_eq, cmp_ne, cmp_lt, cmp_le, cmp_gt, cmp_ge, eqD_ii, eqD_ss, bin_add, bin_sub, sizeLine, at0, at1, at2, at3, at4, at5, at6, f_law_is_part, b_law_is_part, btw]

/-! ### the law's look at a case -/
theorem isi_tup {x : PyData} (h : isi .tuple x = true) : ∃ xs, x = .tuple xs := by
  cases x <;> simp [isi] at h
  exact ⟨_, rfl⟩
theorem case_tups {N : Nt} {a l s : PyData} (h : [a, l, s].all (isi .tuple) = false) : caseB N (.tuple [a, l, s]) = false := by
  simp only [caseB]
  cases ha : askB N.js a with
  | false => rfl
  | true =>
    cases hl : levB N l with
    | false => rfl
    | true =>
      cases hs : shuB N.ps s with
      | false => rfl
      | true =>
        cases a <;> simp [askB] at ha
        cases l <;> simp [levB] at hl
        cases s <;> simp [shuB] at hs
        simp [isi] at h
def lcS : List Sm := b_law_is_case.drop 2
abbrev LE (N : Nt) (x : PyData) (as ls ss : List PyData) (s7 s9 : Option Sv) : En := [some (.d N.d), some (.d x), none, some (.d (.tuple as)), some (.d (.tuple ls)), some (.d (.tuple ss)), none, s7, none, s9]
theorem lc_ask (k : Nat) (N : Nt) (hN : N.ok) (x : PyData) (as ls ss : List PyData) (fa : fine (.tuple as) = true) {r : Option (Fl × En)} (h : askB N.js (.tuple as) = true → exs (cf (k + 2)) (lcS.drop 2) (LE N x as ls ss none none) = r) (h2 : askB N.js (.tuple as) = false → r = some (.ret (.bool false), LE N x as ls ss none none)) : exs (cf (k + 2)) lcS (LE N x as ls ss none none) = r := by
  obtain ⟨fl, ff⟩ := fine_tup fa
  have j7 := hN.j7
  obtain ⟨E, hE⟩ : ∃ E, E = LE N x as ls ss none none := ⟨_, rfl⟩
  rw [← hE] at h h2 ⊢
  by_cases hl : as.length = N.js.length
  · have A := ev_allG (c := cf (k + 2)) (e := .call "_law_is_part" [(.var 2), (.con (.int 50))]) (tg := .name 2) (it := .seq (.var 3)) (cs := []) (own := [2]) (ρ := E) (ρ1 := E) (xs := as) (btw 50) (by simp [hE, notOwn]) (by rw [hE]; exact evI_seqT rfl) (by simp [hE, notOwn]) (by omega) (fun y hy => by
      have e := c_lpart k y (ff y hy) 50 (by decide)
      simp [hE, stepC, runF, endF, penOf, startE, exs, ex, ev, evs, evO, evT, evTs, evI, bnd, ret, setAll, b1D, b2D, truD, isi, ixD, seqD, cmp_eq, cmp_ne, cmp_lt, cmp_le, cmp_gt, cmp_ge, eqD_ii, eqD_ss, bin_add, bin_sub, sizeLine, at0, at1, at2, at3, at4, at5, at6, bindT, wipeE, backE, e])
    have key : askB N.js (.tuple as) = (as.all (btw 50) && (as.zip N.js).all fun q => nou q.1 || q.2.isP) := by
      rw [all_zip (btw 50) hl, all_and]
      simp only [askB, hl, decide_true, Bool.true_and]
      congr 1
      funext q
      cases q.2.isP
      · simp [btw_0]
      · simp
    show exs (cf (k + 2)) (.ite (.or _ _) [(.ret (.con (.bool false)))] [] :: .ite _ [(.ret (.con (.bool false)))] [] :: lcS.drop 2) E = _
    rw [exs_ite (x := !as.all (btw 50)) (ρ' := E) (evT_or (x := false) (y := !as.all (btw 50)) (by simp [hE, runF, endF, penOf, startE, exs, ex, ev, evs, evO, evT, evTs, evI, bnd, ret, setAll, b1D, b2D, truD, isi, ixD, seqD, cmp_eq, cmp_ne, cmp_lt, cmp_le, cmp_gt, cmp_ge, eqD_ii, eqD_ss, bin_add, bin_sub, sizeLine, at0, at1, at2, at3, at4, at5, at6, Nt.d, hl]) fun _ => evT_not (evT_leaf A)) (fun h => ⟨_, exs_ret rfl⟩)]
    cases ha : as.all (btw 50)
    · have q : askB N.js (.tuple as) = false := by rw [key, ha]; rfl
      rw [h2 q]
      simp [runF, endF, penOf, startE, exs, ex, ev, evs, evO, evT, evTs, evI, bnd, ret, setAll, b1D, b2D, truD, isi, ixD, seqD, cmp_eq, cmp_ne, cmp_lt, cmp_le, cmp_gt, cmp_ge, eqD_ii, eqD_ss, bin_add, bin_sub, sizeLine, at0, at1, at2, at3, at4, at5, at6]
    · simp only [Bool.not_true, Bool.false_eq_true, if_false]
      have B := ev_compP (c := cf (k + 2)) (e := .var 2) (tg := .tup [(.name 2), (.name 6)]) (it := .zip (.var 3) (.ix (.var 0) (.con (.int 0)))) (cs := [(.and (.leaf (.cmp .ne (.ix (.var 6) (.con (.int 0))) (.con (.str "place")))) (.leaf (.cmp .ne (.var 2) (.tup [(.con (.int 0)), (.con (.int 1))]))))]) (own := [2, 6]) (ρ := E) (ρ1 := E) (d := fun q : PyData × Jt => .tuple [q.1, q.2.d]) (as := as.zip N.js) (fun q => if !(nou q.1 || q.2.isP) then some q.1 else none) (by simp [hE, notOwn]) (by
          rw [hE]
          exact evI_zip (x := .tuple as) (y := .tuple (N.js.map Jt.d)) (d := fun x => x) (e := Jt.d) (ρ1 := LE N x as ls ss none none) rfl (by simp [runF, endF, penOf, startE, exs, ex, ev, evs, evO, evT, evTs, evI, bnd, ret, setAll, b1D, b2D, truD, isi, ixD, seqD, cmp_eq, cmp_ne, cmp_lt, cmp_le, cmp_gt, cmp_ge, eqD_ii, eqD_ss, bin_add, bin_sub, sizeLine, at0, at1, at2, at3, at4, at5, at6, Nt.d]) (by simp [zipK])) (by simp [hE, notOwn]) (by simp; omega) (fun q hq => by
        obtain ⟨a, j⟩ := q
        have hm := List.of_mem_zip hq
        have e := eq_nou (List.all_eq_true.mp ha a hm.1)
        rw [cmp_eq] at e
        cases j <;> cases hn : nou a <;> rw [hn] at e <;> simp [hE, stepC, runF, endF, penOf, startE, exs, ex, ev, evs, evO, evT, evTs, evI, bnd, ret, setAll, b1D, b2D, truD, isi, ixD, seqD, cmp_eq, cmp_ne, cmp_lt, cmp_le, cmp_gt, cmp_ge, eqD_ii, eqD_ss, bin_add, bin_sub, sizeLine, at0, at1, at2, at3, at4, at5, at6, bindT, bindTs, wipeE, backE, Jt.d, Jt.isP, e, hn, sp1, sp2, sp3, sp4, sp5, sp6])
      have Z : ∀ z ∈ (as.zip N.js).filterMap (fun q => if !(nou q.1 || q.2.isP) then some q.1 else none), ∃ t b, z = .tuple [.int t, .int b] := fun z hz => by
        obtain ⟨q, hq, e⟩ := List.mem_filterMap.mp hz
        split at e
        · cases e
          obtain ⟨t, b, e, _⟩ := btw_frac (List.all_eq_true.mp ha _ (List.of_mem_zip hq).1)
          exact ⟨t, b, e⟩
        · cases e
      have em : ((as.zip N.js).filterMap (fun q => if !(nou q.1 || q.2.isP) then some q.1 else none)).isEmpty = (as.zip N.js).all fun q => nou q.1 || q.2.isP := by
        rw [Bool.eq_iff_iff, List.isEmpty_iff, List.all_eq_true, List.filterMap_eq_nil_iff]
        constructor
        · intro h q hq
          have := h q hq
          cases hh : (nou q.1 || q.2.isP)
          · rw [hh] at this; simp at this
          · rfl
        · intro h q hq
          rw [h q hq]
          rfl
      have T : ev (cf (k + 2)) (.cmp .ne (.comp (.var 2) (.tup [(.name 2), (.name 6)]) (.zip (.var 3) (.ix (.var 0) (.con (.int 0)))) [(.and (.leaf (.cmp .ne (.ix (.var 6) (.con (.int 0))) (.con (.str "place")))) (.leaf (.cmp .ne (.var 2) (.tup [(.con (.int 0)), (.con (.int 1))]))))] [2, 6]) (.lst [])) E = some (.bool (!askB N.js (.tuple as)), E) := by
        refine ev_cmp B (y := .list []) (ρ2 := E) (by simp [runF, endF, penOf, startE, exs, ex, ev, evs, evO, evT, evTs, evI, bnd, ret, setAll, b1D, b2D, truD, isi, ixD, seqD, cmp_eq, cmp_ne, cmp_lt, cmp_le, cmp_gt, cmp_ge, eqD_ii, eqD_ss, bin_add, bin_sub, sizeLine, at0, at1, at2, at3, at4, at5, at6]) ?_
        show (eqD _ _).map (!·) = _
        rw [eqD_le Z, em, key, ha]
        rfl
      rw [exs_ite (x := !askB N.js (.tuple as)) (ρ' := E) (evT_leaf T) (fun h => ⟨_, exs_ret rfl⟩)]
      cases hq : askB N.js (.tuple as)
      · rw [h2 hq]
        simp [runF, endF, penOf, startE, exs, ex, ev, evs, evO, evT, evTs, evI, bnd, ret, setAll, b1D, b2D, truD, isi, ixD, seqD, cmp_eq, cmp_ne, cmp_lt, cmp_le, cmp_gt, cmp_ge, eqD_ii, eqD_ss, bin_add, bin_sub, sizeLine, at0, at1, at2, at3, at4, at5, at6]
      · simp only [Bool.not_true, Bool.false_eq_true, if_false]
        exact h hq
  · have : ¬ (as.length : Int) = N.js.length := by omega
    have q : askB N.js (.tuple as) = false := by simp [askB, hl]
    rw [h2 q]
    show exs (cf (k + 2)) (.ite (.or _ _) [(.ret (.con (.bool false)))] [] :: lcS.drop 1) E = _
    rw [exs_ite (x := true) (ρ' := E) (evT_or (x := true) (y := true) (by simp [hE, runF, endF, penOf, startE, exs, ex, ev, evs, evO, evT, evTs, evI, bnd, ret, setAll, b1D, b2D, truD, isi, ixD, seqD, cmp_eq, cmp_ne, cmp_lt, cmp_le, cmp_gt, cmp_ge, eqD_ii, eqD_ss, bin_add, bin_sub, sizeLine, at0, at1, at2, at3, at4, at5, at6, Nt.d, this]) fun h => by cases h) (fun h => ⟨_, exs_ret rfl⟩)]
    simp [runF, endF, penOf, startE, exs, ex, ev, evs, evO, evT, evTs, evI, bnd, ret, setAll, b1D, b2D, truD, isi, ixD, seqD, cmp_eq, cmp_ne, cmp_lt, cmp_le, cmp_gt, cmp_ge, eqD_ii, eqD_ss, bin_add, bin_sub, sizeLine, at0, at1, at2, at3, at4, at5, at6]
theorem lc_lev (k : Nat) (N : Nt) (hN : N.ok) (x : PyData) (as ls ss : List PyData) (fa : fine (.tuple ls) = true) {r : Option (Fl × En)} (h : levB N (.tuple ls) = true → exs (cf (k + 2)) (lcS.drop 4) (LE N x as ls ss (some (.d (.list (N.tops.map .int)))) none) = r) (h2 : levB N (.tuple ls) = false → r = some (.ret (.bool false), LE N x as ls ss (some (.d (.list (N.tops.map .int)))) none)) : exs (cf (k + 2)) (lcS.drop 2) (LE N x as ls ss none none) = r := by
  obtain ⟨fl, ff⟩ := fine_tup fa
  have j7 := hN.j7
  have tl : N.tops.length ≤ 7 := by
    have := List.length_filterMap_le Jt.top N.js
    unfold Nt.tops
    omega
  obtain ⟨E, hE⟩ : ∃ E, E = LE N x as ls ss none none := ⟨_, rfl⟩
  obtain ⟨F, hF⟩ : ∃ E, E = LE N x as ls ss (some (.d (.list (N.tops.map .int)))) none := ⟨_, rfl⟩
  rw [← hE]
  rw [← hF] at h h2
  have B := ev_compP (c := cf (k + 2)) (e := .ix (.var 6) (.con (.int 3))) (tg := .name 6) (it := .seq (.ix (.var 0) (.con (.int 0)))) (cs := [(.leaf (.cmp .eq (.ix (.var 6) (.con (.int 0))) (.con (.str "tank"))))]) (own := [6]) (ρ := E) (ρ1 := E) (d := Jt.d) (as := N.js) (fun j => j.top.map .int) (by simp [hE, notOwn]) (by
      rw [hE]
      exact evI_seqT (ev_ix (ρ1 := LE N x as ls ss none none) (x := N.d) (y := .int 0) rfl rfl rfl)) (by simp [hE, notOwn]) (by omega) (fun j hj => by
    cases j <;> simp [hE, stepC, runF, endF, penOf, startE, exs, ex, ev, evs, evO, evT, evTs, evI, bnd, ret, setAll, b1D, b2D, truD, isi, ixD, seqD, cmp_eq, cmp_ne, cmp_lt, cmp_le, cmp_gt, cmp_ge, eqD_ii, eqD_ss, bin_add, bin_sub, sizeLine, at0, at1, at2, at3, at4, at5, at6, bindT, wipeE, backE, Jt.d, Jt.top, sp4, sp5])
  have e1 : N.js.filterMap (fun j => j.top.map PyData.int) = N.tops.map .int := by
    unfold Nt.tops
    rw [List.map_filterMap]
  rw [e1] at B
  show exs (cf (k + 2)) (.set 7 _ :: .ite (.or _ _) [(.ret (.con (.bool false)))] [] :: lcS.drop 4) E = _
  refine exs_next (ρ' := F) (by rw [ex_set B (by simp [hE])]; simp [hE, hF]) ?_
  by_cases hl : ls.length = N.tops.length
  · have C := ev_allM (c := cf (k + 2)) (e := .call "_law_is_part" [(.var 2), (.var 8)]) (tg := .tup [(.name 2), (.name 8)]) (it := .zip (.var 4) (.var 7)) (cs := []) (own := [2, 8]) (ρ := F) (ρ1 := F) (d := fun q : PyData × Int => .tuple [q.1, .int q.2]) (as := ls.zip N.tops) (fun q => btw q.2 q.1) (by simp [hF, notOwn]) (by
        rw [hF]
        exact evI_zip (x := .tuple ls) (y := .list (N.tops.map .int)) (d := fun x => x) (e := .int) (ρ1 := LE N x as ls ss (some (.d (.list (N.tops.map .int)))) none) rfl rfl (by simp [zipK])) (by simp [hF, notOwn]) (by simp; omega) (fun q hq => by
      obtain ⟨a, t⟩ := q
      have hm := List.of_mem_zip hq
      have ht : t.natAbs ≤ 1000 := by
        obtain ⟨j, hj, e⟩ := List.mem_filterMap.mp hm.2
        have ok := hN.js j hj
        cases j <;> simp [Jt.top] at e
        subst e
        simp only [Jt.ok] at ok
        omega
      have e := c_lpart k a (ff a hm.1) t ht
      simp [hF, stepC, runF, endF, penOf, startE, exs, ex, ev, evs, evO, evT, evTs, evI, bnd, ret, setAll, b1D, b2D, truD, isi, ixD, seqD, cmp_eq, cmp_ne, cmp_lt, cmp_le, cmp_gt, cmp_ge, eqD_ii, eqD_ss, bin_add, bin_sub, sizeLine, at0, at1, at2, at3, at4, at5, at6, bindT, bindTs, wipeE, backE, e])
    have key : levB N (.tuple ls) = (ls.zip N.tops).all fun q => btw q.2 q.1 := by simp [levB, hl]
    rw [← key] at C
    rw [exs_ite (x := !levB N (.tuple ls)) (ρ' := F) (evT_or (x := false) (y := !levB N (.tuple ls)) (by simp [hF, runF, endF, penOf, startE, exs, ex, ev, evs, evO, evT, evTs, evI, bnd, ret, setAll, b1D, b2D, truD, isi, ixD, seqD, cmp_eq, cmp_ne, cmp_lt, cmp_le, cmp_gt, cmp_ge, eqD_ii, eqD_ss, bin_add, bin_sub, sizeLine, at0, at1, at2, at3, at4, at5, at6, hl]) fun _ => evT_not (evT_leaf C)) (fun h => ⟨_, exs_ret rfl⟩)]
    cases hq : levB N (.tuple ls)
    · rw [h2 hq]
      simp [runF, endF, penOf, startE, exs, ex, ev, evs, evO, evT, evTs, evI, bnd, ret, setAll, b1D, b2D, truD, isi, ixD, seqD, cmp_eq, cmp_ne, cmp_lt, cmp_le, cmp_gt, cmp_ge, eqD_ii, eqD_ss, bin_add, bin_sub, sizeLine, at0, at1, at2, at3, at4, at5, at6]
    · simp only [Bool.not_true, Bool.false_eq_true, if_false]
      exact h hq
  · have : ¬ (ls.length : Int) = N.tops.length := by omega
    have q : levB N (.tuple ls) = false := by simp [levB, hl]
    rw [h2 q]
    rw [exs_ite (x := true) (ρ' := F) (evT_or (x := true) (y := true) (by simp [hF, runF, endF, penOf, startE, exs, ex, ev, evs, evO, evT, evTs, evI, bnd, ret, setAll, b1D, b2D, truD, isi, ixD, seqD, cmp_eq, cmp_ne, cmp_lt, cmp_le, cmp_gt, cmp_ge, eqD_ii, eqD_ss, bin_add, bin_sub, sizeLine, at0, at1, at2, at3, at4, at5, at6, this]) fun h => by cases h) (fun h => ⟨_, exs_ret rfl⟩)]
    simp [runF, endF, penOf, startE, exs, ex, ev, evs, evO, evT, evTs, evI, bnd, ret, setAll, b1D, b2D, truD, isi, ixD, seqD, cmp_eq, cmp_ne, cmp_lt, cmp_le, cmp_gt, cmp_ge, eqD_ii, eqD_ss, bin_add, bin_sub, sizeLine, at0, at1, at2, at3, at4, at5, at6]

def lcB : List Sm := [(.ite (.not (.leaf (.call "_law_number" [(.var 9), (.con (.int 0)), (.bin .sub (.b1 .len (.ix (.var 0) (.con (.int 1)))) (.con (.int 1)))]))) [(.ret (.con (.bool false)))] []),
    (.ite (.and (.not (.leaf (.ix (.ix (.ix (.var 0) (.con (.int 1))) (.var 9)) (.con (.int 5))))) (.leaf (.cmp .eq (.ix (.ix (.ix (.var 0) (.con (.int 1))) (.var 9)) (.con (.int 4))) (.con (.int 0))))) [(.ret (.con (.bool false)))] [])]
theorem can_num {ps : List Pt} {y : PyData} (h : num y 0 ((ps.length : Int) - 1) = false) : canB ps y = false := by
  cases y <;> simp [canB]
  rename_i i
  simp [num] at h
  by_cases h0 : 0 ≤ i
  · have := h h0
    simp [gateB, h0]
    rw [List.getElem?_eq_none (by omega)]
  · simp [gateB, h0]
theorem lc_step (k : Nat) (N : Nt) (hN : N.ok) (x : PyData) (as ls ss : List PyData) (s7 : Option Sv) (y : PyData) : exs (cf (k + 2)) lcB (LE N x as ls ss s7 (some (.d y))) = some (if canB N.ps y then .next else .ret (.bool false), LE N x as ls ss s7 (some (.d y))) := by
  have e1 := c_lnum (k + 1) y 0 ((N.ps.length : Int) - 1)
  obtain ⟨E, hE⟩ : ∃ E, E = LE N x as ls ss s7 (some (.d y)) := ⟨_, rfl⟩
  rw [← hE]
  have len : ev (cf (k + 2)) (.bin .sub (.b1 .len (.ix (.var 0) (.con (.int 1)))) (.con (.int 1))) E = some (.int ((N.ps.length : Int) - 1), E) := by
    simp [hE, runF, endF, penOf, startE, exs, ex, ev, evs, evO, evT, evTs, evI, bnd, ret, setAll, b1D, b2D, truD, isi, ixD, seqD, cmp_eq, cmp_ne, cmp_lt, cmp_le, cmp_gt, cmp_ge, eqD_ii, eqD_ss, bin_add, bin_sub, sizeLine, at0, at1, at2, at3, at4, at5, at6, Nt.d]
  have T1 := evT_not (evT_leaf (ev_call3 (ρ1 := E) (a := .var 9) (x := y) (by rw [hE]; rfl) (ρ2 := E) (b := .con (.int 0)) (y := .int 0) rfl len e1))
  unfold lcB
  rw [exs_ite T1 (fun h => ⟨_, exs_ret rfl⟩)]
  cases hn : num y 0 ((N.ps.length : Int) - 1)
  · rw [can_num hn]
    simp [runF, endF, penOf, startE, exs, ex, ev, evs, evO, evT, evTs, evI, bnd, ret, setAll, b1D, b2D, truD, isi, ixD, seqD, cmp_eq, cmp_ne, cmp_lt, cmp_le, cmp_gt, cmp_ge, eqD_ii, eqD_ss, bin_add, bin_sub, sizeLine, at0, at1, at2, at3, at4, at5, at6]
  · obtain ⟨i, rfl, h0, h1⟩ := num_int hn
    obtain ⟨n, rfl⟩ := Int.eq_ofNat_of_zero_le h0
    have hn' : n < N.ps.length := by omega
    obtain ⟨p, hp⟩ : ∃ p, N.ps[n]? = some p := ⟨_, List.getElem?_eq_getElem hn'⟩
    have e : atI (N.ps.map Pt.d) (n : Int) = some p.d := by rw [atI_n, List.getElem?_map, hp]; rfl
    have ok := hN.ps p (List.mem_of_getElem? hp)
    obtain ⟨a, b, f, on, l, g, v⟩ := p
    have hl := ok.l
    simp only at hl
    simp only [Bool.not_true, Bool.false_eq_true, if_false, canB, gateB, Int.toNat_natCast, hp]
    simp [Pt.d] at e
    cases g <;> by_cases hz : l = 0
    · subst hz
      simp [hE, runF, endF, penOf, startE, exs, ex, ev, evs, evO, evT, evTs, evI, bnd, ret, setAll, b1D, b2D, truD, isi, ixD, seqD, cmp_eq, cmp_ne, cmp_lt, cmp_le, cmp_gt, cmp_ge, eqD_ii, eqD_ss, bin_add, bin_sub, sizeLine, at0, at1, at2, at3, at4, at5, at6, Nt.d, e]
    · have : 0 < l := by omega
      simp [hE, runF, endF, penOf, startE, exs, ex, ev, evs, evO, evT, evTs, evI, bnd, ret, setAll, b1D, b2D, truD, isi, ixD, seqD, cmp_eq, cmp_ne, cmp_lt, cmp_le, cmp_gt, cmp_ge, eqD_ii, eqD_ss, bin_add, bin_sub, sizeLine, at0, at1, at2, at3, at4, at5, at6, Nt.d, e, hz, this]
    · simp [hE, runF, endF, penOf, startE, exs, ex, ev, evs, evO, evT, evTs, evI, bnd, ret, setAll, b1D, b2D, truD, isi, ixD, seqD, cmp_eq, cmp_ne, cmp_lt, cmp_le, cmp_gt, cmp_ge, eqD_ii, eqD_ss, bin_add, bin_sub, sizeLine, at0, at1, at2, at3, at4, at5, at6, Nt.d, e]
    · simp [hE, runF, endF, penOf, startE, exs, ex, ev, evs, evO, evT, evTs, evI, bnd, ret, setAll, b1D, b2D, truD, isi, ixD, seqD, cmp_eq, cmp_ne, cmp_lt, cmp_le, cmp_gt, cmp_ge, eqD_ii, eqD_ss, bin_add, bin_sub, sizeLine, at0, at1, at2, at3, at4, at5, at6, Nt.d, e]
theorem lc_loop (k : Nat) (N : Nt) (hN : N.ok) (x : PyData) (as ls ss : List PyData) (s7 : Option Sv) : ∀ (zs : List PyData) (s9 : Option Sv), (s9 = none ∨ ∃ y, s9 = some (.d y)) → ∃ t9, forI (fun x ρ => match bindT (.name 9) x ρ with
      | none => none
      | some ρ => exs (cf (k + 2)) lcB ρ) zs (LE N x as ls ss s7 s9) = some (if zs.all (canB N.ps) then .next else .ret (.bool false), LE N x as ls ss s7 t9)
  | [], s9, _ => ⟨s9, rfl⟩
  | z :: zs, s9, h9 => by
    have st := lc_step k N hN x as ls ss s7 z
    have bd : (match bindT (.name 9) z (LE N x as ls ss s7 s9) with
      | none => none
      | some ρ => exs (cf (k + 2)) lcB ρ) = exs (cf (k + 2)) lcB (LE N x as ls ss s7 (some (.d z))) := by
      rcases h9 with rfl | ⟨y, rfl⟩ <;> rfl
    obtain ⟨t9, ih⟩ := lc_loop k N hN x as ls ss s7 zs (some (.d z)) (.inr ⟨_, rfl⟩)
    rw [List.all_cons]
    cases hc : canB N.ps z
    · rw [hc] at st
      refine ⟨some (.d z), ?_⟩
      unfold forI
      rw [bd, st]
      rfl
    · rw [hc] at st
      refine ⟨t9, ?_⟩
      refine forI_cons (by rw [bd, st]; rfl) ?_
      rw [Bool.true_and]
      exact ih
theorem lc_shut (k : Nat) (N : Nt) (hN : N.ok) (x : PyData) (as ls ss : List PyData) (s7 : Option Sv) (fa : fine (.tuple ss) = true) : ∃ t9, exs (cf (k + 2)) (lcS.drop 4) (LE N x as ls ss s7 none) = some (.ret (.bool (shuB N.ps (.tuple ss))), LE N x as ls ss s7 t9) := by
  obtain ⟨fl, ff⟩ := fine_tup fa
  obtain ⟨t9, L⟩ := lc_loop k N hN x as ls ss s7 ss none (.inl rfl)
  have ef := ex_for (tg := .name 9) (it := .seq (.var 5)) (b := lcB) (evI_seqT (xs := ss) (a := .var 5) (ρ := LE N x as ls ss s7 none) (c := cf (k + 2)) rfl) L
  refine ⟨t9, ?_⟩
  show exs (cf (k + 2)) (.for_ _ _ lcB :: .ret (.cmp .eq (.b1 .list (.var 5)) (.srs (.var 5))) :: []) _ = _
  have hc := all_can N.ps ss
  simp only [shuB]
  cases hi : intsD ss with
  | none =>
    rw [hi] at hc
    rw [hc] at ef
    simp only [Bool.false_eq_true, if_false] at ef
    show bnd (ex _ (.for_ _ _ _) _) _ = _
    rw [ef]
    rfl
  | some ns =>
    rw [hi] at hc
    simp only at hc ⊢
    cases ha : ns.all (gateB N.ps)
    · rw [ha] at hc
      rw [hc] at ef
      simp only [Bool.false_eq_true, if_false] at ef
      show bnd (ex _ (.for_ _ _ _) _) _ = _
      rw [ef]
      rfl
    · rw [ha] at hc
      rw [hc] at ef
      simp only [if_true] at ef
      have ex := intsD_eq hi
      have hl : ns.length ≤ 60 := by rw [ex] at fl; simpa using fl
      have S : srsD (.tuple ss) = some (.list ((srtU ns).map .int)) := by
        simp only [srsD, srsL, hi]
        rw [if_pos (by omega)]
      refine exs_next ef (exs_ret ?_)
      rw [Bool.true_and, ← srt_f2]
      have S' := S
      rw [ex] at S'
      refine ev_cmp (x := .list (ns.map .int)) (y := .list ((srtU ns).map .int)) (ρ1 := LE N x as ls ss s7 t9) (ρ2 := LE N x as ls ss s7 t9) (by rw [ex]; simp [runF, endF, penOf, startE, exs, ex, ev, evs, evO, evT, evTs, evI, bnd, ret, setAll, b1D, b2D, truD, isi, ixD, seqD, cmp_eq, cmp_ne, cmp_lt, cmp_le, cmp_gt, cmp_ge, eqD_ii, eqD_ss, bin_add, bin_sub, sizeLine, at0, at1, at2, at3, at4, at5, at6]) (by simp [runF, endF, penOf, startE, exs, ex, ev, evs, evO, evT, evTs, evI, bnd, ret, setAll, b1D, b2D, truD, isi, ixD, seqD, cmp_eq, cmp_ne, cmp_lt, cmp_le, cmp_gt, cmp_ge, eqD_ii, eqD_ss, bin_add, bin_sub, sizeLine, at0, at1, at2, at3, at4, at5, at6, S, S']) ?_
      rw [cmp_eq, eqD_ints]
theorem c_lcase (k : Nat) (N : Nt) (hN : N.ok) (x : PyData) (hx : fine x = true) : CI (k + 3) "_law_is_case" none [N.d, x] = some (.bool (caseB N x), none) := by
  rw [u_law_is_case]
  by_cases h3 : ∃ a l s, x = .tuple [a, l, s]
  · obtain ⟨a, l, s, rfl⟩ := h3
    have ff := (fine_tup hx).2
    obtain ⟨E, hE⟩ : ∃ E, E = [some (Sv.d N.d), some (.d (.tuple [a, l, s])), none, none, none, none, none, none, none, none] := ⟨_, rfl⟩
    have A := ev_allG (c := cf (k + 2)) (e := .b1 (.isi .tuple) (.var 2)) (tg := .name 2) (it := .seq (.var 1)) (cs := []) (own := [2]) (ρ := E) (ρ1 := E) (xs := [a, l, s]) (isi .tuple) (by simp [hE, notOwn]) (by rw [hE]; exact evI_seqT rfl) (by simp [hE, notOwn]) (by simp) (fun y hy => by
      simp [hE, stepC, runF, endF, penOf, startE, exs, ex, ev, evs, evO, evT, evTs, evI, bnd, ret, setAll, b1D, b2D, truD, isi, ixD, seqD, cmp_eq, cmp_ne, cmp_lt, cmp_le, cmp_gt, cmp_ge, eqD_ii, eqD_ss, bin_add, bin_sub, sizeLine, at0, at1, at2, at3, at4, at5, at6, bindT, wipeE, backE])
    cases hall : [a, l, s].all (isi .tuple) with
    | false =>
      rw [hall] at A
      rw [case_tups hall]
      refine run_ret (ρ := E) rfl rfl rfl ?_
      show exs (cf (k + 2)) (.ite (.or _ (.or _ _)) [(.ret (.con (.bool false)))] [] :: _) [some (Sv.d N.d), some (.d (.tuple [a, l, s])), none, none, none, none, none, none, none, none] = _
      rw [← hE]
      rw [exs_ite (x := true) (ρ' := E) (evT_or (x := false) (y := true) (by simp [hE, runF, endF, penOf, startE, exs, ex, ev, evs, evO, evT, evTs, evI, bnd, ret, setAll, b1D, b2D, truD, isi, ixD, seqD, cmp_eq, cmp_ne, cmp_lt, cmp_le, cmp_gt, cmp_ge, eqD_ii, eqD_ss, bin_add, bin_sub, sizeLine, at0, at1, at2, at3, at4, at5, at6]) fun _ => evT_or (x := false) (y := true) (by simp [hE, runF, endF, penOf, startE, exs, ex, ev, evs, evO, evT, evTs, evI, bnd, ret, setAll, b1D, b2D, truD, isi, ixD, seqD, cmp_eq, cmp_ne, cmp_lt, cmp_le, cmp_gt, cmp_ge, eqD_ii, eqD_ss, bin_add, bin_sub, sizeLine, at0, at1, at2, at3, at4, at5, at6]) fun _ => evT_not (evT_leaf A)) (fun h => ⟨_, exs_ret rfl⟩)]
      simp [runF, endF, penOf, startE, exs, ex, ev, evs, evO, evT, evTs, evI, bnd, ret, setAll, b1D, b2D, truD, isi, ixD, seqD, cmp_eq, cmp_ne, cmp_lt, cmp_le, cmp_gt, cmp_ge, eqD_ii, eqD_ss, bin_add, bin_sub, sizeLine, at0, at1, at2, at3, at4, at5, at6]
    | true =>
      rw [hall] at A
      simp only [List.all_cons, List.all_nil, Bool.and_true, Bool.and_eq_true] at hall
      obtain ⟨as, rfl⟩ := isi_tup hall.1
      obtain ⟨ls, rfl⟩ := isi_tup hall.2.1
      obtain ⟨ss, rfl⟩ := isi_tup hall.2.2
      have fa := ff _ (.head _)
      have fl := ff _ (.tail _ (.head _))
      have fs := ff _ (.tail _ (.tail _ (.head _)))
      obtain ⟨t9, S⟩ := lc_shut k N hN (.tuple [.tuple as, .tuple ls, .tuple ss]) as ls ss (some (.d (.list (N.tops.map .int)))) fs
      have main : ∃ ρ, exs (cf (k + 2)) lcS (LE N (.tuple [.tuple as, .tuple ls, .tuple ss]) as ls ss none none) = some (.ret (.bool (caseB N (.tuple [.tuple as, .tuple ls, .tuple ss]))), ρ) := by
        simp only [caseB]
        cases h1 : askB N.js (.tuple as) with
        | false => exact ⟨_, lc_ask k N hN _ as ls ss fa (fun h => by rw [h1] at h; cases h) fun _ => rfl⟩
        | true =>
          cases h2 : levB N (.tuple ls) with
          | false => exact ⟨_, lc_ask k N hN _ as ls ss fa (fun _ => lc_lev k N hN _ as ls ss fl (fun h => by rw [h2] at h; cases h) fun _ => rfl) fun h => by rw [h1] at h; cases h⟩
          | true => exact ⟨_, lc_ask k N hN _ as ls ss fa (fun _ => lc_lev k N hN _ as ls ss fl (fun h => S) fun h => by rw [h2] at h; cases h) fun h => by rw [h1] at h; cases h⟩
      obtain ⟨ρ, main⟩ := main
      refine run_ret (ρ := ρ) rfl rfl rfl ?_
      show exs (cf (k + 2)) (.ite (.or _ (.or _ _)) [(.ret (.con (.bool false)))] [] :: .unp _ _ :: lcS) [some (Sv.d N.d), some (.d (.tuple [.tuple as, .tuple ls, .tuple ss])), none, none, none, none, none, none, none, none] = _
      rw [← hE]
      rw [exs_ite (x := false) (ρ' := E) (evT_or (x := false) (y := false) (by simp [hE, runF, endF, penOf, startE, exs, ex, ev, evs, evO, evT, evTs, evI, bnd, ret, setAll, b1D, b2D, truD, isi, ixD, seqD, cmp_eq, cmp_ne, cmp_lt, cmp_le, cmp_gt, cmp_ge, eqD_ii, eqD_ss, bin_add, bin_sub, sizeLine, at0, at1, at2, at3, at4, at5, at6]) fun _ => evT_or (x := false) (y := false) (by simp [hE, runF, endF, penOf, startE, exs, ex, ev, evs, evO, evT, evTs, evI, bnd, ret, setAll, b1D, b2D, truD, isi, ixD, seqD, cmp_eq, cmp_ne, cmp_lt, cmp_le, cmp_gt, cmp_ge, eqD_ii, eqD_ss, bin_add, bin_sub, sizeLine, at0, at1, at2, at3, at4, at5, at6]) fun _ => evT_not (evT_leaf A)) (fun h => by cases h)]
      simp only [Bool.false_eq_true, if_false]
      exact exs_next (ρ' := LE N (.tuple [.tuple as, .tuple ls, .tuple ss]) as ls ss none none) (by simp [hE, runF, endF, penOf, startE, exs, ex, ev, evs, evO, evT, evTs, evI, bnd, ret, setAll, b1D, b2D, truD, isi, ixD, seqD, cmp_eq, cmp_ne, cmp_lt, cmp_le, cmp_gt, cmp_ge, eqD_ii, eqD_ss, bin_add, bin_sub, sizeLine, at0, at1, at2, at3, at4, at5, at6, bindT, bindTs]) main
  · have e : caseB N x = false := by
      unfold caseB
      split
      · exact absurd ⟨_, _, _, rfl⟩ h3
      · rfl
    rw [e]
    match x, h3 with
    | .tuple [], _ => simp [runF, endF, penOf, startE, exs, ex, ev, evs, evO, evT, evTs, evI, bnd, ret, setAll, b1D, b2D, truD, isi, ixD, seqD, cmp_eq, cmp_ne, cmp_lt, cmp_le, cmp_gt, cmp_ge, eqD_ii, eqD_ss, bin_add, bin_sub, sizeLine, at0, at1, at2, at3, at4, at5, at6, f_law_is_case, b_law_is_case]
    | .tuple [_], _ => simp [runF, endF, penOf, startE, exs, ex, ev, evs, evO, evT, evTs, evI, bnd, ret, setAll, b1D, b2D, truD, isi, ixD, seqD, cmp_eq, cmp_ne, cmp_lt, cmp_le, cmp_gt, cmp_ge, eqD_ii, eqD_ss, bin_add, bin_sub, sizeLine, at0, at1, at2, at3, at4, at5, at6, f_law_is_case, b_law_is_case]
    | .tuple [_, _], _ => simp [runF, endF, penOf, startE, exs, ex, ev, evs, evO, evT, evTs, evI, bnd, ret, setAll, b1D, b2D, truD, isi, ixD, seqD, cmp_eq, cmp_ne, cmp_lt, cmp_le, cmp_gt, cmp_ge, eqD_ii, eqD_ss, bin_add, bin_sub, sizeLine, at0, at1, at2, at3, at4, at5, at6, f_law_is_case, b_law_is_case]
    | .tuple [_, _, _], h => exact absurd ⟨_, _, _, rfl⟩ h
    | .tuple (_ :: _ :: _ :: _ :: r), _ =>
      have e : ¬ ((r.length : Int) + 1 + 1 + 1 + 1 = 3) := by omega
      simp [runF, endF, penOf, startE, exs, ex, ev, evs, evO, evT, evTs, evI, bnd, ret, setAll, b1D, b2D, truD, isi, ixD, seqD, cmp_eq, cmp_ne, cmp_lt, cmp_le, cmp_gt, cmp_ge, eqD_ii, eqD_ss, bin_add, bin_sub, sizeLine, at0, at1, at2, at3, at4, at5, at6, f_law_is_case, b_law_is_case, e]
    | .none, _ => simp [runF, endF, penOf, startE, exs, ex, ev, evs, evO, evT, evTs, evI, bnd, ret, setAll, b1D, b2D, truD, isi, ixD, seqD, cmp_eq, cmp_ne, cmp_lt, cmp_le, cmp_gt, cmp_ge, eqD_ii, eqD_ss, bin_add, bin_sub, sizeLine, at0, at1, at2, at3, at4, at5, at6, f_law_is_case, b_law_is_case]
    | .bool _, _ => simp [runF, endF, penOf, startE, exs, ex, ev, evs, evO, evT, evTs, evI, bnd, ret, setAll, b1D, b2D, truD, isi, ixD, seqD, cmp_eq, cmp_ne, cmp_lt, cmp_le, cmp_gt, cmp_ge, eqD_ii, eqD_ss, bin_add, bin_sub, sizeLine, at0, at1, at2, at3, at4, at5, at6, f_law_is_case, b_law_is_case]
    | .int _, _ => simp [runF, endF, penOf, startE, exs, ex, ev, evs, evO, evT, evTs, evI, bnd, ret, setAll, b1D, b2D, truD, isi, ixD, seqD, cmp_eq, cmp_ne, cmp_lt, cmp_le, cmp_gt, cmp_ge, eqD_ii, eqD_ss, bin_add, bin_sub, sizeLine, at0, at1, at2, at3, at4, at5, at6, f_law_is_case, b_law_is_case]
    | .str _, _ => simp [runF, endF, penOf, startE, exs, ex, ev, evs, evO, evT, evTs, evI, bnd, ret, setAll, b1D, b2D, truD, isi, ixD, seqD, cmp_eq, cmp_ne, cmp_lt, cmp_le, cmp_gt, cmp_ge, eqD_ii, eqD_ss, bin_add, bin_sub, sizeLine, at0, at1, at2, at3, at4, at5, at6, f_law_is_case, b_law_is_case]
    | .list _, _ => simp [runF, endF, penOf, startE, exs, ex, ev, evs, evO, evT, evTs, evI, bnd, ret, setAll, b1D, b2D, truD, isi, ixD, seqD, cmp_eq, cmp_ne, cmp_lt, cmp_le, cmp_gt, cmp_ge, eqD_ii, eqD_ss, bin_add, bin_sub, sizeLine, at0, at1, at2, at3, at4, at5, at6, f_law_is_case, b_law_is_case]
    | .dict _, _ => simp [runF, endF, penOf, startE, exs, ex, ev, evs, evO, evT, evTs, evI, bnd, ret, setAll, b1D, b2D, truD, isi, ixD, seqD, cmp_eq, cmp_ne, cmp_lt, cmp_le, cmp_gt, cmp_ge, eqD_ii, eqD_ss, bin_add, bin_sub, sizeLine, at0, at1, at2, at3, at4, at5, at6, f_law_is_case, b_law_is_case]

def flatV : PyData → Bool
  | .none => true
  | .bool _ => true
  | .int i => decide (i.natAbs < 10 ^ 20)
  | .str x => decide (x.length ≤ 10) && x.cps.toList.all fun c => decide (c < 16 ^ 8)
  | _ => false
def Pv : Nat → PyData → Prop
  | 0, x => flatV x = true
  | n + 1, x => flatV x = true ∨ ∃ xs, x = .tuple xs ∧ xs.length ≤ 10 ∧ ∀ y ∈ xs, Pv n y
theorem pv_int {i : Int} (h : i.natAbs < 10 ^ 20) : Pv 0 (.int i) := by simp [Pv, flatV, h]
theorem pv_str {x : Str} (h : flatV (.str x) = true) : Pv 0 (.str x) := h
theorem c_gjoint (k : Nat) (p0 p1 p2 : Int) (h0 : 0 ≤ p0) : ∃ (x : PyData) (q0 q2 : Int), jointB x = true ∧ Pv 1 x ∧ 0 ≤ q0 ∧ CI (k + 3) "_law_joint" (some [.int p0, .int p1, .int p2]) [] = some (x, some [.int q0, .int p1, .int q2]) := by
  obtain ⟨r, a0, a2, r0, r1, ha, ea⟩ := c_draw k p0 p1 p2 6 h0 (by decide) (by decide)
  by_cases r4 : r = 4
  · subst r4
    obtain ⟨s, b0, b2, s0, s1, hb, eb⟩ := c_draw k a0 p1 a2 80 ha (by decide) (by decide)
    refine ⟨.tuple [.str "source", .int s], b0, b2, ?_, .inr ⟨_, rfl, by simp, fun y hy => ?_⟩, hb, ?_⟩
    · simp [jointB, num]; omega
    · simp only [List.mem_cons, List.not_mem_nil, or_false] at hy
      rcases hy with rfl | rfl
      · exact pv_str (by decide)
      · exact pv_int (by omega)
    · rw [u_law_joint]
      simp [runF, endF, penOf, startE, exs, ex, ev, evs, evO, evT, evTs, evI, bnd, ret, setAll, b1D, b2D, truD, isi, ixD, seqD, cmp_eq, cmp_ne, cmp_lt, cmp_le, cmp_gt, cmp_ge, eqD_ii, eqD_ss, bin_add, bin_sub, sizeLine, at0, at1, at2, at3, at4, at5, at6, f_law_joint, b_law_joint, ea, eb]
  · by_cases r5 : r = 5
    · subst r5
      obtain ⟨s, b0, b2, s0, s1, hb, eb⟩ := c_draw k a0 p1 a2 60 ha (by decide) (by decide)
      obtain ⟨t, c0, c2, t0, t1, hc, ec⟩ := c_draw k b0 p1 b2 9 hb (by decide) (by decide)
      obtain ⟨u, d0, d2, u0, u1, hd, ed⟩ := c_draw k c0 p1 c2 20 hc (by decide) (by decide)
      refine ⟨.tuple [.str "tank", .int s, .int (1 + t), .int (1 + u)], d0, d2, ?_, .inr ⟨_, rfl, by simp, fun y hy => ?_⟩, hd, ?_⟩
      · simp [jointB, num, sp2]; omega
      · simp only [List.mem_cons, List.not_mem_nil, or_false] at hy
        rcases hy with rfl | rfl | rfl | rfl
        · exact pv_str (by decide)
        all_goals exact pv_int (by omega)
      · rw [u_law_joint]
        simp [runF, endF, penOf, startE, exs, ex, ev, evs, evO, evT, evTs, evI, bnd, ret, setAll, b1D, b2D, truD, isi, ixD, seqD, cmp_eq, cmp_ne, cmp_lt, cmp_le, cmp_gt, cmp_ge, eqD_ii, eqD_ss, bin_add, bin_sub, sizeLine, at0, at1, at2, at3, at4, at5, at6, f_law_joint, b_law_joint, ea, eb, ec, ed]
    · obtain ⟨s, b0, b2, s0, s1, hb, eb⟩ := c_draw k a0 p1 a2 12 ha (by decide) (by decide)
      obtain ⟨t, c0, c2, t0, t1, hc, ec⟩ := c_draw k b0 p1 b2 40 hb (by decide) (by decide)
      obtain ⟨u, d0, d2, u0, u1, hd, ed⟩ := c_draw k c0 p1 c2 60 hc (by decide) (by decide)
      refine ⟨.tuple [.str "place", .int t, .int s, .int (s + u)], d0, d2, ?_, .inr ⟨_, rfl, by simp, fun y hy => ?_⟩, hd, ?_⟩
      · simp [jointB, num, sp5]; omega
      · simp only [List.mem_cons, List.not_mem_nil, or_false] at hy
        rcases hy with rfl | rfl | rfl | rfl
        · exact pv_str (by decide)
        all_goals exact pv_int (by omega)
      · rw [u_law_joint]
        simp [runF, endF, penOf, startE, exs, ex, ev, evs, evO, evT, evTs, evI, bnd, ret, setAll, b1D, b2D, truD, isi, ixD, seqD, cmp_eq, cmp_ne, cmp_lt, cmp_le, cmp_gt, cmp_ge, eqD_ii, eqD_ss, bin_add, bin_sub, sizeLine, at0, at1, at2, at3, at4, at5, at6, f_law_joint, b_law_joint, ea, eb, ec, ed, r4, r5]
theorem forI_cnt {step : PyData → En → Option (Fl × En)} (N : Nat) (I : Nat → En → Prop) : ∀ {xs : List PyData} {i : Nat}, i + xs.length ≤ N → (∀ x ∈ xs, ∀ i ρ, i < N → I i ρ → ∃ ρ', step x ρ = some (.next, ρ') ∧ I (i + 1) ρ') → ∀ ρ, I i ρ → ∃ ρ', forI step xs ρ = some (.next, ρ') ∧ I (i + xs.length) ρ'
  | [], i, _, _, ρ, h => ⟨ρ, rfl, h⟩
  | x :: xs, i, hN, hs, ρ, h => by
    rw [List.length_cons] at hN
    obtain ⟨ρ1, e1, i1⟩ := hs x (.head _) i ρ (by omega) h
    obtain ⟨ρ2, e2, i2⟩ := forI_cnt N I (xs := xs) (i := i + 1) (by omega) (fun y hy => hs y (.tail _ hy)) ρ1 i1
    refine ⟨ρ2, ?_, by rw [List.length_cons, show i + (xs.length + 1) = i + 1 + xs.length by omega]; exact i2⟩
    unfold forI
    rw [e1]
    exact e2
/-! ### nets that are drawn -/
abbrev pen (p0 p1 p2 : Int) : List PyData := [.int p0, .int p1, .int p2]
abbrev EN (mo : Int) (p : List PyData) (s2 : Option Sv) (J : List PyData) (t : Option Sv) (ps : List PyData) (g : Int) (s7 s8 s9 s10 s11 : Option Sv) : En :=
  [some (.own true p), some (.d (.int mo)), s2, some (.d (.list J)), t, some (.own false ps), some (.d (.int g)), s7, s8, s9, s10, s11]
def bodyP : List Sm := [(.par [7, 8] [(.callp "_law_draw" 0 [(.b1 .len (.var 3))]), (.bin .add (.con (.int 1)) (.callp "_law_draw" 0 [(.bin .sub (.b1 .len (.var 3)) (.con (.int 1)))]))]),
    (.set 9 (.ite (.and (.leaf (.cmp .lt (.var 6) (.con (.int 4)))) (.leaf (.cmp .eq (.callp "_law_draw" 0 [(.con (.int 3))]) (.con (.int 0))))) (.con (.str "on")) (.con (.str "both")))),
    (.set 6 (.bin .add (.var 6) (.b1 .int (.cmp .eq (.var 9) (.con (.str "on")))))),
    (.set 10 (.ite (.leaf (.cmp .eq (.var 9) (.con (.str "on")))) (.bin .mul (.callp "_law_draw" 0 [(.con (.int 30))]) (.callp "_law_draw" 0 [(.con (.int 2))])) (.con (.int 0)))),
    (.set 11 (.tup [(.var 7), (.bin .mod (.bin .add (.var 7) (.var 8)) (.b1 .len (.var 3))), (.bin .add (.con (.int 1)) (.callp "_law_draw" 0 [(.ix (.lst [(.con (.int 4)), (.con (.int 20))]) (.callp "_law_draw" 0 [(.con (.int 2))]))]))])),
    (.app 5 (.bin .add (.var 11) (.tup [(.var 9), (.var 10), (.cmp .eq (.callp "_law_draw" 0 [(.con (.int 2))]) (.con (.int 0))), (.callp "_law_draw" 0 [(.con (.int 21))])])))]
theorem way_step (k : Nat) (mo p0 p1 p2 g : Int) (h0 : 0 ≤ p0) (s2 t s7 s8 s9 s10 s11 : Option Sv) (J ps : List PyData) : ∃ (q0 q2 : Int) (w : Str), 0 ≤ q0 ∧ (w = "on" ∧ g < 4 ∨ w = "both") ∧
    ex (cf (k + 2)) (.set 9 (.ite (.and (.leaf (.cmp .lt (.var 6) (.con (.int 4)))) (.leaf (.cmp .eq (.callp "_law_draw" 0 [(.con (.int 3))]) (.con (.int 0))))) (.con (.str "on")) (.con (.str "both")))) (EN mo (pen p0 p1 p2) s2 J t ps g s7 s8 s9 s10 s11) = some (.next, EN mo (pen q0 p1 q2) s2 J t ps g s7 s8 (some (.d (.str w))) s10 s11) := by
  by_cases hg : g < 4
  · obtain ⟨r, q0, q2, r0, r1, hq, e⟩ := c_draw k p0 p1 p2 3 h0 (by decide) (by decide)
    by_cases hr : r = 0
    · subst hr
      exact ⟨q0, q2, "on", hq, .inl ⟨rfl, hg⟩, by simp [runF, endF, penOf, startE, exs, ex, ev, evs, evO, evT, evTs, evI, bnd, ret, setAll, b1D, b2D, truD, isi, ixD, seqD, cmp_eq, cmp_ne, cmp_lt, cmp_le, cmp_gt, cmp_ge, eqD_ii, eqD_ss, bin_add, bin_sub, sizeLine, at0, at1, at2, at3, at4, at5, at6, hg, e]⟩
    · exact ⟨q0, q2, "both", hq, .inr rfl, by simp [runF, endF, penOf, startE, exs, ex, ev, evs, evO, evT, evTs, evI, bnd, ret, setAll, b1D, b2D, truD, isi, ixD, seqD, cmp_eq, cmp_ne, cmp_lt, cmp_le, cmp_gt, cmp_ge, eqD_ii, eqD_ss, bin_add, bin_sub, sizeLine, at0, at1, at2, at3, at4, at5, at6, hg, e, hr]⟩
  · exact ⟨p0, p2, "both", h0, .inr rfl, by simp [runF, endF, penOf, startE, exs, ex, ev, evs, evO, evT, evTs, evI, bnd, ret, setAll, b1D, b2D, truD, isi, ixD, seqD, cmp_eq, cmp_ne, cmp_lt, cmp_le, cmp_gt, cmp_ge, eqD_ii, eqD_ss, bin_add, bin_sub, sizeLine, at0, at1, at2, at3, at4, at5, at6, hg]⟩
theorem lift_step (k : Nat) (mo p0 p1 p2 g : Int) (h0 : 0 ≤ p0) (s2 t s7 s8 s10 s11 : Option Sv) (J ps : List PyData) (w : Str) (hw : w = "on" ∨ w = "both") : ∃ (q0 q2 l : Int), 0 ≤ q0 ∧ 0 ≤ l ∧ l ≤ (if w = "on" then 50 else 0) ∧
    ex (cf (k + 2)) (.set 10 (.ite (.leaf (.cmp .eq (.var 9) (.con (.str "on")))) (.bin .mul (.callp "_law_draw" 0 [(.con (.int 30))]) (.callp "_law_draw" 0 [(.con (.int 2))])) (.con (.int 0)))) (EN mo (pen p0 p1 p2) s2 J t ps g s7 s8 (some (.d (.str w))) s10 s11) = some (.next, EN mo (pen q0 p1 q2) s2 J t ps g s7 s8 (some (.d (.str w))) (some (.d (.int l))) s11) := by
  rcases hw with rfl | rfl
  · obtain ⟨r, a0, a2, r0, r1, ha, ea⟩ := c_draw k p0 p1 p2 30 h0 (by decide) (by decide)
    obtain ⟨s, b0, b2, s0, s1, hb, eb⟩ := c_draw k a0 p1 a2 2 ha (by decide) (by decide)
    have m : (30 : Nat) < 2 ^ 4096 := by decide
    have hs : s = 0 ∨ s = 1 := by omega
    refine ⟨b0, b2, r * s, hb, ?_, ?_, ?_⟩
    · rcases hs with rfl | rfl <;> omega
    · rcases hs with rfl | rfl <;> simp <;> omega
    · simp [runF, endF, penOf, startE, exs, ex, ev, evs, evO, evT, evTs, evI, bnd, ret, setAll, b1D, b2D, truD, isi, ixD, seqD, cmp_eq, cmp_ne, cmp_lt, cmp_le, cmp_gt, cmp_ge, eqD_ii, eqD_ss, bin_add, bin_sub, sizeLine, at0, at1, at2, at3, at4, at5, at6, ea, eb, bin_mul (i := r) (j := s) (by omega) (by omega)]
  · exact ⟨p0, p2, 0, h0, by omega, by simp [both_on], by simp [runF, endF, penOf, startE, exs, ex, ev, evs, evO, evT, evTs, evI, bnd, ret, setAll, b1D, b2D, truD, isi, ixD, seqD, cmp_eq, cmp_ne, cmp_lt, cmp_le, cmp_gt, cmp_ge, eqD_ii, eqD_ss, bin_add, bin_sub, sizeLine, at0, at1, at2, at3, at4, at5, at6, both_on]⟩
theorem turnP (k : Nat) (mo p0 p1 p2 g : Int) (h0 : 0 ≤ p0) (hg : g ≤ 4) (s2 t s7 s8 s9 s10 s11 : Option Sv) (J ps : List PyData) (j1 : 2 ≤ J.length) (j2 : J.length ≤ 7) (hp : ps.length ≤ 100) : ∃ (q0 q2 g' : Int) (x : PyData) (s7' s8' s9' s10' s11' : Option Sv), 0 ≤ q0 ∧ pipeB J.length x = true ∧ Pv 1 x ∧ g' ≤ 4 ∧ g' = g + (if onP x then 1 else 0) ∧
    exs (cf (k + 2)) bodyP (EN mo (pen p0 p1 p2) s2 J t ps g s7 s8 s9 s10 s11) = some (.next, EN mo (pen q0 p1 q2) s2 J t (ps ++ [x]) g' s7' s8' s9' s10' s11') := by
  obtain ⟨a, a0, a2, x0, x1, ha, ea⟩ := c_draw k p0 p1 p2 J.length h0 (by omega) (by omega)
  obtain ⟨b, b0, b2, y0, y1, hb, eb⟩ := c_draw k a0 p1 a2 (J.length - 1) ha (by omega) (by omega)
  obtain ⟨c0, c2, w, hc, hw, ec⟩ := way_step k mo b0 p1 b2 g hb s2 t (some (.d (.int a))) (some (.d (.int (1 + b)))) s9 s10 s11 J ps
  have hw' : w = "on" ∨ w = "both" := hw.elim (fun h => .inl h.1) .inr
  obtain ⟨d0, d2, l, hd, l0, l1, ed⟩ := lift_step k mo c0 p1 c2 (g + (if w = "on" then 1 else 0)) hc s2 t (some (.d (.int a))) (some (.d (.int (1 + b)))) s10 s11 J ps w hw'
  obtain ⟨r2, e0, e2, z0, z1, he, ee⟩ := c_draw k d0 p1 d2 2 hd (by decide) (by decide)
  have hm : ∃ m : Int, 4 ≤ m ∧ m ≤ 20 ∧ atI [PyData.int 4, .int 20] r2 = some (.int m) := by
    have : r2 = 0 ∨ r2 = 1 := by omega
    rcases this with rfl | rfl
    · exact ⟨4, by decide, by decide, rfl⟩
    · exact ⟨20, by decide, by decide, rfl⟩
  obtain ⟨m, m0, m1, em⟩ := hm
  obtain ⟨f, f0, f2, v0, v1, hf, ef⟩ := c_draw k e0 p1 e2 m he (by omega) (by omega)
  obtain ⟨gt, g0, g2, u0, u1, hgt, eg⟩ := c_draw k f0 p1 f2 2 hf (by decide) (by decide)
  obtain ⟨vo, h0', h2, t0, t1, hvo, eh⟩ := c_draw k g0 p1 g2 21 hgt (by decide) (by decide)
  have hJ : (0 : Int) < J.length := by omega
  have mo0 := Int.emod_nonneg (a + (1 + b)) (b := (J.length : Int)) (by omega)
  have mo1 := Int.emod_lt_of_pos (a + (1 + b)) hJ
  have hne : ¬ a = (a + (1 + b)) % J.length := by
    by_cases hlt : a + (1 + b) < J.length
    · rw [Int.emod_eq_of_lt (by omega) hlt]; omega
    · have e1 : (a + (1 + b)) % J.length = a + (1 + b) - J.length := by
        have e2 : a + (1 + b) = (a + (1 + b) - J.length) + J.length := by omega
        rw [e2, Int.add_emod_right, Int.emod_eq_of_lt (by omega) (by omega)]
        omega
      rw [e1]; omega
  refine ⟨h0', h2, g + (if w = "on" then 1 else 0), .tuple [.int a, .int ((a + (1 + b)) % J.length), .int (1 + f), .str w, .int l, .bool (decide (gt = 0)), .int vo], _, _, _, _, _, hvo, ?_, .inr ⟨_, rfl, by simp, fun y hy => ?_⟩, ?_, ?_,
    exs_next (ρ' := EN mo (pen b0 p1 b2) s2 J t ps g (some (.d (.int a))) (some (.d (.int (1 + b)))) s9 s10 s11) ?_ (exs_next ec (exs_next (ρ' := EN mo (pen c0 p1 c2) s2 J t ps (g + (if w = "on" then 1 else 0)) (some (.d (.int a))) (some (.d (.int (1 + b)))) (some (.d (.str w))) s10 s11) ?_ (exs_next ed (exs_next (ρ' := EN mo (pen f0 p1 f2) s2 J t ps (g + (if w = "on" then 1 else 0)) (some (.d (.int a))) (some (.d (.int (1 + b)))) (some (.d (.str w))) (some (.d (.int l))) (some (.d (.tuple [.int a, .int ((a + (1 + b)) % J.length), .int (1 + f)])))) ?_ (exs_next (ρ' := EN mo (pen h0' p1 h2) s2 J t (ps ++ [.tuple [.int a, .int ((a + (1 + b)) % J.length), .int (1 + f), .str w, .int l, .bool (decide (gt = 0)), .int vo]]) (g + (if w = "on" then 1 else 0)) (some (.d (.int a))) (some (.d (.int (1 + b)))) (some (.d (.str w))) (some (.d (.int l))) (some (.d (.tuple [.int a, .int ((a + (1 + b)) % J.length), .int (1 + f)])))) ?_ rfl)))))⟩
  · have n1 : num (.int a) 0 (J.length - 1) = true := by simp [num]; omega
    have n2 : num (.int ((a + (1 + b)) % J.length)) 0 (J.length - 1) = true := by simp [num]; omega
    have n3 : num (.int (1 + f)) 1 20 = true := by simp [num]; omega
    have n4 : num (.int vo) 0 20 = true := by simp [num]; omega
    have n5 : num (.int l) 0 (if isOn (.str w) then 50 else 0) = true := by
      rcases hw' with rfl | rfl
      · simp [num, isOn] at l1 ⊢; omega
      · simp [num, isOn, both_on] at l1 ⊢; omega
    have n6 : wayB (.str w) = true := by rcases hw' with rfl | rfl <;> simp [wayB]
    simp only [pipeB, n1, n2, n3, n4, n5, n6, sameI, hne, isi, decide_false, Bool.not_false, Bool.and_self]
  · simp only [List.mem_cons, List.not_mem_nil, or_false] at hy
    rcases hy with rfl | rfl | rfl | rfl | rfl | rfl | rfl
    · exact pv_int (by omega)
    · exact pv_int (by omega)
    · exact pv_int (by omega)
    · rcases hw' with rfl | rfl <;> exact pv_str (by decide)
    · refine pv_int ?_
      rcases hw' with rfl | rfl
      · simp at l1; omega
      · simp [both_on] at l1; omega
    · rfl
    · exact pv_int (by omega)
  · rcases hw with ⟨rfl, h⟩ | rfl
    · simp; omega
    · simp [both_on]; omega
  · rcases hw' with rfl | rfl <;> simp [onP, isOn, both_on]
  · simp [runF, endF, penOf, startE, exs, ex, ev, evs, evO, evT, evTs, evI, bnd, ret, setAll, b1D, b2D, truD, isi, ixD, seqD, cmp_eq, cmp_ne, cmp_lt, cmp_le, cmp_gt, cmp_ge, eqD_ii, eqD_ss, bin_add, bin_sub, sizeLine, at0, at1, at2, at3, at4, at5, at6, ea, eb]
  · rcases hw' with rfl | rfl <;> simp [runF, endF, penOf, startE, exs, ex, ev, evs, evO, evT, evTs, evI, bnd, ret, setAll, b1D, b2D, truD, isi, ixD, seqD, cmp_eq, cmp_ne, cmp_lt, cmp_le, cmp_gt, cmp_ge, eqD_ii, eqD_ss, bin_add, bin_sub, sizeLine, at0, at1, at2, at3, at4, at5, at6, both_on]
  · simp [runF, endF, penOf, startE, exs, ex, ev, evs, evO, evT, evTs, evI, bnd, ret, setAll, b1D, b2D, truD, isi, ixD, seqD, cmp_eq, cmp_ne, cmp_lt, cmp_le, cmp_gt, cmp_ge, eqD_ii, eqD_ss, bin_add, bin_sub, sizeLine, at0, at1, at2, at3, at4, at5, at6, ee, em, ef, bin_mod hJ]
  · have hps : ps.length < 16777216 := by omega
    simp [runF, endF, penOf, startE, exs, ex, ev, evs, evO, evT, evTs, evI, bnd, ret, setAll, b1D, b2D, truD, isi, ixD, seqD, cmp_eq, cmp_ne, cmp_lt, cmp_le, cmp_gt, cmp_ge, eqD_ii, eqD_ss, bin_add, bin_sub, sizeLine, at0, at1, at2, at3, at4, at5, at6, eg, eh, binD, hps]
theorem c_gnet (k : Nat) (mo p0 p1 p2 : Int) (h0 : 0 ≤ p0) (hmo : 2 ≤ mo ∧ mo ≤ 7) : ∃ (x : PyData) (q0 q2 : Int), netB x = true ∧ Pv 3 x ∧ (∃ js ps, x = .tuple [.tuple js, .tuple ps]) ∧ 0 ≤ q0 ∧ CI (k + 4) "_law_net" (some (pen p0 p1 p2)) [.int mo] = some (x, some (pen q0 p1 q2)) := by
  obtain ⟨r1, a0, a2, r10, r11, ha, ea⟩ := c_draw (k + 1) p0 p1 p2 60 h0 (by decide) (by decide)
  obtain ⟨r2, b0, b2, r20, r21, hb, eb⟩ := c_draw (k + 1) a0 p1 a2 60 ha (by decide) (by decide)
  obtain ⟨r3, c0, c2, r30, r31, hc, ec⟩ := c_draw (k + 1) b0 p1 b2 9 hb (by decide) (by decide)
  obtain ⟨r4, d0, d2, r40, r41, hd, ed⟩ := c_draw (k + 1) c0 p1 c2 2 hc (by decide) (by decide)
  obtain ⟨r5, e0, e2, r50, r51, he, ee⟩ := c_draw (k + 1) d0 p1 d2 (mo - 1) hd (by omega) (by omega)
  obtain ⟨first, hfirst⟩ : ∃ l : List PyData, l = [.tuple [.str "source", .int (20 + r1)], .tuple [.str "tank", .int (10 + r2), .int (1 + r3), .int 12]] := ⟨_, rfl⟩
  have hf : ∃ f, atI first r4 = some f ∧ jointB f = true ∧ Pv 1 f := by
    have : r4 = 0 ∨ r4 = 1 := by omega
    rcases this with rfl | rfl
    · refine ⟨.tuple [.str "source", .int (20 + r1)], by rw [hfirst]; rfl, by simp [jointB, num]; omega, .inr ⟨_, rfl, by simp, fun y hy => ?_⟩⟩
      simp only [List.mem_cons, List.not_mem_nil, or_false] at hy
      rcases hy with rfl | rfl
      · exact pv_str (by decide)
      · exact pv_int (by omega)
    · refine ⟨.tuple [.str "tank", .int (10 + r2), .int (1 + r3), .int 12], by rw [hfirst]; rfl, by simp [jointB, num, sp2]; omega, .inr ⟨_, rfl, by simp, fun y hy => ?_⟩⟩
      simp only [List.mem_cons, List.not_mem_nil, or_false] at hy
      rcases hy with rfl | rfl | rfl | rfl
      · exact pv_str (by decide)
      all_goals exact pv_int (by omega)
  obtain ⟨f0, ef, jf, pf⟩ := hf
  -- the joints
  have C := cmpI_inv (step := fun x ρ2 => match bindT (.name 4) x (wipeE ρ2 [4]) with
        | none => none
        | some ρ3 => bnd (evTs (cf (k + 3)) [] ρ3) fun r ρ4 => match r with
          | false => some (none, backE [some (.own true (pen e0 p1 e2)), some (.d (.int mo)), some (.d (.list first)), none, none, none, none, none, none, none, none, none] ρ4 [4])
          | true => bnd (ev (cf (k + 3)) (.callp "_law_joint" 0 []) ρ4) fun y ρ5 => some (some y, backE [some (.own true (pen e0 p1 e2)), some (.d (.int mo)), some (.d (.list first)), none, none, none, none, none, none, none, none, none] ρ5 [4])) (fun ρ => ∃ q0 q2, 0 ≤ q0 ∧ ρ = [some (.own true (pen q0 p1 q2)), some (.d (.int mo)), some (.d (.list first)), none, none, none, none, none, none, none, none, none]) (fun y => jointB y = true ∧ Pv 1 y) (xs := rngD 0 (1 + r5)) (fun x hx ρ => by
        rintro ⟨q0, q2, hq, rfl⟩
        obtain ⟨y, s0, s2, j1, j2, hs, es⟩ := c_gjoint k q0 p1 q2 hq
        exact ⟨y, _, by simp [runF, endF, penOf, startE, exs, ex, ev, evs, evO, evT, evTs, evI, bnd, ret, setAll, b1D, b2D, truD, isi, ixD, seqD, cmp_eq, cmp_ne, cmp_lt, cmp_le, cmp_gt, cmp_ge, eqD_ii, eqD_ss, bin_add, bin_sub, sizeLine, at0, at1, at2, at3, at4, at5, at6, bindT, wipeE, backE, es], ⟨j1, j2⟩, s0, s2, hs, rfl⟩) _ ⟨e0, e2, he, rfl⟩
  obtain ⟨ys, ρ1, eC, lC, pC, f0', f2', hf', rfl⟩ := C
  have lys : ys.length = (1 + r5).toNat := by rw [lC]; simp [rngD]
  obtain ⟨J, hJ⟩ : ∃ J, J = f0 :: ys := ⟨_, rfl⟩
  have lJ : 2 ≤ J.length ∧ J.length ≤ 7 := by
    rw [hJ, List.length_cons, lys]; omega
  obtain ⟨r6, g0, g2, r60, r61, hg, eg⟩ := c_draw (k + 1) f0' p1 f2' (if (J.length : Int) + 3 < 9 then J.length + 3 else 9) hf' (by split <;> omega) (by split <;> omega)
  have hr6 : r6 < 9 := by split at r61 <;> omega
  -- the pipes
  have lr : (rngD 0 (1 + r6)).length = (1 + r6).toNat := by simp [rngD]
  have L := forI_cnt (step := fun x ρ => match bindT (.name 4) x ρ with
      | none => none
      | some ρ => exs (cf (k + 3)) bodyP ρ) 9 (fun i ρ => ∃ q0 q2 t ps g s7 s8 s9 s10 s11, 0 ≤ q0 ∧ g ≤ 4 ∧ ps.length = i ∧ ps.all (pipeB J.length) = true ∧ (∀ y ∈ ps, Pv 1 y) ∧ g = ((ps.filter onP).length : Int) ∧ ρ = EN mo (pen q0 p1 q2) (some (.d (.list first))) J t ps g s7 s8 s9 s10 s11)
      (xs := rngD 0 (1 + r6)) (i := 0) (by rw [lr]; omega) (fun x hx i ρ hi => by
        rintro ⟨q0, q2, t, ps, g, s7, s8, s9, s10, s11, hq, hg4, hil, ha, hP, hgl, rfl⟩
        obtain ⟨u0, u2, g', y, s7', s8', s9', s10', s11', hu, py, Py, g4', hg', eT⟩ := turnP (k + 1) mo q0 p1 q2 g hq hg4 (some (.d (.list first))) (some (.d x)) s7 s8 s9 s10 s11 J ps lJ.1 lJ.2 (by omega)
        refine ⟨_, eT, u0, u2, some (.d x), ps ++ [y], g', s7', s8', s9', s10', s11', hu, g4', by simp [hil], by simp [ha, py], fun z hz => ?_, ?_, rfl⟩
        · rcases List.mem_append.mp hz with hz | hz
          · exact hP z hz
          · simp only [List.mem_cons, List.not_mem_nil, or_false] at hz
            subst hz; exact Py
        · rw [hg', hgl, List.filter_append]
          cases hon : onP y <;> simp [hon, List.filter]) _ ⟨g0, g2, none, [], 0, none, none, none, none, none, hg, by omega, rfl, rfl, (fun _ z => nomatch z), rfl, rfl⟩
  obtain ⟨ρ2, eL, q0, q2, t, ps, g, s7, s8, s9, s10, s11, hq, hg4, hpl, hpa, hPp, hgl, rfl⟩ := L
  have lps : 1 ≤ ps.length ∧ ps.length ≤ 9 := by rw [hpl, lr]; omega
  have aJ : J.all jointB = true := by
    rw [hJ, List.all_cons, jf]
    simp only [Bool.true_and, List.all_eq_true]
    exact fun y hy => (pC y hy).1
  have PJ : ∀ y ∈ J, Pv 1 y := fun y hy => by
    rw [hJ] at hy
    cases hy with
    | head => exact pf
    | tail _ h => exact (pC y h).2
  refine ⟨.tuple [.tuple J, .tuple ps], q0, q2, ?_, .inr ⟨_, rfl, by simp, fun y hy => ?_⟩, ⟨J, ps, rfl⟩, hq, ?_⟩
  · rw [netB_eq, aJ, hpa]
    simp
    omega
  · simp only [List.mem_cons, List.not_mem_nil, or_false] at hy
    rcases hy with rfl | rfl
    · exact .inr ⟨J, rfl, by omega, PJ⟩
    · exact .inr ⟨ps, rfl, by omega, hPp⟩
  · rw [u_law_net]
    have E1 : ex (cf (k + 3)) (.set 2 (.lst [(.tup [(.con (.str "source")), (.bin .add (.con (.int 20)) (.callp "_law_draw" 0 [(.con (.int 60))]))]), (.tup [(.con (.str "tank")), (.bin .add (.con (.int 10)) (.callp "_law_draw" 0 [(.con (.int 60))])), (.bin .add (.con (.int 1)) (.callp "_law_draw" 0 [(.con (.int 9))])), (.con (.int 12))])])) [some (.own true (pen p0 p1 p2)), some (.d (.int mo)), none, none, none, none, none, none, none, none, none, none] = some (.next, [some (.own true (pen c0 p1 c2)), some (.d (.int mo)), some (.d (.list first)), none, none, none, none, none, none, none, none, none]) := by
      simp [runF, endF, penOf, startE, exs, ex, ev, evs, evO, evT, evTs, evI, bnd, ret, setAll, b1D, b2D, truD, isi, ixD, seqD, cmp_eq, cmp_ne, cmp_lt, cmp_le, cmp_gt, cmp_ge, eqD_ii, eqD_ss, bin_add, bin_sub, sizeLine, at0, at1, at2, at3, at4, at5, at6, ea, eb, ec, hfirst]
    have E2a : ev (cf (k + 3)) (.lst [(.ix (.var 2) (.callp "_law_draw" 0 [(.con (.int 2))]))]) [some (.own true (pen c0 p1 c2)), some (.d (.int mo)), some (.d (.list first)), none, none, none, none, none, none, none, none, none] = some (.list [f0], [some (.own true (pen d0 p1 d2)), some (.d (.int mo)), some (.d (.list first)), none, none, none, none, none, none, none, none, none]) := by
      simp [runF, endF, penOf, startE, exs, ex, ev, evs, evO, evT, evTs, evI, bnd, ret, setAll, b1D, b2D, truD, isi, ixD, seqD, cmp_eq, cmp_ne, cmp_lt, cmp_le, cmp_gt, cmp_ge, eqD_ii, eqD_ss, bin_add, bin_sub, sizeLine, at0, at1, at2, at3, at4, at5, at6, ed, ef]
    have E2i : evI (cf (k + 3)) (.rng1 (.bin .add (.con (.int 1)) (.callp "_law_draw" 0 [(.bin .sub (.var 1) (.con (.int 1)))]))) [some (.own true (pen d0 p1 d2)), some (.d (.int mo)), some (.d (.list first)), none, none, none, none, none, none, none, none, none] = some (rngD 0 (1 + r5), [some (.own true (pen e0 p1 e2)), some (.d (.int mo)), some (.d (.list first)), none, none, none, none, none, none, none, none, none]) := by
      have hs : smallI (1 + r5) = true := by simp [smallI]; omega
      simp [runF, endF, penOf, startE, exs, ex, ev, evs, evO, evT, evTs, evI, bnd, ret, setAll, b1D, b2D, truD, isi, ixD, seqD, cmp_eq, cmp_ne, cmp_lt, cmp_le, cmp_gt, cmp_ge, eqD_ii, eqD_ss, bin_add, bin_sub, sizeLine, at0, at1, at2, at3, at4, at5, at6, ee, hs]
    have E2c : ev (cf (k + 3)) (.comp (.callp "_law_joint" 0 []) (.name 4) (.rng1 (.bin .add (.con (.int 1)) (.callp "_law_draw" 0 [(.bin .sub (.var 1) (.con (.int 1)))]))) [] [4]) [some (.own true (pen d0 p1 d2)), some (.d (.int mo)), some (.d (.list first)), none, none, none, none, none, none, none, none, none] = some (.list ys, [some (.own true (pen f0' p1 f2')), some (.d (.int mo)), some (.d (.list first)), none, none, none, none, none, none, none, none, none]) := by
      unfold ev
      have hl : (rngD 0 (1 + r5)).length ≤ 100000 := by simp [rngD]; omega
      rw [if_pos (by rfl), E2i, bnd_some, if_pos ⟨by rfl, hl⟩]
      exact Eq.trans (congrArg (fun m => bnd m fun ys ρ6 => some (PyData.list ys, ρ6)) eC) rfl
    have E2 : ex (cf (k + 3)) (.set 3 (.bin .add (.lst [(.ix (.var 2) (.callp "_law_draw" 0 [(.con (.int 2))]))]) (.comp (.callp "_law_joint" 0 []) (.name 4) (.rng1 (.bin .add (.con (.int 1)) (.callp "_law_draw" 0 [(.bin .sub (.var 1) (.con (.int 1)))]))) [] [4]))) [some (.own true (pen c0 p1 c2)), some (.d (.int mo)), some (.d (.list first)), none, none, none, none, none, none, none, none, none] = some (.next, [some (.own true (pen f0' p1 f2')), some (.d (.int mo)), some (.d (.list first)), some (.d (.list J)), none, none, none, none, none, none, none, none]) := by
      unfold ex ev
      rw [E2a, bnd_some, E2c, bnd_some]
      have hl : [f0].length + ys.length ≤ sizeLine := by rw [lys]; simp [sizeLine]; omega
      have hb : binD .add (.list [f0]) (.list ys) = some (.list J) := by
        rw [hJ]
        simp only [binD, if_pos hl]
        rfl
      rw [hb]
      rfl
    have E3 : ex (cf (k + 3)) (.paro [5, 6] [true, false] [(.lst []), (.con (.int 0))]) [some (.own true (pen f0' p1 f2')), some (.d (.int mo)), some (.d (.list first)), some (.d (.list J)), none, none, none, none, none, none, none, none] = some (.next, EN mo (pen f0' p1 f2') (some (.d (.list first))) J none [] 0 none none none none none) := by
      simp [runF, endF, penOf, startE, exs, ex, ev, evs, evO, evT, evTs, evI, bnd, ret, setAll, b1D, b2D, truD, isi, ixD, seqD, cmp_eq, cmp_ne, cmp_lt, cmp_le, cmp_gt, cmp_ge, eqD_ii, eqD_ss, bin_add, bin_sub, sizeLine, at0, at1, at2, at3, at4, at5, at6, setAllO]
    have E4i : evI (cf (k + 3)) (.rng1 (.bin .add (.con (.int 1)) (.callp "_law_draw" 0 [(.b2 .min (.con (.int 9)) (.bin .add (.b1 .len (.var 3)) (.con (.int 3))))]))) (EN mo (pen f0' p1 f2') (some (.d (.list first))) J none [] 0 none none none none none) = some (rngD 0 (1 + r6), EN mo (pen g0 p1 g2) (some (.d (.list first))) J none [] 0 none none none none none) := by
      have hs : smallI (1 + r6) = true := by simp [smallI]; omega
      simp [runF, endF, penOf, startE, exs, ex, ev, evs, evO, evT, evTs, evI, bnd, ret, setAll, b1D, b2D, truD, isi, ixD, seqD, cmp_eq, cmp_ne, cmp_lt, cmp_le, cmp_gt, cmp_ge, eqD_ii, eqD_ss, bin_add, bin_sub, sizeLine, at0, at1, at2, at3, at4, at5, at6, eg, hs]
    have E4 : ex (cf (k + 3)) (.for_ (.name 4) (.rng1 (.bin .add (.con (.int 1)) (.callp "_law_draw" 0 [(.b2 .min (.con (.int 9)) (.bin .add (.b1 .len (.var 3)) (.con (.int 3))))]))) bodyP) (EN mo (pen f0' p1 f2') (some (.d (.list first))) J none [] 0 none none none none none) = some (.next, EN mo (pen q0 p1 q2) (some (.d (.list first))) J t ps g s7 s8 s9 s10 s11) := by
      unfold ex
      rw [E4i, bnd_some]
      exact eL
    have E : exs (cf (k + 3)) b_law_net [some (.own true (pen p0 p1 p2)), some (.d (.int mo)), none, none, none, none, none, none, none, none, none, none] = some (.ret (.tuple [.tuple J, .tuple ps]), [some (.own true (pen q0 p1 q2)), some (.d (.int mo)), some (.d (.list first)), some (.d (.list J)), t, some (.d (.list ps)), some (.d (.int g)), s7, s8, s9, s10, s11]) := by
      refine exs_next E1 (exs_next E2 (exs_next E3 (exs_next E4 ?_)))
      simp [runF, endF, penOf, startE, exs, ex, ev, evs, evO, evT, evTs, evI, bnd, ret, setAll, b1D, b2D, truD, isi, ixD, seqD, cmp_eq, cmp_ne, cmp_lt, cmp_le, cmp_gt, cmp_ge, eqD_ii, eqD_ss, bin_add, bin_sub, sizeLine, at0, at1, at2, at3, at4, at5, at6]
    have E' : exs (cf (k + 3)) f_law_net.body (startE f_law_net (some (pen p0 p1 p2)) [.int mo]) = _ := E
    unfold runF
    rw [if_pos (by rfl), E']
    rfl
theorem c_gnt (k : Nat) (mo p0 p1 p2 : Int) (h0 : 0 ≤ p0) (hmo : 2 ≤ mo ∧ mo ≤ 7) : ∃ (N : Nt) (q0 q2 : Int), N.ok ∧ 0 ≤ q0 ∧ CI (k + 4) "_law_net" (some (pen p0 p1 p2)) [.int mo] = some (N.d, some (pen q0 p1 q2)) := by
  obtain ⟨x, q0, q2, hn, _, ⟨js, ps, rfl⟩, hq, e⟩ := c_gnet k mo p0 p1 p2 h0 hmo
  obtain ⟨N, rfl, rfl, ok⟩ := nt_of hn
  exact ⟨N, q0, q2, ok, hq, e⟩

/-- a fraction from nought to m, of a small bottom -/
structure Amq (m : Int) (r : Rat) : Prop where
  t0 : 0 ≤ r.num
  t1 : r.num ≤ m * r.den
  d1 : r.den ≤ 12
theorem amq_div {t b m : Int} (t0 : 0 ≤ t) (t1 : t ≤ m * b) (b0 : 0 < b) (b1 : b ≤ 12) : Amq m (Rat.divInt t b) := by
  obtain ⟨l1, l2⟩ := low_pos (t := t) b0
  have g := gcd_pos (t := t) (b := b) (by omega)
  have e1 := Int.ediv_mul_cancel (Int.gcd_dvd_left t b)
  have e2 := Int.ediv_mul_cancel (Int.gcd_dvd_right t b)
  rw [l1] at e1
  rw [l2] at e2
  generalize (Int.gcd t b : Int) = G at *
  have dp := den_pos (Rat.divInt t b)
  refine ⟨by rw [← l1]; exact Int.ediv_nonneg t0 (by omega), ?_, ?_⟩
  · by_cases hh : (Rat.divInt t b).num ≤ m * (Rat.divInt t b).den
    · exact hh
    · have : (m * (Rat.divInt t b).den + 1) * G ≤ (Rat.divInt t b).num * G := Int.mul_le_mul_of_nonneg_right (by omega) (by omega)
      rw [Int.add_mul, Int.mul_assoc, e1, e2] at this
      omega
  · have : ((Rat.divInt t b).den : Int) * 1 ≤ (Rat.divInt t b).den * G := Int.mul_le_mul_of_nonneg_left (by omega) (by omega)
    omega
theorem Amq.sz {m : Int} {r : Rat} (h : Amq m r) (hm : m ≤ 1000) : szQ r 20 := by
  have h0 := h.t0
  have h1 := h.t1
  have h2 := h.d1
  have dp := den_pos r
  have : m * r.den ≤ 1000 * r.den := Int.mul_le_mul_of_nonneg_right hm (by omega)
  constructor
  · unfold szI
    omega
  · unfold szI
    omega
theorem amq_mono {m n : Int} {r : Rat} (h : Amq m r) (hm : m ≤ n) : Amq n r := ⟨h.t0, by
  have := h.t1
  have : m * r.den ≤ n * r.den := Int.mul_le_mul_of_nonneg_right hm (by omega)
  omega, h.d1⟩
theorem frq0 : frq 0 = .tuple [.int 0, .int 1] := rfl
theorem amq0 {m : Int} (hm : 0 ≤ m) : Amq m 0 := ⟨by decide, by simp; exact hm, by decide⟩
theorem rw_some {α β : Type} {R : α → β → Prop} : ∀ {as : List α} {os : List (Option β)}, Rw (fun a o => ∃ b, o = some b ∧ R a b) as os → Rw R as (os.filterMap id)
  | _, _, .nil => .nil
  | _, _, .cons h t => by
    obtain ⟨b, rfl, r⟩ := h
    exact .cons r (rw_some t)
/-! ### cases that are drawn -/
theorem c_gfrac (k : Nat) (p0 p1 p2 : Int) (h0 : 0 ≤ p0) (A L : List Rat) (nd jd : PyData) (s5 : Option Sv) (h5 : s5 = none ∨ ∃ y, s5 = some (.d y)) : ∃ (r : Rat) (q0 q2 : Int), Amq 50 r ∧ 0 ≤ q0 ∧ ex (cf (k + 2)) (.set 5 (.call "_law_low" [(.callp "_law_draw" 0 [(.con (.int 7))]), (.bin .add (.con (.int 1)) (.callp "_law_draw" 0 [(.ix (.lst [(.con (.int 1)), (.con (.int 3))]) (.callp "_law_draw" 0 [(.con (.int 2))]))]))])) [some (.own true (pen p0 p1 p2)), some (.d nd), some (.own false (A.map frq)), some (.own false (L.map frq)), some (.d jd), s5, none, none, none] = some (.next, [some (.own true (pen q0 p1 q2)), some (.d nd), some (.own false (A.map frq)), some (.own false (L.map frq)), some (.d jd), some (.d (frq r)), none, none, none]) := by
  obtain ⟨t, a0, a2, t0, t1, ha, ea⟩ := c_draw k p0 p1 p2 7 h0 (by decide) (by decide)
  obtain ⟨i, b0, b2, i0, i1, hb, eb⟩ := c_draw k a0 p1 a2 2 ha (by decide) (by decide)
  obtain ⟨m, em, m0, m1⟩ : ∃ m : Int, atI [PyData.int 1, .int 3] i = some (.int m) ∧ 1 ≤ m ∧ m ≤ 3 := by
    rcases (by omega : i = 0 ∨ i = 1) with rfl | rfl
    · exact ⟨1, rfl, by decide, by decide⟩
    · exact ⟨3, rfl, by decide, by decide⟩
  obtain ⟨b, c0, c2, b0', b1', hc, ec⟩ := c_draw k b0 p1 b2 m hb (by omega) (by omega)
  have Q : (1000 : Nat) < 10 ^ 20 := by decide
  have l := c_made (k + 1) t (1 + b) (by omega) (szI20 (by omega) (by decide)) (szI20 (by omega) (by decide))
  obtain ⟨l1, l2⟩ := low_pos (t := t) (b := 1 + b) (by omega)
  rw [l1, l2] at l
  refine ⟨Rat.divInt t (1 + b), c0, c2, amq_div t0 (by omega) (by omega) (by omega), hc, ?_⟩
  have fr : frq (Rat.divInt t (1 + b)) = .tuple [.int (Rat.divInt t (1 + b)).num, .int (Rat.divInt t (1 + b)).den] := rfl
  rw [← fr] at l
  rcases h5 with rfl | ⟨y, rfl⟩ <;> simp [runF, endF, penOf, startE, exs, ex, ev, evs, evO, evT, evTs, evI, bnd, ret, setAll, b1D, b2D, truD, isi, ixD, seqD, cmp_eq, cmp_ne, cmp_lt, cmp_le, cmp_gt, cmp_ge, eqD_ii, eqD_ss, bin_add, bin_sub, sizeLine, at0, at1, at2, at3, at4, at5, at6, ea, eb, em, ec, l]
def pcB : List Sm := [(.set 5 (.call "_law_low" [(.callp "_law_draw" 0 [(.con (.int 7))]), (.bin .add (.con (.int 1)) (.callp "_law_draw" 0 [(.ix (.lst [(.con (.int 1)), (.con (.int 3))]) (.callp "_law_draw" 0 [(.con (.int 2))]))]))])),
    (.app 2 (.ite (.and (.leaf (.cmp .eq (.ix (.var 4) (.con (.int 0))) (.con (.str "place")))) (.leaf (.cmp .gt (.callp "_law_draw" 0 [(.con (.int 4))]) (.con (.int 0))))) (.var 5) (.tup [(.con (.int 0)), (.con (.int 1))]))),
    (.ite (.leaf (.cmp .eq (.ix (.var 4) (.con (.int 0))) (.con (.str "tank")))) [(.app 3 (.call "_law_low" [(.callp "_law_draw" 0 [(.bin .add (.bin .mul (.con (.int 2)) (.ix (.var 4) (.con (.int 3)))) (.con (.int 1)))]), (.con (.int 2))]))] [])]
abbrev PE (p : List PyData) (nd : PyData) (A L : List Rat) (s4 s5 : Option Sv) : En := [some (.own true p), some (.d nd), some (.own false (A.map frq)), some (.own false (L.map frq)), s4, s5, none, none, none]
theorem frq_snoc (A : List Rat) (a : Rat) : A.map frq ++ [frq a] = (A ++ [a]).map frq := by simp
theorem pc_step (k : Nat) (p0 p1 p2 : Int) (h0 : 0 ≤ p0) (nd : PyData) (A L : List Rat) (hA : A.length ≤ 100) (hL : L.length ≤ 100) (j : Jt) (hj : j.ok) (s5 : Option Sv) (h5 : s5 = none ∨ ∃ y, s5 = some (.d y)) : ∃ (a : Rat) (ls : List Rat) (q0 q2 : Int) (y : PyData), (Amq 50 a ∧ (j.isP = false → a = 0)) ∧ Rw (fun t l => Amq t l) j.top.toList ls ∧ 0 ≤ q0 ∧ exs (cf (k + 2)) pcB (PE (pen p0 p1 p2) nd A L (some (.d j.d)) s5) = some (.next, PE (pen q0 p1 q2) nd (A ++ [a]) (L ++ ls) (some (.d j.d)) (some (.d y))) := by
  obtain ⟨r, a0, a2, hr, ha, ea⟩ := c_gfrac k p0 p1 p2 h0 A L nd j.d s5 h5
  have Al : A.length < 16777216 := by omega
  have Ll : L.length < 16777216 := by omega
  cases j with
  | place x y z =>
    obtain ⟨d, b0, b2, d0, d1, hb, eb⟩ := c_draw k a0 p1 a2 4 ha (by decide) (by decide)
    by_cases hd : 0 < d
    · refine ⟨r, [], b0, b2, frq r, ⟨hr, fun h => nomatch h⟩, .nil, hb, exs_next ea (exs_next (ρ' := PE (pen b0 p1 b2) nd (A ++ [r]) L (some (.d (Jt.place x y z).d)) (some (.d (frq r)))) ?_ ?_)⟩
      · rw [show PE (pen b0 p1 b2) nd (A ++ [r]) L (some (.d (Jt.place x y z).d)) (some (.d (frq r))) = [some (.own true (pen b0 p1 b2)), some (.d nd), some (.own false (A.map frq ++ [frq r])), some (.own false (L.map frq)), some (.d (Jt.place x y z).d), some (.d (frq r)), none, none, none] by rw [frq_snoc]]
        simp [runF, endF, penOf, startE, exs, ex, ev, evs, evO, evT, evTs, evI, bnd, ret, setAll, b1D, b2D, truD, isi, ixD, seqD, cmp_eq, cmp_ne, cmp_lt, cmp_le, cmp_gt, cmp_ge, eqD_ii, eqD_ss, bin_add, bin_sub, sizeLine, at0, at1, at2, at3, at4, at5, at6, Jt.d, eb, hd, Al]
      · simp [runF, endF, penOf, startE, exs, ex, ev, evs, evO, evT, evTs, evI, bnd, ret, setAll, b1D, b2D, truD, isi, ixD, seqD, cmp_eq, cmp_ne, cmp_lt, cmp_le, cmp_gt, cmp_ge, eqD_ii, eqD_ss, bin_add, bin_sub, sizeLine, at0, at1, at2, at3, at4, at5, at6, Jt.d, sp5]
    · refine ⟨0, [], b0, b2, frq r, ⟨amq0 (by decide), fun h => nomatch h⟩, .nil, hb, exs_next ea (exs_next (ρ' := PE (pen b0 p1 b2) nd (A ++ [0]) L (some (.d (Jt.place x y z).d)) (some (.d (frq r)))) ?_ ?_)⟩
      · rw [show PE (pen b0 p1 b2) nd (A ++ [0]) L (some (.d (Jt.place x y z).d)) (some (.d (frq r))) = [some (.own true (pen b0 p1 b2)), some (.d nd), some (.own false (A.map frq ++ [frq 0])), some (.own false (L.map frq)), some (.d (Jt.place x y z).d), some (.d (frq r)), none, none, none] by rw [frq_snoc]]
        simp [runF, endF, penOf, startE, exs, ex, ev, evs, evO, evT, evTs, evI, bnd, ret, setAll, b1D, b2D, truD, isi, ixD, seqD, cmp_eq, cmp_ne, cmp_lt, cmp_le, cmp_gt, cmp_ge, eqD_ii, eqD_ss, bin_add, bin_sub, sizeLine, at0, at1, at2, at3, at4, at5, at6, Jt.d, eb, hd, Al, frq0]
      · simp [runF, endF, penOf, startE, exs, ex, ev, evs, evO, evT, evTs, evI, bnd, ret, setAll, b1D, b2D, truD, isi, ixD, seqD, cmp_eq, cmp_ne, cmp_lt, cmp_le, cmp_gt, cmp_ge, eqD_ii, eqD_ss, bin_add, bin_sub, sizeLine, at0, at1, at2, at3, at4, at5, at6, Jt.d, sp5]
  | src x =>
    refine ⟨0, [], a0, a2, frq r, ⟨amq0 (by decide), fun _ => rfl⟩, .nil, ha, exs_next ea (exs_next (ρ' := PE (pen a0 p1 a2) nd (A ++ [0]) L (some (.d (Jt.src x).d)) (some (.d (frq r)))) ?_ ?_)⟩
    · rw [show PE (pen a0 p1 a2) nd (A ++ [0]) L (some (.d (Jt.src x).d)) (some (.d (frq r))) = [some (.own true (pen a0 p1 a2)), some (.d nd), some (.own false (A.map frq ++ [frq 0])), some (.own false (L.map frq)), some (.d (Jt.src x).d), some (.d (frq r)), none, none, none] by rw [frq_snoc]]
      simp [runF, endF, penOf, startE, exs, ex, ev, evs, evO, evT, evTs, evI, bnd, ret, setAll, b1D, b2D, truD, isi, ixD, seqD, cmp_eq, cmp_ne, cmp_lt, cmp_le, cmp_gt, cmp_ge, eqD_ii, eqD_ss, bin_add, bin_sub, sizeLine, at0, at1, at2, at3, at4, at5, at6, Jt.d, Al, frq0, sp1]
    · simp [runF, endF, penOf, startE, exs, ex, ev, evs, evO, evT, evTs, evI, bnd, ret, setAll, b1D, b2D, truD, isi, ixD, seqD, cmp_eq, cmp_ne, cmp_lt, cmp_le, cmp_gt, cmp_ge, eqD_ii, eqD_ss, bin_add, bin_sub, sizeLine, at0, at1, at2, at3, at4, at5, at6, Jt.d, sp4]
  | tank x y z =>
    simp only [Jt.ok] at hj
    have Q : (1000 : Nat) < 10 ^ 20 := by decide
    obtain ⟨t, b0, b2, t0, t1, hb, eb⟩ := c_draw k a0 p1 a2 (2 * z + 1) ha (by omega) (by omega)
    have l := c_made (k + 1) t 2 (by omega) (szI20 (by omega) (by decide)) (szI20 (by omega) (by decide))
    obtain ⟨l1, l2⟩ := low_pos (t := t) (b := 2) (by omega)
    rw [l1, l2] at l
    have fr : frq (Rat.divInt t 2) = .tuple [.int (Rat.divInt t 2).num, .int (Rat.divInt t 2).den] := rfl
    rw [← fr] at l
    have m := mulS (i := 2) (j := z) (by decide) (by omega)
    refine ⟨0, [Rat.divInt t 2], b0, b2, frq r, ⟨amq0 (by decide), fun _ => rfl⟩, .cons (amq_div t0 (by omega) (by omega) (by omega)) .nil, hb, exs_next ea (exs_next (ρ' := PE (pen a0 p1 a2) nd (A ++ [0]) L (some (.d (Jt.tank x y z).d)) (some (.d (frq r)))) ?_ ?_)⟩
    · rw [show PE (pen a0 p1 a2) nd (A ++ [0]) L (some (.d (Jt.tank x y z).d)) (some (.d (frq r))) = [some (.own true (pen a0 p1 a2)), some (.d nd), some (.own false (A.map frq ++ [frq 0])), some (.own false (L.map frq)), some (.d (Jt.tank x y z).d), some (.d (frq r)), none, none, none] by rw [frq_snoc]]
      simp [runF, endF, penOf, startE, exs, ex, ev, evs, evO, evT, evTs, evI, bnd, ret, setAll, b1D, b2D, truD, isi, ixD, seqD, cmp_eq, cmp_ne, cmp_lt, cmp_le, cmp_gt, cmp_ge, eqD_ii, eqD_ss, bin_add, bin_sub, sizeLine, at0, at1, at2, at3, at4, at5, at6, Jt.d, Al, frq0, sp2]
    · rw [show PE (pen b0 p1 b2) nd (A ++ [0]) (L ++ [Rat.divInt t 2]) (some (.d (Jt.tank x y z).d)) (some (.d (frq r))) = [some (.own true (pen b0 p1 b2)), some (.d nd), some (.own false ((A ++ [0]).map frq)), some (.own false (L.map frq ++ [frq (Rat.divInt t 2)])), some (.d (Jt.tank x y z).d), some (.d (frq r)), none, none, none] by rw [frq_snoc]]
      simp [runF, endF, penOf, startE, exs, ex, ev, evs, evO, evT, evTs, evI, bnd, ret, setAll, b1D, b2D, truD, isi, ixD, seqD, cmp_eq, cmp_ne, cmp_lt, cmp_le, cmp_gt, cmp_ge, eqD_ii, eqD_ss, bin_add, bin_sub, sizeLine, at0, at1, at2, at3, at4, at5, at6, Jt.d, m, eb, l, Ll]
theorem rw_app {α β : Type} {R : α → β → Prop} : ∀ {as as' : List α} {bs bs' : List β}, Rw R as bs → Rw R as' bs' → Rw R (as ++ as') (bs ++ bs')
  | _, _, _, _, .nil, h => h
  | _, _, _, _, .cons a t, h => .cons a (rw_app t h)
theorem pc_loop (k : Nat) (p1 : Int) (nd : PyData) : ∀ (js : List Jt) (p0 p2 : Int) (A L : List Rat) (s4 s5 : Option Sv), 0 ≤ p0 → (∀ j ∈ js, j.ok) → A.length + js.length ≤ 100 → L.length + js.length ≤ 100 → (s4 = none ∨ ∃ y, s4 = some (.d y)) → (s5 = none ∨ ∃ y, s5 = some (.d y)) → ∃ (as ls : List Rat) (q0 q2 : Int) (t4 t5 : Option Sv), Rw (fun (j : Jt) a => Amq 50 a ∧ (j.isP = false → a = 0)) js as ∧ Rw (fun t l => Amq t l) (js.filterMap Jt.top) ls ∧ 0 ≤ q0 ∧ (t4 = none ∨ ∃ y, t4 = some (.d y)) ∧ (t5 = none ∨ ∃ y, t5 = some (.d y)) ∧ forI (fun x ρ => match bindT (.name 4) x ρ with
      | none => none
      | some ρ => exs (cf (k + 2)) pcB ρ) (js.map Jt.d) (PE (pen p0 p1 p2) nd A L s4 s5) = some (.next, PE (pen q0 p1 q2) nd (A ++ as) (L ++ ls) t4 t5)
  | [], p0, p2, A, L, s4, s5, h0, _, _, _, h4, h5 => ⟨[], [], p0, p2, s4, s5, .nil, .nil, h0, h4, h5, by simp [forI]⟩
  | j :: js, p0, p2, A, L, s4, s5, h0, ok, lA, lL, h4, h5 => by
    rw [List.length_cons] at lA lL
    obtain ⟨a, l1, a0, a2, y, ra, rl, ha, e1⟩ := pc_step k p0 p1 p2 h0 nd A L (by omega) (by omega) j (ok j (.head _)) s5 h5
    have ll : l1.length ≤ 1 := by
      have := rl.len
      have : j.top.toList.length ≤ 1 := by cases j.top <;> simp
      omega
    obtain ⟨as, ls, q0, q2, t4, t5, ras, rls, hq, h4', h5', e2⟩ := pc_loop k p1 nd js a0 a2 (A ++ [a]) (L ++ l1) (some (.d j.d)) (some (.d y)) ha (fun i hi => ok i (.tail _ hi)) (by simp; omega) (by simp; omega) (.inr ⟨_, rfl⟩) (.inr ⟨_, rfl⟩)
    refine ⟨a :: as, l1 ++ ls, q0, q2, t4, t5, .cons ra ras, ?_, hq, h4', h5', ?_⟩
    · rw [List.filterMap_cons]
      cases ht : j.top with
      | none =>
        rw [ht] at rl
        cases rl
        exact rls
      | some t =>
        rw [ht] at rl
        exact rw_app rl rls
    · rw [List.map_cons]
      rw [List.append_assoc, List.append_assoc] at e2
      refine forI_cons ?_ e2
      rcases h4 with rfl | ⟨z, rfl⟩ <;> exact e1

def gateL (ps : List Pt) : List Int := ps.zipIdx.filterMap fun q => if q.1.g || decide (0 < q.1.l) then some (q.2 : Int) else none
theorem gateL_mem (ps : List Pt) (i : Int) : i ∈ gateL ps ↔ gateB ps i = true := by
  unfold gateL gateB
  rw [List.mem_filterMap]
  constructor
  · rintro ⟨q, hq, e⟩
    have := List.mem_zipIdx_iff_getElem?.mp hq
    split at e
    · rename_i h
      cases e
      simp [this]
      simpa using h
    · cases e
  · intro h
    rw [Bool.and_eq_true, decide_eq_true_eq] at h
    obtain ⟨n, rfl⟩ := Int.eq_ofNat_of_zero_le h.1
    cases hp : ps[n]? with
    | none => simp [hp] at h
    | some p =>
      refine ⟨(p, n), List.mem_zipIdx_iff_getElem?.mpr (by simpa using hp), ?_⟩
      simp [hp] at h
      simp [h]
theorem gateL_pw (ps : List Pt) : (gateL ps).Pairwise (· < ·) := by
  unfold gateL
  rw [List.pairwise_filterMap]
  have h : ps.zipIdx.Pairwise (fun a b => a.2 < b.2) := by
    have : (ps.zipIdx.map Prod.snd).Pairwise (· < ·) := by
      rw [List.zipIdx_map_snd]
      exact List.pairwise_lt_range'
    exact List.pairwise_map.mp this
  refine h.imp fun {a b} hab => ?_
  intro x hx y hy
  split at hx <;> cases hx
  split at hy <;> cases hy
  omega
theorem rw_sub {β : Type} : ∀ {as : List β} {os : List (Option β)}, Rw (fun i o => o = none ∨ o = some i) as os → (os.filterMap id).Sublist as
  | _, _, .nil => .slnil
  | _, _, .cons h t => by
    rcases h with rfl | rfl
    · have ih := rw_sub t
      exact List.Sublist.cons _ ih
    · have ih := rw_sub t
      exact List.Sublist.cons_cons _ ih
theorem gate_list (k : Nat) (N : Nt) (hN : N.ok) (E : En) (s0 s2 s3 s4 s5 : Option Sv) (hE : E = [s0, some (.d N.d), s2, s3, s4, s5, none, none, none]) : ev (cf k) (.comp (.var 7) (.tup [(.name 7), (.name 8)]) (.enum (.ix (.var 1) (.con (.int 1)))) [(.or (.leaf (.ix (.var 8) (.con (.int 5)))) (.leaf (.cmp .gt (.ix (.var 8) (.con (.int 4))) (.con (.int 0)))))] [7, 8]) E = some (.list ((gateL N.ps).map .int), E) := by
  have p9 := hN.p9
  have G := ev_compP (c := cf k) (e := .var 7) (tg := .tup [(.name 7), (.name 8)]) (it := .enum (.ix (.var 1) (.con (.int 1)))) (cs := [(.or (.leaf (.ix (.var 8) (.con (.int 5)))) (.leaf (.cmp .gt (.ix (.var 8) (.con (.int 4))) (.con (.int 0)))))]) (own := [7, 8]) (ρ := E) (ρ1 := E) (d := fun q : Pt × Nat => .tuple [.int q.2, q.1.d]) (as := N.ps.zipIdx) (fun q => if q.1.g || decide (0 < q.1.l) then some (.int q.2) else none) (by simp [hE, notOwn]) (by rw [hE]; exact evI_enumT (ev_ix (ρ1 := [s0, some (.d N.d), s2, s3, s4, s5, none, none, none]) (x := N.d) (y := .int 1) rfl rfl rfl)) (by simp [hE, notOwn]) (by simp; omega) (fun q hq => by
    obtain ⟨⟨a, b, f, on, l, g, v⟩, i⟩ := q
    cases g <;> by_cases h0 : 0 < l <;> simp [hE, stepC, runF, endF, penOf, startE, exs, ex, ev, evs, evO, evT, evTs, evI, bnd, ret, setAll, b1D, b2D, truD, isi, ixD, seqD, cmp_eq, cmp_ne, cmp_lt, cmp_le, cmp_gt, cmp_ge, eqD_ii, eqD_ss, bin_add, bin_sub, sizeLine, at0, at1, at2, at3, at4, at5, at6, bindT, bindTs, wipeE, backE, Pt.d, h0])
  have G' : N.ps.zipIdx.filterMap (fun q => if q.1.g || decide (0 < q.1.l) then some (PyData.int q.2) else none) = (gateL N.ps).map .int := by
    unfold gateL
    rw [List.map_filterMap]
    refine fm_congr fun q _ => ?_
    split <;> rfl
  rw [G'] at G
  exact G
/-- what is drawn of a case -/
structure CsOk (N : Nt) (as ls : List Rat) (sh : List Int) : Prop where
  ra : Rw (fun (j : Jt) a => Amq 50 a ∧ (j.isP = false → a = 0)) N.js as
  rl : Rw (fun t l => Amq t l) N.tops ls
  gt : ∀ i ∈ sh, gateB N.ps i = true
  pw : sh.Pairwise (· < ·)
  sl : sh.length ≤ 9
abbrev caseD (as ls : List Rat) (sh : List Int) : PyData := .tuple [.tuple (as.map frq), .tuple (ls.map frq), .tuple (sh.map .int)]
theorem c_gcase (k : Nat) (p0 p1 p2 : Int) (h0 : 0 ≤ p0) (N : Nt) (hN : N.ok) : ∃ (as ls : List Rat) (sh : List Int) (q0 q2 : Int), CsOk N as ls sh ∧ 0 ≤ q0 ∧ CI (k + 3) "_law_case" (some (pen p0 p1 p2)) [N.d] = some (caseD as ls sh, some (pen q0 p1 q2)) := by
  have j7 := hN.j7
  have p9 := hN.p9
  obtain ⟨as, ls, a0, a2, t4, t5, ra, rl, ha, h4, h5, eL⟩ := pc_loop k p1 N.d N.js p0 p2 [] [] none none h0 hN.js (by simp; omega) (by simp; omega) (.inl rfl) (.inl rfl)
  rw [List.nil_append, List.nil_append] at eL
  have gl : (gateL N.ps).length ≤ 9 := by
    have : (gateL N.ps).length ≤ N.ps.zipIdx.length := List.length_filterMap_le _ _
    simp at this
    omega
  obtain ⟨A, hA⟩ : ∃ A, A = some (Sv.d (.list (as.map frq))) := ⟨_, rfl⟩
  obtain ⟨B, hB⟩ : ∃ A, A = some (Sv.d (.list (ls.map frq))) := ⟨_, rfl⟩
  obtain ⟨os, ρ1, eb, rb, q0, q2, hq, rfl⟩ := ev_compT (c := cf (k + 2)) (α := Int) (β := Int) (d := .int) (eb := .int) (e := .var 7) (tg := .name 7) (it := .seq (.var 6)) (cs := [(.leaf (.cmp .eq (.callp "_law_draw" 0 [(.con (.int 4))]) (.con (.int 0))))]) (own := [7]) (ρ := [some (Sv.own true (pen a0 p1 a2)), some (.d N.d), A, B, t4, t5, some (.d (.list ((gateL N.ps).map .int))), none, none]) (ρ1 := [some (Sv.own true (pen a0 p1 a2)), some (.d N.d), A, B, t4, t5, some (.d (.list ((gateL N.ps).map .int))), none, none]) (as := gateL N.ps) (fun ρ => ∃ q0 q2, 0 ≤ q0 ∧ ρ = [some (Sv.own true (pen q0 p1 q2)), some (.d N.d), A, B, t4, t5, some (.d (.list ((gateL N.ps).map .int))), none, none]) (fun i o => o = none ∨ o = some i) (by simp [notOwn]) (evI_seqL rfl) (by simp [notOwn]) (by omega) ⟨a0, a2, ha, rfl⟩ (fun i hi ρ2 => by
    rintro ⟨q0, q2, hq, rfl⟩
    obtain ⟨r, b0, b2, r0, r1, hb, t⟩ := c_draw k q0 p1 q2 4 hq (by decide) (by decide)
    by_cases h0 : r = 0
    · subst h0
      exact ⟨some i, [some (Sv.own true (pen b0 p1 b2)), some (.d N.d), A, B, t4, t5, some (.d (.list ((gateL N.ps).map .int))), none, none], by simp [stepC, runF, endF, penOf, startE, exs, ex, ev, evs, evO, evT, evTs, evI, bnd, ret, setAll, b1D, b2D, truD, isi, ixD, seqD, cmp_eq, cmp_ne, cmp_lt, cmp_le, cmp_gt, cmp_ge, eqD_ii, eqD_ss, bin_add, bin_sub, sizeLine, at0, at1, at2, at3, at4, at5, at6, bindT, wipeE, backE, t], .inr rfl, b0, b2, hb, rfl⟩
    · exact ⟨none, [some (Sv.own true (pen b0 p1 b2)), some (.d N.d), A, B, t4, t5, some (.d (.list ((gateL N.ps).map .int))), none, none], by simp [stepC, runF, endF, penOf, startE, exs, ex, ev, evs, evO, evT, evTs, evI, bnd, ret, setAll, b1D, b2D, truD, isi, ixD, seqD, cmp_eq, cmp_ne, cmp_lt, cmp_le, cmp_gt, cmp_ge, eqD_ii, eqD_ss, bin_add, bin_sub, sizeLine, at0, at1, at2, at3, at4, at5, at6, bindT, wipeE, backE, t, h0], .inl rfl, b0, b2, hb, rfl⟩)
  have sub := rw_sub rb
  refine ⟨as, ls, os.filterMap id, q0, q2, ⟨ra, rl, fun i hi => (gateL_mem N.ps i).mp (sub.subset hi), (gateL_pw N.ps).sublist sub, Nat.le_trans sub.length_le gl⟩, hq, ?_⟩
  rw [u_law_case]
  refine run_pen (ρ := [some (Sv.own true (pen q0 p1 q2)), some (.d N.d), A, B, t4, t5, some (.d (.list ((gateL N.ps).map .int))), none, none]) rfl rfl ?_ rfl
  show exs (cf (k + 2)) (.paro [2, 3] [true, true] [(.lst []), (.lst [])] :: .for_ (.name 4) (.seq (.ix (.var 1) (.con (.int 0)))) pcB :: .set 6 _ :: _) [some (.own true (pen p0 p1 p2)), some (.d N.d), none, none, none, none, none, none, none] = _
  refine exs_next (ρ' := PE (pen p0 p1 p2) N.d [] [] none none) (by simp [runF, endF, penOf, startE, exs, ex, ev, evs, evO, evT, evTs, evI, bnd, ret, setAll, b1D, b2D, truD, isi, ixD, seqD, cmp_eq, cmp_ne, cmp_lt, cmp_le, cmp_gt, cmp_ge, eqD_ii, eqD_ss, bin_add, bin_sub, sizeLine, at0, at1, at2, at3, at4, at5, at6, setAllO]) (exs_next (ex_for (evI_seqT (xs := N.js.map Jt.d) (ev_ix (ρ1 := PE (pen p0 p1 p2) N.d [] [] none none) (x := N.d) (y := .int 0) rfl rfl rfl)) eL) ?_)
  have G := gate_list (k + 2) N hN (PE (pen a0 p1 a2) N.d as ls t4 t5) _ _ _ _ _ rfl
  refine exs_next (ρ' := [some (Sv.own true (pen a0 p1 a2)), some (.d N.d), some (.own false (as.map frq)), some (.own false (ls.map frq)), t4, t5, some (.d (.list ((gateL N.ps).map .int))), none, none]) (ex_set G (by simp)) (exs_ret ?_)
  have e1 : ev (cf (k + 2)) (.b1 .tuple (.var 2)) [some (Sv.own true (pen a0 p1 a2)), some (.d N.d), some (.own false (as.map frq)), some (.own false (ls.map frq)), t4, t5, some (.d (.list ((gateL N.ps).map .int))), none, none] = some (.tuple (as.map frq), [some (Sv.own true (pen a0 p1 a2)), some (.d N.d), A, some (.own false (ls.map frq)), t4, t5, some (.d (.list ((gateL N.ps).map .int))), none, none]) := by
    rw [hA]
    simp [runF, endF, penOf, startE, exs, ex, ev, evs, evO, evT, evTs, evI, bnd, ret, setAll, b1D, b2D, truD, isi, ixD, seqD, cmp_eq, cmp_ne, cmp_lt, cmp_le, cmp_gt, cmp_ge, eqD_ii, eqD_ss, bin_add, bin_sub, sizeLine, at0, at1, at2, at3, at4, at5, at6]
  have e2 : ev (cf (k + 2)) (.b1 .tuple (.var 3)) [some (Sv.own true (pen a0 p1 a2)), some (.d N.d), A, some (.own false (ls.map frq)), t4, t5, some (.d (.list ((gateL N.ps).map .int))), none, none] = some (.tuple (ls.map frq), [some (Sv.own true (pen a0 p1 a2)), some (.d N.d), A, B, t4, t5, some (.d (.list ((gateL N.ps).map .int))), none, none]) := by
    rw [hB]
    simp [runF, endF, penOf, startE, exs, ex, ev, evs, evO, evT, evTs, evI, bnd, ret, setAll, b1D, b2D, truD, isi, ixD, seqD, cmp_eq, cmp_ne, cmp_lt, cmp_le, cmp_gt, cmp_ge, eqD_ii, eqD_ss, bin_add, bin_sub, sizeLine, at0, at1, at2, at3, at4, at5, at6]
  have e3 := ev_b1 (o := .tuple) eb (y := .tuple ((os.filterMap id).map .int)) rfl
  show bnd (evs (cf (k + 2)) [_, _, _] _) _ = _
  simp only [evs, e1, e2, e3, bnd_some]

theorem odd_fine : oddL.all (fun x => fine x && reprOk x) = true := by decide +kernel
/-! ### data that is no more than so great -/
def flatOk : PyData → Bool
  | .int i => decide (i.natAbs < 10 ^ 19)
  | _ => false
/-- tuples, of at most so many parts, level by level -/
def Pu : List Nat → PyData → Prop
  | [], x => flatOk x = true
  | w :: ws, x => flatOk x = true ∨ ∃ xs, x = .tuple xs ∧ xs.length ≤ w ∧ ∀ y ∈ xs, Pu ws y
theorem flat_fine {x : PyData} (h : flatOk x = true) : fine x = true := by
  cases x <;> simp [flatOk] at h <;> simp [fine]
  omega
theorem pu_fine : ∀ (ws : List Nat) {x : PyData}, (∀ w ∈ ws, w ≤ 50) → Pu ws x → fine x = true
  | [], x, _, h => flat_fine h
  | w :: ws, x, hw, h => by
    rcases h with h | ⟨xs, rfl, hl, hx⟩
    · exact flat_fine h
    · have := hw w (.head _)
      simp only [fine, Bool.and_eq_true, decide_eq_true_eq]
      exact ⟨by omega, fineA_iff.mpr fun y hy => pu_fine ws (fun v hv => hw v (.tail _ hv)) (hx y hy)⟩
def W : List Nat → Nat
  | [] => 3000
  | w :: ws => 3000 + w * (W ws + 2)
theorem pu_flat {x : PyData} (h : flatOk x = true) : Ok x 0 3000 ∧ x.hasDict = false := by
  cases x <;> simp [flatOk] at h
  exact ⟨((ok_i (by omega)).1).mono (Nat.le_refl _) (by decide), by simp [PyData.hasDict]⟩
theorem W_pos : ∀ ws, 3000 ≤ W ws
  | [] => by simp [W]
  | w :: ws => by simp only [W]; omega
theorem pu_ok : ∀ (ws : List Nat) {x : PyData}, Pu ws x → Ok x ws.length (W ws) ∧ x.hasDict = false
  | [], x, h => pu_flat h
  | w :: ws, x, h => by
    rcases h with h | ⟨xs, rfl, hl, hx⟩
    · have := pu_flat h
      exact ⟨this.1.mono (by omega) (W_pos _), this.2⟩
    · obtain ⟨a, b⟩ := ok_tup (okA_all fun y hy => pu_ok ws (hx y hy))
      refine ⟨a.mono (Nat.le_refl _) ?_, b⟩
      have : xs.length * (W ws + 2) ≤ w * (W ws + 2) := Nat.mul_le_mul_right _ hl
      simp only [W]
      omega
theorem noLA_all : ∀ {xs : List PyData}, (∀ x ∈ xs, noL x = true) → noLA xs = true
  | [], _ => by simp [noLA]
  | x :: xs, h => by simp [noLA, h x (.head _), noLA_all fun y hy => h y (.tail _ hy)]
theorem flat_noL {x : PyData} (h : flatOk x = true) : noL x = true := by
  cases x <;> simp [flatOk] at h <;> simp [noL]
theorem pu_noL : ∀ (ws : List Nat) {x : PyData}, Pu ws x → noL x = true
  | [], x, h => flat_noL h
  | w :: ws, x, h => by
    rcases h with h | ⟨xs, rfl, hl, hx⟩
    · exact flat_noL h
    · simp only [noL]
      exact noLA_all fun y hy => pu_noL ws (hx y hy)
/-- data with one thing otherwise -/
def Cb : List Nat → Nat
  | [] => 30000
  | w :: ws => 6000 + (w + 1) * (W ws + 2) + Cb ws
def Be (ws : List Nat) (y : PyData) : Prop := fine y = true ∧ Ok y (ws.length + 2) (Cb ws)
theorem Cb_pos : ∀ ws, 30000 ≤ Cb ws
  | [] => by simp [Cb]
  | w :: ws => by have := Cb_pos ws; simp only [Cb]; omega
theorem be_odd : ∀ x ∈ oddL, ∀ ws, Be ws x := by
  intro x hx ws
  have h : oddL.all (fun d => small d && decide (d.depth ≤ 2) && decide (wt d ≤ 30000) && (!d.hasDict || noL d)) = true := by decide +kernel
  have h1 := List.all_eq_true.mp h x hx
  have h2 := List.all_eq_true.mp odd_fine x hx
  simp only [Bool.and_eq_true, decide_eq_true_eq, Bool.or_eq_true, Bool.not_eq_true'] at h1 h2
  exact ⟨h2.1, h1.1.1.1, Nat.le_trans h1.1.1.2 (by omega), Nat.le_trans h1.1.2 (Cb_pos ws), h1.2⟩
theorem be_flat {x : PyData} (h : flatOk x = true) (ws : List Nat) : Be ws x := ⟨flat_fine h, (pu_flat h).1.mono (by omega) (by have := Cb_pos ws; omega)⟩
theorem be_int {i : Int} (h : i.natAbs < 10 ^ 20) (ws : List Nat) : Be ws (.int i) := by
  have m : (10 : Nat) ^ 20 < 2 ^ 1900 := by decide
  refine ⟨by simpa [fine] using h, ⟨by simp [small]; omega, by simp [PyData.depth], ?_, .inl (by simp [PyData.hasDict])⟩⟩
  have := Cb_pos ws
  simp only [wt]
  omega
theorem be_bool (b : Bool) (ws : List Nat) : Be ws (.bool b) := by
  refine ⟨by simp [fine], ⟨by simp [small], by simp [PyData.depth], ?_, .inl (by simp [PyData.hasDict])⟩⟩
  have := Cb_pos ws
  simp only [wt]
  omega
theorem smallA_app : ∀ (xs ys : List PyData), smallA (xs ++ ys) = (smallA xs && smallA ys)
  | [], ys => by simp [smallA]
  | x :: xs, ys => by simp [smallA, smallA_app xs ys, Bool.and_assoc]
theorem wtA_app : ∀ (xs ys : List PyData), wtA (xs ++ ys) = wtA xs + wtA ys
  | [], ys => by simp [wtA]
  | x :: xs, ys => by simp only [List.cons_append, wtA, wtA_app xs ys]; omega
theorem dpA_app : ∀ (xs ys : List PyData), PyData.depthAll (xs ++ ys) = max (PyData.depthAll xs) (PyData.depthAll ys)
  | [], ys => by simp [PyData.depthAll]
  | x :: xs, ys => by simp only [List.cons_append, PyData.depthAll, dpA_app xs ys]; omega
theorem hdA_app : ∀ (xs ys : List PyData), PyData.hasDictAll (xs ++ ys) = (PyData.hasDictAll xs || PyData.hasDictAll ys)
  | [], ys => by simp [PyData.hasDictAll]
  | x :: xs, ys => by simp [PyData.hasDictAll, hdA_app xs ys, Bool.or_assoc]
theorem nlA_app : ∀ (xs ys : List PyData), noLA (xs ++ ys) = (noLA xs && noLA ys)
  | [], ys => by simp [noLA]
  | x :: xs, ys => by simp [noLA, nlA_app xs ys, Bool.and_assoc]
theorem fnA_app : ∀ (xs ys : List PyData), fineA (xs ++ ys) = (fineA xs && fineA ys)
  | [], ys => by simp [fineA]
  | x :: xs, ys => by simp [fineA, fnA_app xs ys, Bool.and_assoc]
/-- a tuple of so much and one thing otherwise -/
theorem be_mid {w : Nat} {ws : List Nat} {xs ys : List PyData} {y : PyData} (hw : ∀ v ∈ w :: ws, v ≤ 50) (hx : ∀ z ∈ xs, Pu ws z) (hy : ∀ z ∈ ys, Pu ws z) (h : Be ws y) (hl : xs.length + ys.length ≤ w) : Be (w :: ws) (.tuple (xs ++ [y] ++ ys)) := by
  have a := okA_all (n := ws.length) (w := W ws) fun z hz => pu_ok ws (hx z hz)
  have b := okA_all (n := ws.length) (w := W ws) fun z hz => pu_ok ws (hy z hz)
  have a5 : noLA xs = true := noLA_all fun z hz => pu_noL ws (hx z hz)
  have b5 : noLA ys = true := noLA_all fun z hz => pu_noL ws (hy z hz)
  have a6 : fineA xs = true := fineA_iff.mpr fun z hz => pu_fine ws (fun v hv => hw v (.tail _ hv)) (hx z hz)
  have b6 : fineA ys = true := fineA_iff.mpr fun z hz => pu_fine ws (fun v hv => hw v (.tail _ hv)) (hy z hz)
  obtain ⟨h0, h⟩ := h
  have d1 := h.depth
  have d2 := h.wt
  have d3 := a.depth
  have d4 := b.depth
  have d5 := a.wt
  have d6 := b.wt
  have hw0 := hw w (.head _)
  refine ⟨?_, ?_, ?_, ?_, ?_⟩
  · simp only [fine, fnA_app, fineA, a6, b6, h0, Bool.and_true, decide_eq_true_eq, List.length_append, List.length_cons, List.length_nil]
    omega
  · simp [Wh.small, smallA_app, a.small, b.small, smallA, h.small]
  · simp only [PyData.depth, dpA_app, PyData.depthAll, List.length_cons]
    omega
  · simp only [Wh.wt, wtA_app, wtA]
    have : xs.length * (W ws + 2) + ys.length * (W ws + 2) ≤ w * (W ws + 2) := by
      rw [← Nat.add_mul]
      exact Nat.mul_le_mul_right _ hl
    have e : (w + 1) * (W ws + 2) = w * (W ws + 2) + (W ws + 2) := Nat.succ_mul _ _
    simp only [Cb]
    omega
  · rcases h.mix with q | q
    · exact .inl (by simp [PyData.hasDict, hdA_app, a.mix, b.mix, PyData.hasDictAll, q])
    · exact .inr (by simp [noL, nlA_app, a5, b5, noLA, q])
theorem be_all {w : Nat} {ws : List Nat} {xs : List PyData} (hw : ∀ v ∈ w :: ws, v ≤ 50) (hx : ∀ z ∈ xs, Pu ws z) (hl : xs.length ≤ w + 1) : Be (w :: ws) (.tuple xs) ∧ Be (w :: ws) (.list xs) := by
  have a := okA_all (n := ws.length) (w := W ws) fun z hz => pu_ok ws (hx z hz)
  have a6 : fineA xs = true := fineA_iff.mpr fun z hz => pu_fine ws (fun v hv => hw v (.tail _ hv)) (hx z hz)
  have : xs.length * (W ws + 2) ≤ (w + 1) * (W ws + 2) := Nat.mul_le_mul_right _ hl
  have hw0 := hw w (.head _)
  have f : fine (.tuple xs) = true ∧ fine (.list xs) = true := by
    simp only [fine, a6, Bool.and_true, decide_eq_true_eq]
    omega
  have c := Cb_pos ws
  exact ⟨⟨f.1, (ok_tup a).1.mono (by simp only [List.length_cons]; omega) (by simp only [Cb]; omega)⟩, ⟨f.2, (ok_lst a).1.mono (by simp only [List.length_cons]; omega) (by simp only [Cb]; omega)⟩⟩
theorem be_pu {ws : List Nat} {x : PyData} (hw : ∀ v ∈ ws, v ≤ 50) (h : Pu ws x) : Be ws x := by
  refine ⟨pu_fine ws hw h, (pu_ok ws h).1.mono (by omega) ?_⟩
  cases ws with
  | nil => simp [W, Cb]
  | cons w ws =>
    have : w * (W ws + 2) ≤ (w + 1) * (W ws + 2) := Nat.mul_le_mul_right _ (by omega)
    simp only [W, Cb]
    omega
/-! ### how great what is drawn is -/
theorem pu_of {x : PyData} (h : flatOk x = true) : ∀ ws, Pu ws x
  | [] => h
  | _ :: _ => .inl h
theorem flat_i {i : Int} (h : i.natAbs < 10 ^ 19) : flatOk (.int i) = true := by simpa [flatOk] using h
theorem pu_pair {x y : PyData} (hx : flatOk x = true) (hy : flatOk y = true) (ws : List Nat) : Pu (2 :: ws) (.tuple [x, y]) := .inr ⟨[x, y], rfl, Nat.le_refl _, fun z hz => by
  simp only [List.mem_cons, List.not_mem_nil, or_false] at hz
  rcases hz with rfl | rfl
  · exact pu_of hx ws
  · exact pu_of hy ws⟩
theorem pu_frq {m : Int} {q : Rat} (h : Amq m q) (hm : m ≤ 1000) (ws : List Nat) : Pu (2 :: ws) (frq q) := by
  have s := h.sz hm
  have e : (2 : Nat) ^ 20 < 10 ^ 19 := by decide
  have s1 := s.1
  have s2 := s.2
  unfold szI at s1 s2
  exact pu_pair (flat_i (by omega)) (flat_i (by omega)) ws
theorem pu_ask {N : Nt} (hN : N.ok) {as : List Rat} (h : Rw (fun (j : Jt) a => Amq 50 a ∧ (j.isP = false → a = 0)) N.js as) : Pu [20, 2] (.tuple (as.map frq)) := .inr ⟨_, rfl, (by
  have := h.len
  have := hN.j7
  rw [List.length_map]
  omega), fun z hz => by
  obtain ⟨a, ha, rfl⟩ := List.mem_map.mp hz
  obtain ⟨_, _, r⟩ := h.right a ha
  exact pu_frq r.1 (by decide) []⟩
theorem gate_lt {ps : List Pt} {i : Int} (h : gateB ps i = true) : 0 ≤ i ∧ i < ps.length := by
  unfold gateB at h
  simp only [Bool.and_eq_true, decide_eq_true_eq] at h
  obtain ⟨h0, h⟩ := h
  refine ⟨h0, ?_⟩
  cases e : ps[i.toNat]? with
  | none =>
    rw [e] at h
    cases h
  | some p =>
    have := (List.getElem?_eq_some_iff.mp e).1
    omega
theorem pu_ints {is : List Int} {w : Nat} (h : ∀ i ∈ is, i.natAbs < 10 ^ 19) (hl : is.length ≤ w) (ws : List Nat) : Pu (w :: ws) (.tuple (is.map .int)) := .inr ⟨_, rfl, (by rw [List.length_map]; exact hl), fun z hz => by
  obtain ⟨i, hi, rfl⟩ := List.mem_map.mp hz
  exact pu_of (flat_i (h i hi)) ws⟩
theorem gate_small {N : Nt} (hN : N.ok) {sh : List Int} (h : ∀ i ∈ sh, gateB N.ps i = true) : ∀ i ∈ sh, i.natAbs < 10 ^ 19 := fun i hi => by
  have := gate_lt (h i hi)
  have := hN.p9
  have e : (9 : Nat) < 10 ^ 19 := by decide
  omega
/-- cuts -/
theorem cut_hi (xs : List PyData) (a : Nat) (h : a ≤ xs.length) : cutD xs none (some (a : Int)) = xs.take a := by
  simp only [cutD, HT.sIx_nat, HT.sIx_none, Nat.min_eq_left h, Nat.sub_zero, List.drop_zero]
theorem cut_lo (xs : List PyData) (a : Nat) (h : a + 1 ≤ xs.length) : cutD xs (some ((a : Int) + 1)) none = xs.drop (a + 1) := by
  have e : ((a : Int) + 1) = ((a + 1 : Nat) : Int) := by omega
  rw [e]
  simp only [cutD, HT.sIx_nat, HT.sIx_none, Nat.min_eq_left h]
  rw [List.take_of_length_le (by simp)]
theorem cut_mid (xs : List PyData) (a : Nat) (h : a + 1 ≤ xs.length) : cutD xs (some (a : Int)) (some ((a : Int) + 1)) = (xs.drop a).take 1 := by
  have e : ((a : Int) + 1) = ((a + 1 : Nat) : Int) := by omega
  rw [e]
  simp only [cutD, HT.sIx_nat, Nat.min_eq_left h, Nat.min_eq_left (Nat.le_of_succ_le h)]
  rw [Nat.add_sub_cancel_left]
def nearS : List Sm := [(.set 3 (.ite (.and (.leaf (.b1 (.isi .int) (.var 1))) (.not (.leaf (.b1 (.isi .bool) (.var 1))))) (.lst [(.bin .add (.var 1) (.con (.int 1))), (.bin .sub (.var 1) (.con (.int 1))), (.cmp .eq (.var 1) (.con (.int 1)))]) (.lst []))),
    (.ret (.ix (.bin .add (.var 3) (.repl [(.callp "_law_odd" 0 [])] (.con (.int 2)))) (.callp "_law_draw" 0 [(.bin .add (.con (.int 2)) (.b1 .len (.var 3)))])))]
def nearV : PyData → List PyData
  | .int i => [.int (i + 1), .int (i - 1), .bool (decide (i = 1))]
  | _ => []
theorem near_ok {x : PyData} (hx : ∀ i, x = .int i → i.natAbs < 10 ^ 19) (ws : List Nat) : ∀ y ∈ nearV x, Be ws y := by
  intro y hy
  cases x <;> simp only [nearV, List.not_mem_nil, List.mem_cons, or_false] at hy
  rename_i i
  have h := hx i rfl
  rcases hy with rfl | rfl | rfl
  · exact be_int (by omega) ws
  · exact be_int (by omega) ws
  · exact be_bool _ ws
theorem bent_near (k : Nat) (p0 p1 p2 : Int) (h0 : 0 ≤ p0) (x : PyData) (s2 : Option Sv) (hx : ∀ i, x = .int i → i.natAbs < 10 ^ 19) (ws : List Nat) : ∃ (y : PyData) (q0 q2 : Int) (s3 : Option Sv), Be ws y ∧ 0 ≤ q0 ∧
    exs (cf (k + 3)) nearS [some (.own true (pen p0 p1 p2)), some (.d x), s2, none, none] = some (.ret y, [some (.own true (pen q0 p1 q2)), some (.d x), s2, s3, none]) := by
  obtain ⟨o, a0, a2, ho, ha, ea⟩ := c_odd k p0 p1 p2 h0
  obtain ⟨r, b0, b2, r0, r1, hb, eb⟩ := c_draw (k + 1) a0 p1 a2 (2 + (nearV x).length) ha (by omega) (by cases x <;> simp [nearV])
  obtain ⟨m, rfl⟩ := Int.eq_ofNat_of_zero_le r0
  have hm : m < (nearV x ++ [o, o]).length := by simp; omega
  have e2 : atI (nearV x ++ [o, o]) (m : Int) = some (nearV x ++ [o, o])[m] := atI_nat (List.getElem?_eq_getElem hm)
  refine ⟨(nearV x ++ [o, o])[m], b0, b2, some (.d (.list (nearV x))), ?_, hb, ?_⟩
  · have := List.getElem_mem hm
    rcases List.mem_append.mp this with h | h
    · exact near_ok hx ws _ h
    · simp only [List.mem_cons, List.not_mem_nil, or_false, or_self] at h
      rw [h]
      exact be_odd o ho ws
  · have E1 : ex (cf (k + 3)) (.set 3 (.ite (.and (.leaf (.b1 (.isi .int) (.var 1))) (.not (.leaf (.b1 (.isi .bool) (.var 1))))) (.lst [(.bin .add (.var 1) (.con (.int 1))), (.bin .sub (.var 1) (.con (.int 1))), (.cmp .eq (.var 1) (.con (.int 1)))]) (.lst []))) [some (.own true (pen p0 p1 p2)), some (.d x), s2, none, none] = some (.next, [some (.own true (pen p0 p1 p2)), some (.d x), s2, some (.d (.list (nearV x))), none]) := by
      cases x <;> simp [runF, endF, penOf, startE, exs, ex, ev, evs, evO, evT, evTs, evI, bnd, ret, setAll, b1D, b2D, truD, isi, ixD, seqD, cmp_eq, cmp_ne, cmp_lt, cmp_le, cmp_gt, cmp_ge, eqD_ii, eqD_ss, bin_add, bin_sub, sizeLine, at0, at1, at2, at3, at4, at5, at6, nearV]
    refine exs_next E1 ?_
    have hl : (nearV x).length + [o, o].length ≤ sizeLine := by cases x <;> simp [nearV, sizeLine]
    have hb' : binD .add (.list (nearV x)) (.list [o, o]) = some (.list (nearV x ++ [o, o])) := by simp only [binD, if_pos hl]
    generalize nearV x = nl at *
    have hl' : nl.length + 2 ≤ 16777216 := hl
    simp [runF, endF, penOf, startE, exs, ex, ev, evs, evO, evT, evTs, evI, bnd, ret, setAll, b1D, b2D, truD, isi, ixD, seqD, cmp_eq, cmp_ne, cmp_lt, cmp_le, cmp_gt, cmp_ge, eqD_ii, eqD_ss, bin_add, bin_sub, sizeLine, at0, at1, at2, at3, at4, at5, at6, ea, eb, hb', e2]
def bentT : List Sm := [(.set 4 (.callp "_law_draw" 0 [(.b1 .len (.var 1))])),
    (.ite (.leaf (.cmp .lt (.var 2) (.con (.int 5)))) [(.ret (.bin .add (.bin .add (.sl (.var 1) none (some (.var 4))) (.tup [(.callp "_law_bent" 0 [(.ix (.var 1) (.var 4))])])) (.sl (.var 1) (some (.bin .add (.var 4) (.con (.int 1)))) none)))] []),
    (.ret (.ix (.lst [(.bin .add (.sl (.var 1) none (some (.var 4))) (.sl (.var 1) (some (.bin .add (.var 4) (.con (.int 1)))) none)), (.b1 .list (.var 1)), (.bin .add (.var 1) (.sl (.var 1) (some (.var 4)) (some (.bin .add (.var 4) (.con (.int 1))))))]) (.bin .sub (.var 2) (.con (.int 5)))))]
theorem c_bent : ∀ (ws : List Nat), (∀ w ∈ ws, w ≤ 50) → ∀ (k : Nat) (p0 p1 p2 : Int) (x : PyData), 0 ≤ p0 → Pu ws x → ∃ (y : PyData) (q0 q2 : Int), Be ws y ∧ 0 ≤ q0 ∧ CI (k + ws.length + 5) "_law_bent" (some (pen p0 p1 p2)) [x] = some (y, some (pen q0 p1 q2)) := by
  intro ws
  induction ws with
  | nil =>
    intro hw k p0 p1 p2 x h0 hx
    obtain ⟨r, a0, a2, r0, r1, ha, ea⟩ := c_draw (k + 2) p0 p1 p2 8 h0 (by decide) (by decide)
    obtain ⟨y, q0, q2, s3, hy, hq, e⟩ := bent_near (k + 1) a0 p1 a2 ha x (some (.d (.int r))) (fun i e => by subst e; simpa [Pu, flatOk] using hx) []
    refine ⟨y, q0, q2, hy, hq, ?_⟩
    show CI (k + 4 + 1) _ _ _ = _
    rw [u_law_bent]
    have E : exs (cf (k + 4)) b_law_bent [some (.own true (pen p0 p1 p2)), some (.d x), none, none, none] = some (.ret y, [some (.own true (pen q0 p1 q2)), some (.d x), some (.d (.int r)), s3, none]) := by
      refine exs_next (ρ' := [some (.own true (pen a0 p1 a2)), some (.d x), some (.d (.int r)), none, none]) (by simp [runF, endF, penOf, startE, exs, ex, ev, evs, evO, evT, evTs, evI, bnd, ret, setAll, b1D, b2D, truD, isi, ixD, seqD, cmp_eq, cmp_ne, cmp_lt, cmp_le, cmp_gt, cmp_ge, eqD_ii, eqD_ss, bin_add, bin_sub, sizeLine, at0, at1, at2, at3, at4, at5, at6, ea]) ?_
      show exs (cf (k + 4)) (.ite (.or (.not (.leaf (.b1 (.isi .tuple) (.var 1)))) _) nearS [] :: bentT) _ = _
      have T : evT (cf (k + 4)) (.or (.not (.leaf (.b1 (.isi .tuple) (.var 1)))) (.or (.leaf (.cmp .eq (.var 1) (.tup []))) (.leaf (.cmp .eq (.var 2) (.con (.int 0)))))) [some (.own true (pen a0 p1 a2)), some (.d x), some (.d (.int r)), none, none] = some (true, [some (.own true (pen a0 p1 a2)), some (.d x), some (.d (.int r)), none, none]) := by
        cases x <;> simp [Pu, flatOk] at hx <;> simp [runF, endF, penOf, startE, exs, ex, ev, evs, evO, evT, evTs, evI, bnd, ret, setAll, b1D, b2D, truD, isi, ixD, seqD, cmp_eq, cmp_ne, cmp_lt, cmp_le, cmp_gt, cmp_ge, eqD_ii, eqD_ss, bin_add, bin_sub, sizeLine, at0, at1, at2, at3, at4, at5, at6]
      show bnd (ex (cf (k + 4)) (.ite _ nearS []) _) _ = _
      rw [ex_ite T, if_pos rfl, e]
      rfl
    have E' : exs (cf (k + 4)) f_law_bent.body (startE f_law_bent (some (pen p0 p1 p2)) [x]) = _ := E
    unfold runF
    rw [if_pos (by rfl), E']
    rfl
  | cons w ws ih =>
    intro hw k p0 p1 p2 x h0 hx
    obtain ⟨r, a0, a2, r0, r1, ha, ea⟩ := c_draw (k + ws.length + 3) p0 p1 p2 8 h0 (by decide) (by decide)
    have fin : ∀ {y : PyData} {q0 q2 : Int} {s3 s4 : Option Sv}, exs (cf (k + ws.length + 5)) (b_law_bent.drop 1) [some (.own true (pen a0 p1 a2)), some (.d x), some (.d (.int r)), none, none] = some (.ret y, [some (.own true (pen q0 p1 q2)), some (.d x), some (.d (.int r)), s3, s4]) → CI (k + (w :: ws).length + 5) "_law_bent" (some (pen p0 p1 p2)) [x] = some (y, some (pen q0 p1 q2)) := fun {y q0 q2 s3 s4} e => by
      rw [show k + (w :: ws).length + 5 = k + ws.length + 5 + 1 by rw [List.length_cons]; omega, u_law_bent]
      have E : exs (cf (k + ws.length + 5)) b_law_bent [some (.own true (pen p0 p1 p2)), some (.d x), none, none, none] = some (.ret y, [some (.own true (pen q0 p1 q2)), some (.d x), some (.d (.int r)), s3, s4]) :=
        exs_next (ρ' := [some (.own true (pen a0 p1 a2)), some (.d x), some (.d (.int r)), none, none]) (by simp [runF, endF, penOf, startE, exs, ex, ev, evs, evO, evT, evTs, evI, bnd, ret, setAll, b1D, b2D, truD, isi, ixD, seqD, cmp_eq, cmp_ne, cmp_lt, cmp_le, cmp_gt, cmp_ge, eqD_ii, eqD_ss, bin_add, bin_sub, sizeLine, at0, at1, at2, at3, at4, at5, at6, ea]) e
      have E' : exs (cf (k + ws.length + 5)) f_law_bent.body (startE f_law_bent (some (pen p0 p1 p2)) [x]) = _ := E
      unfold runF
      rw [if_pos (by rfl), E']
      rfl
    have near : evT (cf (k + ws.length + 5)) (.or (.not (.leaf (.b1 (.isi .tuple) (.var 1)))) (.or (.leaf (.cmp .eq (.var 1) (.tup []))) (.leaf (.cmp .eq (.var 2) (.con (.int 0)))))) [some (.own true (pen a0 p1 a2)), some (.d x), some (.d (.int r)), none, none] = some (true, [some (.own true (pen a0 p1 a2)), some (.d x), some (.d (.int r)), none, none]) →
        ∃ (y : PyData) (q0 q2 : Int), Be (w :: ws) y ∧ 0 ≤ q0 ∧ CI (k + (w :: ws).length + 5) "_law_bent" (some (pen p0 p1 p2)) [x] = some (y, some (pen q0 p1 q2)) := fun T => by
      obtain ⟨y, q0, q2, s3, hy, hq, e⟩ := bent_near (k + ws.length + 2) a0 p1 a2 ha x (some (.d (.int r))) (fun i e => by
        subst e
        rcases hx with hx | ⟨xs, hx, _⟩
        · simpa [flatOk] using hx
        · cases hx) (w :: ws)
      refine ⟨y, q0, q2, hy, hq, fin (s3 := s3) (s4 := none) ?_⟩
      show bnd (ex (cf (k + ws.length + 5)) (.ite _ nearS []) _) _ = _
      rw [ex_ite T, if_pos rfl, e]
      rfl
    rcases hx with hx | ⟨xs, rfl, hl, hx⟩
    · exact near (by cases x <;> simp [flatOk] at hx <;> simp [runF, endF, penOf, startE, exs, ex, ev, evs, evO, evT, evTs, evI, bnd, ret, setAll, b1D, b2D, truD, isi, ixD, seqD, cmp_eq, cmp_ne, cmp_lt, cmp_le, cmp_gt, cmp_ge, eqD_ii, eqD_ss, bin_add, bin_sub, sizeLine, at0, at1, at2, at3, at4, at5, at6])
    · cases xs with
      | nil => exact near (by simp [runF, endF, penOf, startE, exs, ex, ev, evs, evO, evT, evTs, evI, bnd, ret, setAll, b1D, b2D, truD, isi, ixD, seqD, cmp_eq, cmp_ne, cmp_lt, cmp_le, cmp_gt, cmp_ge, eqD_ii, eqD_ss, bin_add, bin_sub, sizeLine, at0, at1, at2, at3, at4, at5, at6, eqD])
      | cons z zs =>
        by_cases hr : r = 0
        · subst hr
          exact near (by simp [runF, endF, penOf, startE, exs, ex, ev, evs, evO, evT, evTs, evI, bnd, ret, setAll, b1D, b2D, truD, isi, ixD, seqD, cmp_eq, cmp_ne, cmp_lt, cmp_le, cmp_gt, cmp_ge, eqD_ii, eqD_ss, bin_add, bin_sub, sizeLine, at0, at1, at2, at3, at4, at5, at6, eqD_t0])
        · have T : evT (cf (k + ws.length + 5)) (.or (.not (.leaf (.b1 (.isi .tuple) (.var 1)))) (.or (.leaf (.cmp .eq (.var 1) (.tup []))) (.leaf (.cmp .eq (.var 2) (.con (.int 0)))))) [some (.own true (pen a0 p1 a2)), some (.d (.tuple (z :: zs))), some (.d (.int r)), none, none] = some (false, [some (.own true (pen a0 p1 a2)), some (.d (.tuple (z :: zs))), some (.d (.int r)), none, none]) := by simp [runF, endF, penOf, startE, exs, ex, ev, evs, evO, evT, evTs, evI, bnd, ret, setAll, b1D, b2D, truD, isi, ixD, seqD, cmp_eq, cmp_ne, cmp_lt, cmp_le, cmp_gt, cmp_ge, eqD_ii, eqD_ss, bin_add, bin_sub, sizeLine, at0, at1, at2, at3, at4, at5, at6, eqD_t0, hr]
          have hpos : 0 < (z :: zs).length := by simp
          generalize z :: zs = xs at *
          have hw0 := hw w (.head _)
          obtain ⟨m', b0, b2, m0, m1, hb, eb⟩ := c_draw (k + ws.length + 3) a0 p1 a2 xs.length ha (by omega) (by omega)
          obtain ⟨m, rfl⟩ := Int.eq_ofNat_of_zero_le m0
          have hm : m < xs.length := by omega
          have start : ∀ {y : PyData} {q0 q2 : Int}, exs (cf (k + ws.length + 5)) (bentT.drop 1) [some (.own true (pen b0 p1 b2)), some (.d (.tuple xs)), some (.d (.int r)), none, some (.d (.int m))] = some (.ret y, [some (.own true (pen q0 p1 q2)), some (.d (.tuple xs)), some (.d (.int r)), none, some (.d (.int m))]) → CI (k + (w :: ws).length + 5) "_law_bent" (some (pen p0 p1 p2)) [.tuple xs] = some (y, some (pen q0 p1 q2)) := fun {y q0 q2} e => by
            refine fin (s3 := none) (s4 := some (.d (.int m))) ?_
            show exs (cf (k + ws.length + 5)) (.ite _ nearS [] :: bentT) _ = _
            refine exs_next (ρ' := [some (.own true (pen a0 p1 a2)), some (.d (.tuple xs)), some (.d (.int r)), none, none]) (by rw [ex_ite T]; rfl) (exs_next (ρ' := [some (.own true (pen b0 p1 b2)), some (.d (.tuple xs)), some (.d (.int r)), none, some (.d (.int m))]) (by simp [runF, endF, penOf, startE, exs, ex, ev, evs, evO, evT, evTs, evI, bnd, ret, setAll, b1D, b2D, truD, isi, ixD, seqD, cmp_eq, cmp_ne, cmp_lt, cmp_le, cmp_gt, cmp_ge, eqD_ii, eqD_ss, bin_add, bin_sub, sizeLine, at0, at1, at2, at3, at4, at5, at6, eb]) e)
          have hcut1 : slD (.tuple xs) none (some (m : Int)) = some (.tuple (xs.take m)) := by simp only [slD, cut_hi xs m (by omega)]
          have hcut2 : slD (.tuple xs) (some ((m : Int) + 1)) none = some (.tuple (xs.drop (m + 1))) := by simp only [slD, cut_lo xs m (by omega)]
          have hcut3 : slD (.tuple xs) (some (m : Int)) (some ((m : Int) + 1)) = some (.tuple ((xs.drop m).take 1)) := by simp only [slD, cut_mid xs m (by omega)]
          have tk : ∀ z ∈ xs.take m, Pu ws z := fun z hz => hx z (List.mem_of_mem_take hz)
          have dr : ∀ z ∈ xs.drop (m + 1), Pu ws z := fun z hz => hx z (List.mem_of_mem_drop hz)
          have ltk : (xs.take m).length = m := by rw [List.length_take]; omega
          have ldr : (xs.drop (m + 1)).length = xs.length - (m + 1) := List.length_drop ..
          by_cases h5 : r < 5
          · obtain ⟨y, q0, q2, hy, hq, e⟩ := ih (fun v hv => hw v (.tail _ hv)) k b0 p1 b2 xs[m] hb (hx _ (List.getElem_mem hm))
            have ge : atI xs (m : Int) = some xs[m] := atI_nat (List.getElem?_eq_getElem hm)
            have ad1 : binD .add (.tuple (xs.take m)) (.tuple [y]) = some (.tuple (xs.take m ++ [y])) := by
              have : (xs.take m).length + [y].length ≤ sizeLine := by rw [ltk]; simp [sizeLine]; omega
              simp only [binD, if_pos this]
            have ad2 : binD .add (.tuple (xs.take m ++ [y])) (.tuple (xs.drop (m + 1))) = some (.tuple (xs.take m ++ [y] ++ xs.drop (m + 1))) := by
              have : (xs.take m ++ [y]).length + (xs.drop (m + 1)).length ≤ sizeLine := by rw [List.length_append, ltk, ldr]; simp [sizeLine]; omega
              simp only [binD, if_pos this]
            refine ⟨.tuple (xs.take m ++ [y] ++ xs.drop (m + 1)), q0, q2, be_mid hw tk dr hy (by rw [ltk, ldr]; omega), hq, start ?_⟩
            have e' : CI (k + ws.length + 5) "_law_bent" (some [.int b0, .int p1, .int b2]) [xs[m]] = some (y, some [.int q0, .int p1, .int q2]) := e
            generalize xs.take m = tk' at *
            generalize xs.drop (m + 1) = dr' at *
            simp [runF, endF, penOf, startE, exs, ex, ev, evs, evO, evT, evTs, evI, bnd, ret, setAll, b1D, b2D, truD, isi, ixD, seqD, cmp_eq, cmp_ne, cmp_lt, cmp_le, cmp_gt, cmp_ge, eqD_ii, eqD_ss, bin_add, bin_sub, sizeLine, at0, at1, at2, at3, at4, at5, at6, bentT, h5, partD, hcut1, hcut2, ge, e', ad1, ad2]
          · have h3 : r = 5 ∨ r = 6 ∨ r = 7 := by omega
            have ad1 : binD .add (.tuple (xs.take m)) (.tuple (xs.drop (m + 1))) = some (.tuple (xs.take m ++ xs.drop (m + 1))) := by
              have : (xs.take m).length + (xs.drop (m + 1)).length ≤ sizeLine := by rw [ltk, ldr]; simp [sizeLine]; omega
              simp only [binD, if_pos this]
            have l1 : ((xs.drop m).take 1).length ≤ 1 := by rw [List.length_take]; omega
            have ad2 : binD .add (.tuple xs) (.tuple ((xs.drop m).take 1)) = some (.tuple (xs ++ (xs.drop m).take 1)) := by
              have : xs.length + ((xs.drop m).take 1).length ≤ sizeLine := by simp only [sizeLine]; omega
              simp only [binD, if_pos this]
            have o1 : Be (w :: ws) (.tuple (xs.take m ++ xs.drop (m + 1))) := (be_all hw (fun z hz => by
              rcases List.mem_append.mp hz with h | h
              · exact tk z h
              · exact dr z h) (by rw [List.length_append, ltk, ldr]; omega)).1
            have o2 : Be (w :: ws) (.list xs) := (be_all hw hx (by omega)).2
            have o3 : Be (w :: ws) (.tuple (xs ++ (xs.drop m).take 1)) := (be_all hw (fun z hz => by
              rcases List.mem_append.mp hz with h | h
              · exact hx z h
              · exact hx z (List.mem_of_mem_drop (List.mem_of_mem_take h))) (by rw [List.length_append]; omega)).1
            generalize xs.take m = tk' at *
            generalize xs.drop (m + 1) = dr' at *
            generalize (xs.drop m).take 1 = md' at *
            rcases h3 with rfl | rfl | rfl
            · exact ⟨_, b0, b2, o1, hb, start (by simp [runF, endF, penOf, startE, exs, ex, ev, evs, evO, evT, evTs, evI, bnd, ret, setAll, b1D, b2D, truD, isi, ixD, seqD, cmp_eq, cmp_ne, cmp_lt, cmp_le, cmp_gt, cmp_ge, eqD_ii, eqD_ss, bin_add, bin_sub, sizeLine, at0, at1, at2, at3, at4, at5, at6, bentT, partD, hcut1, hcut2, hcut3, ad1, ad2])⟩
            · exact ⟨_, b0, b2, o2, hb, start (by simp [runF, endF, penOf, startE, exs, ex, ev, evs, evO, evT, evTs, evI, bnd, ret, setAll, b1D, b2D, truD, isi, ixD, seqD, cmp_eq, cmp_ne, cmp_lt, cmp_le, cmp_gt, cmp_ge, eqD_ii, eqD_ss, bin_add, bin_sub, sizeLine, at0, at1, at2, at3, at4, at5, at6, bentT, partD, hcut1, hcut2, hcut3, ad1, ad2])⟩
            · exact ⟨_, b0, b2, o3, hb, start (by simp [runF, endF, penOf, startE, exs, ex, ev, evs, evO, evT, evTs, evI, bnd, ret, setAll, b1D, b2D, truD, isi, ixD, seqD, cmp_eq, cmp_ne, cmp_lt, cmp_le, cmp_gt, cmp_ge, eqD_ii, eqD_ss, bin_add, bin_sub, sizeLine, at0, at1, at2, at3, at4, at5, at6, bentT, partD, hcut1, hcut2, hcut3, ad1, ad2])⟩

theorem put_at (xs : List PyData) (m : Nat) (hm : m < xs.length) (hl : xs.length ≤ 1000) (y : PyData) : slD (.tuple xs) none (some (m : Int)) = some (.tuple (xs.take m)) ∧ slD (.tuple xs) (some ((m : Int) + 1)) none = some (.tuple (xs.drop (m + 1))) ∧ binD .add (.tuple (xs.take m)) (.tuple [y]) = some (.tuple (xs.take m ++ [y])) ∧ binD .add (.tuple (xs.take m ++ [y])) (.tuple (xs.drop (m + 1))) = some (.tuple (xs.take m ++ [y] ++ xs.drop (m + 1))) := by
  have ltk : (xs.take m).length = m := by rw [List.length_take]; omega
  have ldr : (xs.drop (m + 1)).length = xs.length - (m + 1) := List.length_drop ..
  refine ⟨by simp only [slD, cut_hi xs m (by omega)], by simp only [slD, cut_lo xs m (by omega)], ?_, ?_⟩
  · have : (xs.take m).length + [y].length ≤ sizeLine := by rw [ltk]; simp [sizeLine]; omega
    simp only [binD, if_pos this]
  · have : (xs.take m ++ [y]).length + (xs.drop (m + 1)).length ≤ sizeLine := by rw [List.length_append, ltk, ldr]; simp [sizeLine]; omega
    simp only [binD, if_pos this]
/-- a loop that goes on with more things, all of them right -/
theorem near_loop {T : Type} {step : PyData → En → Option (Fl × En)} (E : List PyData → T → En) (P : PyData → Prop) (c : Nat) (xs : List PyData) (zs : List PyData) (t : T) (hl : zs.length + c * xs.length ≤ 1000) (hz : ∀ z ∈ zs, P z)
    (hs : ∀ y ∈ xs, ∀ zs t, zs.length + c ≤ 1000 → ∃ ws t', (∀ z ∈ ws, P z) ∧ ws.length ≤ c ∧ step y (E zs t) = some (.next, E (zs ++ ws) t')) : ∃ zs' t', zs'.length ≤ zs.length + c * xs.length ∧ (∀ z ∈ zs', P z) ∧ forI step xs (E zs t) = some (.next, E zs' t') := by
  induction xs generalizing zs t with
  | nil => exact ⟨zs, t, Nat.le_refl _, hz, rfl⟩
  | cons y xs ih =>
    rw [List.length_cons, Nat.mul_succ] at hl
    obtain ⟨ws, t1, hp, hc, e⟩ := hs y (.head _) zs t (by omega)
    obtain ⟨zs', t', h1, h2, h3⟩ := ih (zs ++ ws) t1 (by simp only [List.length_append]; omega) (fun w hw => by
      rcases List.mem_append.mp hw with h | h
      · exact hz w h
      · exact hp w h) fun y hy => hs y (.tail _ hy)
    rw [List.length_append] at h1
    refine ⟨zs', t', ?_, h2, forI_cons e h3⟩
    rw [List.length_cons, Nat.mul_succ]
    omega
/-! ### cases just beyond -/
abbrev ipr (i j : Int) : PyData := .tuple [.int i, .int j]
def fr10 : List PyData := [ipr 50 1, ipr 51 1, ipr 101 2, ipr (-1) 2, ipr 2 4, ipr 0 2, .int 5, .none, .list [.int 0, .int 1], .tuple [.bool true, .int 1]]
def fr6 (t : Int) : List PyData := [ipr t 1, ipr (t + 1) 1, ipr (2 * t + 1) 2, ipr (-1) 3, ipr 0 1, .int 0]
abbrev WS : List Nat := [3, 20, 2]
theorem ws50 : ∀ v ∈ WS, v ≤ 50 := by decide
theorem ws50' : ∀ v ∈ [20, 2], v ≤ 50 := by decide
theorem be_fr10 : ∀ x ∈ fr10, ∀ ws, Be ws x := by
  intro x hx ws
  have h : fr10.all (fun d => fine d && small d && decide (d.depth ≤ 2) && decide (wt d ≤ 30000) && (!d.hasDict || noL d)) = true := by decide +kernel
  have h1 := List.all_eq_true.mp h x hx
  simp only [Bool.and_eq_true, decide_eq_true_eq, Bool.or_eq_true, Bool.not_eq_true'] at h1
  exact ⟨h1.1.1.1.1, h1.1.1.1.2, Nat.le_trans h1.1.1.2 (by omega), Nat.le_trans h1.1.2 (Cb_pos ws), h1.2⟩
theorem be_fr6 {t : Int} (h : 0 ≤ t ∧ t ≤ 1000) : ∀ y ∈ fr6 t, Be [2] y := by
  intro y hy
  have e : (10 : Nat) ^ 4 < 10 ^ 19 := by decide
  refine be_pu (by decide) ?_
  simp only [fr6, List.mem_cons, List.not_mem_nil, or_false] at hy
  rcases hy with rfl | rfl | rfl | rfl | rfl | rfl
  · exact pu_pair (flat_i (by omega)) (flat_i (by decide)) _
  · exact pu_pair (flat_i (by omega)) (flat_i (by decide)) _
  · exact pu_pair (flat_i (by omega)) (flat_i (by decide)) _
  · exact pu_pair (flat_i (by decide)) (flat_i (by decide)) _
  · exact pu_pair (flat_i (by decide)) (flat_i (by decide)) _
  · exact pu_of (flat_i (by decide)) _
abbrev NE (p : List PyData) (N : Nt) (x : PyData) (as ls : List PyData) (S : PyData) (s6 : Option Sv) (zs : List PyData) (s8 s9 s10 : Option Sv) : En := [some (.own true p), some (.d N.d), some (.d x), some (.d (.tuple as)), some (.d (.tuple ls)), some (.d S), s6, some (.own false zs), s8, s9, s10]
def nearS1 : List Sm := [(.app 7 (.tup [(.bin .add (.bin .add (.sl (.var 3) none (some (.var 6))) (.tup [(.var 8)])) (.sl (.var 3) (some (.bin .add (.var 6) (.con (.int 1)))) none)), (.var 4), (.var 5)]))]
def nearS2 : List Sm := [(.app 7 (.tup [(.var 3), (.bin .add (.bin .add (.sl (.var 4) none (some (.var 6))) (.tup [(.var 8)])) (.sl (.var 4) (some (.bin .add (.var 6) (.con (.int 1)))) none)), (.var 5)]))]
def nearS3 : List Sm := [(.seto 7 (.bin .add (.var 7) (.lst [(.tup [(.var 3), (.var 4), (.tup [(.var 10)])]), (.tup [(.var 3), (.var 4), (.tup [(.con (.int 0)), (.var 10)])])]))),
    (.seto 7 (.bin .add (.var 7) (.lst [(.tup [(.var 3), (.var 4), (.tup [(.var 10), (.var 10)])])])))]
theorem near_step1 (k : Nat) (p : List PyData) (N : Nt) (x S : PyData) (xs ls zs : List PyData) (m : Nat) (hm : m < xs.length) (hl : xs.length ≤ 1000) (y : PyData) (s9 s10 : Option Sv) (hz : zs.length ≤ 100000) : exs (cf k) nearS1 (NE p N x xs ls S (some (.d (.int m))) zs (some (.d y)) s9 s10) = some (.next, NE p N x xs ls S (some (.d (.int m))) (zs ++ [.tuple [.tuple (xs.take m ++ [y] ++ xs.drop (m + 1)), .tuple ls, S]]) (some (.d y)) s9 s10) := by
  obtain ⟨c1, c2, a1, a2⟩ := put_at xs m hm hl y
  have z1 : zs.length < 16777216 := by omega
  generalize xs.take m = tk at *
  generalize xs.drop (m + 1) = dr at *
  simp [runF, endF, penOf, startE, exs, ex, ev, evs, evO, evT, evTs, evI, bnd, ret, setAll, b1D, b2D, truD, isi, ixD, seqD, cmp_eq, cmp_ne, cmp_lt, cmp_le, cmp_gt, cmp_ge, eqD_ii, eqD_ss, bin_add, bin_sub, sizeLine, at0, at1, at2, at3, at4, at5, at6, nearS1, partD, c1, c2, a1, a2, z1]
theorem near_step2 (k : Nat) (p : List PyData) (N : Nt) (x S : PyData) (as xs zs : List PyData) (m : Nat) (hm : m < xs.length) (hl : xs.length ≤ 1000) (y : PyData) (s9 s10 : Option Sv) (hz : zs.length ≤ 100000) : exs (cf k) nearS2 (NE p N x as xs S (some (.d (.int m))) zs (some (.d y)) s9 s10) = some (.next, NE p N x as xs S (some (.d (.int m))) (zs ++ [.tuple [.tuple as, .tuple (xs.take m ++ [y] ++ xs.drop (m + 1)), S]]) (some (.d y)) s9 s10) := by
  obtain ⟨c1, c2, a1, a2⟩ := put_at xs m hm hl y
  have z1 : zs.length < 16777216 := by omega
  generalize xs.take m = tk at *
  generalize xs.drop (m + 1) = dr at *
  simp [runF, endF, penOf, startE, exs, ex, ev, evs, evO, evT, evTs, evI, bnd, ret, setAll, b1D, b2D, truD, isi, ixD, seqD, cmp_eq, cmp_ne, cmp_lt, cmp_le, cmp_gt, cmp_ge, eqD_ii, eqD_ss, bin_add, bin_sub, sizeLine, at0, at1, at2, at3, at4, at5, at6, nearS2, partD, c1, c2, a1, a2, z1]
theorem lcat {xs ys : List PyData} (h : xs.length + ys.length ≤ 100000) : binD .add (.list xs) (.list ys) = some (.list (xs ++ ys)) := by
  have : xs.length + ys.length ≤ sizeLine := by simp [sizeLine]; omega
  simp only [binD, if_pos this]
theorem tcat {xs ys : List PyData} (h : xs.length + ys.length ≤ 100000) : binD .add (.tuple xs) (.tuple ys) = some (.tuple (xs ++ ys)) := by
  have : xs.length + ys.length ≤ sizeLine := by simp [sizeLine]; omega
  simp only [binD, if_pos this]
theorem near_step3 (k : Nat) (p : List PyData) (N : Nt) (x S : PyData) (as ls zs : List PyData) (i : Int) (s6 s8 s9 : Option Sv) (hz : zs.length ≤ 10000) : exs (cf k) nearS3 (NE p N x as ls S s6 zs s8 s9 (some (.d (.int i)))) = some (.next, NE p N x as ls S s6 (zs ++ [.tuple [.tuple as, .tuple ls, .tuple [.int i]], .tuple [.tuple as, .tuple ls, .tuple [.int 0, .int i]], .tuple [.tuple as, .tuple ls, .tuple [.int i, .int i]]]) s8 s9 (some (.d (.int i)))) := by
  have b1 := lcat (xs := zs) (ys := [.tuple [.tuple as, .tuple ls, .tuple [.int i]], .tuple [.tuple as, .tuple ls, .tuple [.int 0, .int i]]]) (by simp; omega)
  have b2 := lcat (xs := zs ++ [.tuple [.tuple as, .tuple ls, .tuple [.int i]], .tuple [.tuple as, .tuple ls, .tuple [.int 0, .int i]]]) (ys := [.tuple [.tuple as, .tuple ls, .tuple [.int i, .int i]]]) (by simp; omega)
  unfold nearS3
  refine exs_next (ρ' := NE p N x as ls S s6 (zs ++ [.tuple [.tuple as, .tuple ls, .tuple [.int i]], .tuple [.tuple as, .tuple ls, .tuple [.int 0, .int i]]]) s8 s9 (some (.d (.int i)))) (by simp [runF, endF, penOf, startE, exs, ex, ev, evs, evO, evT, evTs, evI, bnd, ret, setAll, b1D, b2D, truD, isi, ixD, seqD, cmp_eq, cmp_ne, cmp_lt, cmp_le, cmp_gt, cmp_ge, eqD_ii, eqD_ss, bin_add, bin_sub, sizeLine, at0, at1, at2, at3, at4, at5, at6, b1]) ?_
  rw [show zs ++ [.tuple [.tuple as, .tuple ls, .tuple [.int i]], .tuple [.tuple as, .tuple ls, .tuple [.int 0, .int i]], .tuple [.tuple as, .tuple ls, .tuple [.int i, .int i]]] = (zs ++ [.tuple [.tuple as, .tuple ls, .tuple [.int i]], .tuple [.tuple as, .tuple ls, .tuple [.int 0, .int i]]]) ++ [.tuple [.tuple as, .tuple ls, .tuple [.int i, .int i]]] by simp]
  generalize zs ++ [.tuple [.tuple as, .tuple ls, .tuple [.int i]], .tuple [.tuple as, .tuple ls, .tuple [.int 0, .int i]]] = zz at *
  simp [runF, endF, penOf, startE, exs, ex, ev, evs, evO, evT, evTs, evI, bnd, ret, setAll, b1D, b2D, truD, isi, ixD, seqD, cmp_eq, cmp_ne, cmp_lt, cmp_le, cmp_gt, cmp_ge, eqD_ii, eqD_ss, bin_add, bin_sub, sizeLine, at0, at1, at2, at3, at4, at5, at6, b2]

theorem be3a {A L S : PyData} (hA : Be [20, 2] A) (hL : Pu [20, 2] L) (hS : Pu [20, 2] S) : Be WS (.tuple [A, L, S]) :=
  be_mid (w := 3) (ws := [20, 2]) (xs := []) (ys := [L, S]) ws50 (fun _ h => nomatch h) (fun z hz => by
    simp only [List.mem_cons, List.not_mem_nil, or_false] at hz
    rcases hz with rfl | rfl
    · exact hL
    · exact hS) hA (by simp)
theorem be3b {A L S : PyData} (hA : Pu [20, 2] A) (hL : Be [20, 2] L) (hS : Pu [20, 2] S) : Be WS (.tuple [A, L, S]) :=
  be_mid (w := 3) (ws := [20, 2]) (xs := [A]) (ys := [S]) ws50 (fun z hz => by
    simp only [List.mem_cons, List.not_mem_nil, or_false] at hz
    rw [hz]
    exact hA) (fun z hz => by
    simp only [List.mem_cons, List.not_mem_nil, or_false] at hz
    rw [hz]
    exact hS) hL (by simp)
theorem pu3 {A L S : PyData} (hA : Pu [20, 2] A) (hL : Pu [20, 2] L) (hS : Pu [20, 2] S) : Pu WS (.tuple [A, L, S]) := .inr ⟨_, rfl, by simp, fun z hz => by
  simp only [List.mem_cons, List.not_mem_nil, or_false] at hz
  rcases hz with rfl | rfl | rfl
  · exact hA
  · exact hL
  · exact hS⟩
theorem put {xs : List PyData} (h : ∀ z ∈ xs, Pu [2] z) (hl : xs.length ≤ 20) : Pu [20, 2] (.tuple xs) := .inr ⟨xs, rfl, hl, h⟩
theorem pint {i : Int} (h : i.natAbs < 10 ^ 19) : Pu [2] (.int i) := pu_of (flat_i h) _
def tkF (j : Jt) : Option Jt := j.top.map fun _ => j
theorem tk_len : ∀ js : List Jt, (js.filterMap tkF).length = (js.filterMap Jt.top).length
  | [] => rfl
  | j :: js => by cases j <;> simp [List.filterMap_cons, tkF, Jt.top, tk_len js]
def fr10E : Ep := .lst [(.tup [(.con (.int 50)), (.con (.int 1))]), (.tup [(.con (.int 51)), (.con (.int 1))]), (.tup [(.con (.int 101)), (.con (.int 2))]), (.tup [(.neg (.con (.int 1))), (.con (.int 2))]), (.tup [(.con (.int 2)), (.con (.int 4))]), (.tup [(.con (.int 0)), (.con (.int 2))]), (.con (.int 5)), (.con .none), (.lst [(.con (.int 0)), (.con (.int 1))]), (.tup [(.con (.bool true)), (.con (.int 1))])]
def fr6E : Ep := .lst [(.tup [(.ix (.var 9) (.con (.int 3))), (.con (.int 1))]), (.tup [(.bin .add (.ix (.var 9) (.con (.int 3))) (.con (.int 1))), (.con (.int 1))]), (.tup [(.bin .add (.bin .mul (.con (.int 2)) (.ix (.var 9) (.con (.int 3)))) (.con (.int 1))), (.con (.int 2))]), (.tup [(.neg (.con (.int 1))), (.con (.int 3))]), (.tup [(.con (.int 0)), (.con (.int 1))]), (.con (.int 0))]
def nearB2 : List Sm := [(.for_ (.name 8) (.seq fr6E) nearS2)]
theorem near_1 (k : Nat) (p : List PyData) (N : Nt) (x S : PyData) (as ls : List PyData) (ha : ∀ z ∈ as, Pu [2] z) (hl : ∀ z ∈ ls, Pu [2] z) (la : as.length ≤ 10) (ll : ls.length ≤ 10) (hS : Pu [20, 2] S) (m : Nat) (hm : m < as.length) : ∃ zs s8, zs.length ≤ 10 ∧ (∀ z ∈ zs, Be WS z) ∧ ex (cf k) (.for_ (.name 8) (.seq fr10E) nearS1) (NE p N x as ls S (some (.d (.int m))) [] none none none) = some (.next, NE p N x as ls S (some (.d (.int m))) zs s8 none none) := by
  obtain ⟨z1, s8, c1, g1, e1⟩ := near_loop (T := Option Sv) (step := fun x ρ => match bindT (.name 8) x ρ with
      | none => none
      | some ρ => exs (cf k) nearS1 ρ) (fun zs t => NE p N x as ls S (some (.d (.int m))) zs t none none) (Be WS) 1 fr10 [] none (by simp [fr10]) (fun _ h => nomatch h) (fun y hy zs t hc => by
      refine ⟨[.tuple [.tuple (as.take m ++ [y] ++ as.drop (m + 1)), .tuple ls, S]], some (.d y), fun z hz => ?_, Nat.le_refl _, ?_⟩
      · simp only [List.mem_cons, List.not_mem_nil, or_false] at hz
        rw [hz]
        refine be3a (be_mid (w := 20) (ws := [2]) ws50' (fun z hz => ha z (List.mem_of_mem_take hz)) (fun z hz => ha z (List.mem_of_mem_drop hz)) (be_fr10 y hy [2]) ?_) (put hl (by omega)) hS
        rw [List.length_take, List.length_drop]
        omega
      · exact near_step1 k p N x S as ls zs m hm (by omega) y none none (by omega))
  refine ⟨z1, s8, by simpa [fr10] using c1, g1, ex_for (xs := fr10) (ρ1 := NE p N x as ls S (some (.d (.int m))) [] none none none) (evI_seqL ?_) e1⟩
  simp [runF, endF, penOf, startE, exs, ex, ev, evs, evO, evT, evTs, evI, bnd, ret, setAll, b1D, b2D, truD, isi, ixD, seqD, cmp_eq, cmp_ne, cmp_lt, cmp_le, cmp_gt, cmp_ge, eqD_ii, eqD_ss, bin_add, bin_sub, sizeLine, at0, at1, at2, at3, at4, at5, at6, fr10E, fr10, ipr]
theorem near_2 (k : Nat) (p : List PyData) (N : Nt) (hN : N.ok) (x S : PyData) (as ls : List PyData) (ha : ∀ z ∈ as, Pu [2] z) (hl : ∀ z ∈ ls, Pu [2] z) (la : as.length ≤ 10) (ll : ls.length = N.tops.length) (hS : Pu [20, 2] S) (s6 s8 : Option Sv) (zs : List PyData) (hz : zs.length ≤ 10) (gz : ∀ z ∈ zs, Be WS z) : ∃ zs' s6' s8' s9', zs'.length ≤ 60 ∧ (∀ z ∈ zs', Be WS z) ∧ ex (cf k) (.for_ (.tup [(.name 6), (.name 9)]) (.enum (.comp (.var 9) (.name 9) (.seq (.ix (.var 1) (.con (.int 0)))) [(.leaf (.cmp .eq (.ix (.var 9) (.con (.int 0))) (.con (.str "tank"))))] [9])) nearB2) (NE p N x as ls S s6 zs s8 none none) = some (.next, NE p N x as ls S s6' zs' s8' s9' none) := by
  have j7 := hN.j7
  have tl : N.tops.length ≤ 7 := by
    have := List.length_filterMap_le Jt.top N.js
    unfold Nt.tops
    omega
  have tk := tk_len N.js
  have tk' : (N.js.filterMap tkF).length = N.tops.length := tk
  obtain ⟨E, hE⟩ : ∃ E, E = NE p N x as ls S s6 zs s8 none none := ⟨_, rfl⟩
  have B := ev_compP (c := cf k) (e := .var 9) (tg := .name 9) (it := .seq (.ix (.var 1) (.con (.int 0)))) (cs := [(.leaf (.cmp .eq (.ix (.var 9) (.con (.int 0))) (.con (.str "tank"))))]) (own := [9]) (ρ := E) (ρ1 := E) (d := Jt.d) (as := N.js) (fun j => (tkF j).map Jt.d) (by simp [hE, notOwn]) (by
      rw [hE]
      exact evI_seqT (ev_ix (ρ1 := NE p N x as ls S s6 zs s8 none none) (x := N.d) (y := .int 0) rfl rfl rfl)) (by simp [hE, notOwn]) (by omega) (fun j hj => by
    cases j <;> simp [hE, stepC, runF, endF, penOf, startE, exs, ex, ev, evs, evO, evT, evTs, evI, bnd, ret, setAll, b1D, b2D, truD, isi, ixD, seqD, cmp_eq, cmp_ne, cmp_lt, cmp_le, cmp_gt, cmp_ge, eqD_ii, eqD_ss, bin_add, bin_sub, sizeLine, at0, at1, at2, at3, at4, at5, at6, bindT, wipeE, backE, Jt.d, Jt.top, tkF, sp4, sp5])
  have e1 : N.js.filterMap (fun j => (tkF j).map Jt.d) = (N.js.filterMap tkF).map Jt.d := by rw [List.map_filterMap]
  rw [e1] at B
  obtain ⟨z3, ⟨s6', s8', s9⟩, c3, g3, e3⟩ := near_loop (T := Option Sv × Option Sv × Option Sv) (step := fun x ρ => match bindT (.tup [(.name 6), (.name 9)]) x ρ with
      | none => none
      | some ρ => exs (cf k) nearB2 ρ) (fun zs t => NE p N x as ls S t.1 zs t.2.1 t.2.2 none) (Be WS) 6 ((N.js.filterMap tkF).zipIdx.map fun q => .tuple [.int q.2, q.1.d]) zs (s6, s8, none) (by simp [List.length_zipIdx]; omega) gz (fun y hy zs t hc => by
      obtain ⟨⟨i, j⟩, hq, rfl⟩ := List.mem_map.mp hy
      have hij := zip_mem hq
      have hj : j < (N.js.filterMap tkF).length := (List.getElem?_eq_some_iff.mp hij).1
      obtain ⟨i', hi', ei⟩ := List.mem_filterMap.mp (List.mem_of_getElem? hij)
      have ok := hN.js i' hi'
      cases i' <;> simp [tkF, Jt.top] at ei
      rename_i x1 x2 x3
      subst ei
      simp only [Jt.ok] at ok
      have m2 := mulS (i := 2) (j := x3) (by decide) (by omega)
      obtain ⟨z2, s8', c2, g2, e2⟩ := near_loop (T := Option Sv) (step := fun x ρ => match bindT (.name 8) x ρ with
          | none => none
          | some ρ => exs (cf k) nearS2 ρ) (fun ws t => NE p N x as ls S (some (.d (.int j))) (zs ++ ws) t (some (.d (Jt.tank x1 x2 x3).d)) none) (Be WS) 1 (fr6 x3) [] t.2.1 (by simp [fr6]) (fun _ h => nomatch h) (fun y hy ws t hc2 => by
          refine ⟨[.tuple [.tuple as, .tuple (ls.take j ++ [y] ++ ls.drop (j + 1)), S]], some (.d y), fun z hz => ?_, Nat.le_refl _, ?_⟩
          · simp only [List.mem_cons, List.not_mem_nil, or_false] at hz
            rw [hz]
            refine be3b (put ha (by omega)) (be_mid (w := 20) (ws := [2]) ws50' (fun z hz => hl z (List.mem_of_mem_take hz)) (fun z hz => hl z (List.mem_of_mem_drop hz)) (be_fr6 (by omega) y hy) ?_) hS
            rw [List.length_take, List.length_drop]
            omega
          · have := near_step2 k p N x S as ls (zs ++ ws) j (by omega) (by omega) y (some (.d (Jt.tank x1 x2 x3).d)) none (by rw [List.length_append]; omega)
            rw [List.append_assoc] at this
            exact this)
      refine ⟨z2, (some (.d (.int j)), s8', some (.d (Jt.tank x1 x2 x3).d)), g2, by simpa [fr6] using c2, ?_⟩
      show exs (cf k) nearB2 (NE p N x as ls S (some (.d (.int j))) zs t.2.1 (some (.d (Jt.tank x1 x2 x3).d)) none) = _
      unfold nearB2
      refine exs_next (ex_for (xs := fr6 x3) (ρ1 := NE p N x as ls S (some (.d (.int j))) zs t.2.1 (some (.d (Jt.tank x1 x2 x3).d)) none) (evI_seqL ?_) ?_) rfl
      · simp [runF, endF, penOf, startE, exs, ex, ev, evs, evO, evT, evTs, evI, bnd, ret, setAll, b1D, b2D, truD, isi, ixD, seqD, cmp_eq, cmp_ne, cmp_lt, cmp_le, cmp_gt, cmp_ge, eqD_ii, eqD_ss, bin_add, bin_sub, sizeLine, at0, at1, at2, at3, at4, at5, at6, fr6E, fr6, ipr, m2, Jt.d]
      · rw [List.append_nil] at e2
        exact e2)
  refine ⟨z3, s6', s8', s9, by simp [List.length_zipIdx] at c3; omega, g3, ?_⟩
  rw [← hE]
  refine ex_for (xs := (N.js.filterMap tkF).zipIdx.map fun q => .tuple [.int q.2, q.1.d]) (ρ1 := E) (evI_enumL B) ?_
  rw [hE]
  exact e3
theorem near_3a (k : Nat) (p : List PyData) (N : Nt) (x S : PyData) (as ls : List PyData) (ha : ∀ z ∈ as, Pu [2] z) (hl : ∀ z ∈ ls, Pu [2] z) (la : as.length ≤ 10) (ll : ls.length ≤ 10) (s6 s8 s9 : Option Sv) (zs : List PyData) (hz : zs.length ≤ 1000) (i : Int) (hi : i.natAbs ≤ 100) : ∃ ws, (∀ z ∈ ws, Be WS z) ∧ ws.length ≤ 3 ∧ exs (cf k) nearS3 (NE p N x as ls S s6 zs s8 s9 (some (.d (.int i)))) = some (.next, NE p N x as ls S s6 (zs ++ ws) s8 s9 (some (.d (.int i)))) := by
  have Q : (100 : Nat) < 10 ^ 19 := by decide
  have pi : Pu [2] (.int i) := pint (by omega)
  have p0 : Pu [2] (.int 0) := pint (by decide)
  refine ⟨_, fun z hz => ?_, ?_, near_step3 k p N x S as ls zs i s6 s8 s9 (by omega)⟩
  · simp only [List.mem_cons, List.not_mem_nil, or_false] at hz
    rcases hz with rfl | rfl | rfl
    · exact be_pu ws50 (pu3 (put ha (by omega)) (put hl (by omega)) (put (fun z hz => by
        simp only [List.mem_cons, List.not_mem_nil, or_false] at hz
        rw [hz]; exact pi) (by simp)))
    · exact be_pu ws50 (pu3 (put ha (by omega)) (put hl (by omega)) (put (fun z hz => by
        simp only [List.mem_cons, List.not_mem_nil, or_false] at hz
        rcases hz with rfl | rfl
        · exact p0
        · exact pi) (by simp)))
    · exact be_pu ws50 (pu3 (put ha (by omega)) (put hl (by omega)) (put (fun z hz => by
        simp only [List.mem_cons, List.not_mem_nil, or_false, or_self] at hz
        rw [hz]; exact pi) (by simp)))
  · simp
theorem near_3i (k : Nat) (N : Nt) (hN : N.ok) (E : En) (h : E[1]? = some (some (.d N.d))) : evI (cf k) (.rng2 (.neg (.con (.int 1))) (.bin .add (.b1 .len (.ix (.var 1) (.con (.int 1)))) (.con (.int 1)))) E = some (rngD (-1) ((N.ps.length : Int) + 1), E) := by
  have p9 := hN.p9
  have h1 : smallI (-1) = true := by decide
  have h2 : smallI ((N.ps.length : Int) + 1) = true := by simp [smallI]; omega
  obtain ⟨X, hX⟩ : ∃ X, X = rngD (-1) ((N.ps.length : Int) + 1) := ⟨_, rfl⟩
  rw [← hX]
  simp [runF, endF, penOf, startE, exs, ex, ev, evs, evO, evT, evTs, evI, bnd, ret, setAll, b1D, b2D, truD, isi, ixD, seqD, cmp_eq, cmp_ne, cmp_lt, cmp_le, cmp_gt, cmp_ge, eqD_ii, eqD_ss, bin_add, bin_sub, sizeLine, at0, at1, at2, at3, at4, at5, at6, Nt.d, h, h1, h2, hX]
theorem near_3 (k : Nat) (p : List PyData) (N : Nt) (hN : N.ok) (x S : PyData) (as ls : List PyData) (ha : ∀ z ∈ as, Pu [2] z) (hl : ∀ z ∈ ls, Pu [2] z) (la : as.length ≤ 10) (ll : ls.length ≤ 10) (s6 s8 s9 : Option Sv) (zs : List PyData) (hz : zs.length ≤ 60) (gz : ∀ z ∈ zs, Be WS z) : ∃ zs' s10', zs'.length ≤ 100 ∧ (∀ z ∈ zs', Be WS z) ∧ ex (cf k) (.for_ (.name 10) (.rng2 (.neg (.con (.int 1))) (.bin .add (.b1 .len (.ix (.var 1) (.con (.int 1)))) (.con (.int 1)))) nearS3) (NE p N x as ls S s6 zs s8 s9 none) = some (.next, NE p N x as ls S s6 zs' s8 s9 s10') := by
  have p9 := hN.p9
  have I := near_3i k N hN (NE p N x as ls S s6 zs s8 s9 none) rfl
  have rl : (rngD (-1) ((N.ps.length : Int) + 1)).length ≤ 11 := by simp [rngD]; omega
  have rm : ∀ y ∈ rngD (-1) ((N.ps.length : Int) + 1), ∃ i : Int, y = .int i ∧ i.natAbs ≤ 100 := fun y hy => by
    obtain ⟨i, hi, e⟩ := List.mem_map.mp hy
    have hi := List.mem_range.mp hi
    exact ⟨_, e.symm, by omega⟩
  generalize rngD (-1) ((N.ps.length : Int) + 1) = R at *
  obtain ⟨z1, s10, c1, g1, e1⟩ := near_loop (T := Option Sv) (step := fun x ρ => match bindT (.name 10) x ρ with
      | none => none
      | some ρ => exs (cf k) nearS3 ρ) (fun zs t => NE p N x as ls S s6 zs s8 s9 t) (Be WS) 3 R zs none (by omega) gz (fun y hy zs t hc => by
      obtain ⟨i, rfl, hi⟩ := rm y hy
      obtain ⟨ws, h1, h2, h3⟩ := near_3a k p N x S as ls ha hl la ll s6 s8 s9 zs (by omega) i hi
      exact ⟨ws, some (.d (.int i)), h1, h2, h3⟩)
  exact ⟨z1, s10, by omega, g1, ex_for I e1⟩

theorem c_near (k : Nat) (p0 p1 p2 : Int) (h0 : 0 ≤ p0) (N : Nt) (hN : N.ok) (as ls : List Rat) (sh : List Int) (hc : CsOk N as ls sh) : ∃ (zs : List PyData) (q0 q2 : Int), zs.length ≤ 110 ∧ (∀ z ∈ zs, Be WS z) ∧ 0 ≤ q0 ∧ CI (k + 3) "_law_near" (some (pen p0 p1 p2)) [N.d, caseD as ls sh] = some (.list zs, some (pen q0 p1 q2)) := by
  have j2 := hN.j2
  have j7 := hN.j7
  have la := hc.ra.len
  have ll := hc.rl.len
  have tl : N.tops.length ≤ 7 := by
    have := List.length_filterMap_le Jt.top N.js
    unfold Nt.tops
    omega
  have mA : ∀ z ∈ as.map frq, Pu [2] z := fun z hz => by
    obtain ⟨a, ha, rfl⟩ := List.mem_map.mp hz
    obtain ⟨_, _, r⟩ := hc.ra.right a ha
    exact pu_frq r.1 (by decide) []
  have mL : ∀ z ∈ ls.map frq, Pu [2] z := fun z hz => by
    obtain ⟨a, ha, rfl⟩ := List.mem_map.mp hz
    obtain ⟨t, ht, r⟩ := hc.rl.right a ha
    refine pu_frq r ?_ []
    obtain ⟨j, hj, e⟩ := List.mem_filterMap.mp ht
    have ok := hN.js j hj
    cases j <;> simp [Jt.top] at e
    subst e
    simp only [Jt.ok] at ok
    omega
  have hS : Pu [20, 2] (.tuple (sh.map .int)) := pu_ints (gate_small hN hc.gt) (by have := hc.sl; omega) [2]
  have lA : (as.map frq).length = N.js.length := by rw [List.length_map, la]
  have lL : (ls.map frq).length = N.tops.length := by rw [List.length_map, ll]
  unfold caseD
  generalize as.map frq = A at *
  generalize ls.map frq = L at *
  generalize PyData.tuple (sh.map .int) = S at *
  obtain ⟨r, a0, a2, r0, r1, ha, ea⟩ := c_draw k p0 p1 p2 (A.length : Int) h0 (by omega) (by omega)
  obtain ⟨m, rfl⟩ := Int.eq_ofNat_of_zero_le r0
  obtain ⟨X, hX⟩ : ∃ X, X = PyData.tuple [.tuple A, .tuple L, S] := ⟨_, rfl⟩
  obtain ⟨z1, s8, c1, g1, e1⟩ := near_1 (k + 2) (pen a0 p1 a2) N X S A L mA mL (by omega) (by omega) hS m (by omega)
  obtain ⟨z2, s6', s8', s9', c2, g2, e2⟩ := near_2 (k + 2) (pen a0 p1 a2) N hN X S A L mA mL (by omega) lL hS (some (.d (.int m))) s8 z1 c1 g1
  obtain ⟨z3, s10, c3, g3, e3⟩ := near_3 (k + 2) (pen a0 p1 a2) N hN X S A L mA mL (by omega) (by omega) s6' s8' s9' z2 c2 g2
  have b1 := tcat (xs := L) (ys := [ipr 0 1]) (by simp; omega)
  have b2 := tcat (xs := A) (ys := [ipr 0 1]) (by simp; omega)
  have b3 : slD (.tuple A) (some 1) none = some (.tuple A.tail) := by simp only [slD, cut_tl]
  have b4 := lcat (xs := z3) (ys := [.tuple [.tuple A, .tuple (L ++ [ipr 0 1]), S], .tuple [.tuple (A ++ [ipr 0 1]), .tuple L, S], .tuple [.tuple A.tail, .tuple L, S]]) (by simp; omega)
  have q01 : Pu [2] (ipr 0 1) := pu_pair (flat_i (by decide)) (flat_i (by decide)) _
  have pA := put mA (by omega)
  have pL := put mL (by omega)
  have snoc : ∀ {B : List PyData}, (∀ z ∈ B, Pu [2] z) → ∀ z ∈ B ++ [ipr 0 1], Pu [2] z := fun h z hz => by
    rcases List.mem_append.mp hz with h' | h'
    · exact h z h'
    · simp only [List.mem_cons, List.not_mem_nil, or_false] at h'
      rw [h']
      exact q01
  refine ⟨z3 ++ [.tuple [.tuple A, .tuple (L ++ [ipr 0 1]), S], .tuple [.tuple (A ++ [ipr 0 1]), .tuple L, S], .tuple [.tuple A.tail, .tuple L, S]], a0, a2, by simp; omega, fun z hz => ?_, ha, ?_⟩
  · rcases List.mem_append.mp hz with h | h
    · exact g3 z h
    · simp only [List.mem_cons, List.not_mem_nil, or_false] at h
      rcases h with rfl | rfl | rfl
      · exact be_pu ws50 (pu3 pA (put (snoc mL) (by simp; omega)) hS)
      · exact be_pu ws50 (pu3 (put (snoc mA) (by simp; omega)) pL hS)
      · exact be_pu ws50 (pu3 (put (fun z hz => mA z (List.mem_of_mem_tail hz)) (by simp; omega)) pL hS)
  · rw [u_law_near]
    refine run_pen (ρ := [some (.own true (pen a0 p1 a2)), some (.d N.d), some (.d X), some (.d (.tuple A)), some (.d (.tuple L)), some (.d S), s6', some (.d (.list z3)), s8', s9', s10]) rfl rfl ?_ rfl
    show exs (cf (k + 2)) (.unp _ _ :: .paro _ _ _ :: .for_ (.name 8) (.seq fr10E) nearS1 :: .for_ _ _ nearB2 :: .for_ _ _ nearS3 :: _) [some (.own true (pen p0 p1 p2)), some (.d N.d), some (.d (.tuple [.tuple A, .tuple L, S])), none, none, none, none, none, none, none, none] = _
    rw [← hX]
    refine exs_next (ρ' := [some (.own true (pen p0 p1 p2)), some (.d N.d), some (.d X), some (.d (.tuple A)), some (.d (.tuple L)), some (.d S), none, none, none, none, none]) (by rw [hX]; simp [runF, endF, penOf, startE, exs, ex, ev, evs, evO, evT, evTs, evI, bnd, ret, setAll, b1D, b2D, truD, isi, ixD, seqD, cmp_eq, cmp_ne, cmp_lt, cmp_le, cmp_gt, cmp_ge, eqD_ii, eqD_ss, bin_add, bin_sub, sizeLine, at0, at1, at2, at3, at4, at5, at6, bindT, bindTs]) ?_
    refine exs_next (ρ' := NE (pen a0 p1 a2) N X A L S (some (.d (.int m))) [] none none none) (by simp [runF, endF, penOf, startE, exs, ex, ev, evs, evO, evT, evTs, evI, bnd, ret, setAll, b1D, b2D, truD, isi, ixD, seqD, cmp_eq, cmp_ne, cmp_lt, cmp_le, cmp_gt, cmp_ge, eqD_ii, eqD_ss, bin_add, bin_sub, sizeLine, at0, at1, at2, at3, at4, at5, at6, ea, setAllO]) (exs_next e1 (exs_next e2 (exs_next e3 ?_)))
    refine exs_ret (ev_bin (ρ1 := [some (.own true (pen a0 p1 a2)), some (.d N.d), some (.d X), some (.d (.tuple A)), some (.d (.tuple L)), some (.d S), s6', some (.d (.list z3)), s8', s9', s10]) rfl ?_ b4)
    simp [runF, endF, penOf, startE, exs, ex, ev, evs, evO, evT, evTs, evI, bnd, ret, setAll, b1D, b2D, truD, isi, ixD, seqD, cmp_eq, cmp_ne, cmp_lt, cmp_le, cmp_gt, cmp_ge, eqD_ii, eqD_ss, bin_add, bin_sub, sizeLine, at0, at1, at2, at3, at4, at5, at6, partD, b1, b2, b3]
/-- a drawn case is one -/
theorem btw_frq {m : Int} {r : Rat} (h : Amq m r) : btw m (frq r) = true := by
  have a := h.t0
  have b := h.t1
  have c := den_pos r
  have g : Int.gcd r.num r.den = 1 := r.reduced
  simp only [frq, btw, Bool.and_eq_true, decide_eq_true_eq]
  exact ⟨by omega, g, a, b⟩
theorem all_rw {α β γ : Type} {R : α → β → Prop} {f : β → γ} {p : γ × α → Bool} (hp : ∀ a b, R a b → p (f b, a) = true) : ∀ {as : List α} {bs : List β}, Rw R as bs → ((bs.map f).zip as).all p = true
  | _, _, .nil => rfl
  | _, _, .cons h t => by
    rw [List.map_cons, List.zip_cons_cons, List.all_cons, hp _ _ h, all_rw hp t]
    rfl
theorem drawn_case {N : Nt} {as ls : List Rat} {sh : List Int} (h : CsOk N as ls sh) : caseB N (caseD as ls sh) = true := by
  have a : askB N.js (.tuple (as.map frq)) = true := by
    simp only [askB, List.length_map, h.ra.len, decide_true, Bool.true_and]
    refine all_rw (R := fun (j : Jt) a => Amq 50 a ∧ (j.isP = false → a = 0)) (fun j a r => ?_) h.ra
    cases hj : j.isP with
    | true => simpa [hj] using btw_frq r.1
    | false =>
      rw [r.2 hj]
      rfl
  have b : levB N (.tuple (ls.map frq)) = true := by
    simp only [levB, List.length_map, h.rl.len, decide_true, Bool.true_and]
    exact all_rw (R := fun t l => Amq t l) (fun t l r => btw_frq r) h.rl
  have ii : ∀ l : List Int, intsD (l.map .int) = some l := fun l => by
    induction l with
    | nil => rfl
    | cons i l ih => simp [intsD, ih]
  have c : shuB N.ps (.tuple (sh.map .int)) = true := by
    simp only [shuB, ii, Bool.and_eq_true, List.all_eq_true, decide_eq_true_eq]
    exact ⟨h.gt, h.pw⟩
  simp only [caseD, caseB, a, b, c, Bool.and_self]
theorem drawn_pu {N : Nt} (hN : N.ok) {as ls : List Rat} {sh : List Int} (hc : CsOk N as ls sh) : Pu WS (caseD as ls sh) := by
  have j7 := hN.j7
  have la := hc.ra.len
  have ll := hc.rl.len
  have tl : N.tops.length ≤ 7 := by
    have := List.length_filterMap_le Jt.top N.js
    unfold Nt.tops
    omega
  refine pu3 (pu_ask hN hc.ra) (put (fun z hz => ?_) (by rw [List.length_map]; omega)) (pu_ints (gate_small hN hc.gt) (by have := hc.sl; omega) [2])
  obtain ⟨a, ha, rfl⟩ := List.mem_map.mp hz
  obtain ⟨t, ht, r⟩ := hc.rl.right a ha
  refine pu_frq r ?_ []
  obtain ⟨j, hj, e⟩ := List.mem_filterMap.mp ht
  have ok := hN.js j hj
  cases j <;> simp [Jt.top] at e
  subst e
  simp only [Jt.ok] at ok
  omega

/-! ### the law -/
abbrev EK (ns : List Int) (s1 s2 s3 s4 s5 s6 s8 s9 s11 : Option Sv) : En := [some (.d (.list (ns.map .int))), s1, s2, s3, s4, s5, s6, none, s8, s9, none, s11]
def lookS : List Sm := [(.par [8, 9] [(.b1 .repr (.var 6)), (.call "_law_is_case" [(.var 3), (.var 6)])]),
    (.ite (.or (.leaf (.cmp .ne (.b1 .repr (.comp (.call "is_case" [(.var 3), (.var 6)]) (.name 10) (.rng1 (.con (.int 2))) [] [10])) (.b1 .repr (.lst [(.var 9), (.var 9)])))) (.leaf (.cmp .ne (.b1 .repr (.var 6)) (.var 8)))) [(.ret (.con (.bool false)))] [])]
def saidE : Ep := .said "_law_said" [("NoNet", (.tuple [(.str "net")]))] "is_case" [(.var 11), (.con .none)]
def badS : List Sm := [(.ite (.leaf (.cmp .ne saidE (.tup [(.con (.str "net"))]))) [(.ret (.con (.bool false)))] [])]
def badE : Ep := .lst [(.con .none), (.tup []), (.sl (.var 3) none (some (.con (.int 1)))), (.b1 .list (.var 3)), (.tup [(.ix (.var 3) (.con (.int 0))), (.tup [])]), (.tup [(.bin .mul (.ix (.var 3) (.con (.int 0))) (.con (.int 4))), (.ix (.var 3) (.con (.int 1)))]), (.var 4)]
def lapS : List Sm := [(.seto 2 (.call "_law_pen_of" [(.var 1)])),
    (.set 3 (.callp "_law_net" 2 [(.con (.int 7))])),
    (.set 4 (.callp "_law_case" 2 [(.var 3)])),
    (.ite (.leaf (.cmp .notN (.call "is_case" [(.var 3), (.var 4)]) (.con (.bool true)))) [(.ret (.con (.bool false)))] []),
    (.set 5 (.bin .add (.lst [(.callp "_law_odd" 2 []), (.b1 .list (.var 4)), (.bin .add (.var 4) (.tup [(.tup [])])), (.callp "_law_case" 2 [(.callp "_law_net" 2 [(.con (.int 4))])])]) (.callp "_law_near" 2 [(.var 3), (.var 4)]))),
    (.for_ (.name 6) (.seq (.bin .add (.var 5) (.comp (.callp "_law_bent" 2 [(.var 4)]) (.name 7) (.rng1 (.con (.int 12))) [] [7]))) lookS),
    (.for_ (.name 11) (.seq badE) badS)]
def cellIt : It' := .seq (.bin .add (.lst [(.call "_law_cell_at" [(.var 0), (.con (.int 0))])]) (.sl (.var 0) (some (.con (.int 1))) (some (.con (.int 3)))))
theorem law_body : b_law = [.for_ (.name 1) cellIt lapS, .ret (.con (.bool true))] := rfl
theorem be_repr {x : PyData} (h : Be WS x) : reprOk x = true := h.2.repr (by decide) (by decide)
theorem look_ok (ns : List Int) (s1 s2 s4 s5 s8 s9 s11 : Option Sv) (N : Nt) (hN : N.ok) (x : PyData) (hx : Be WS x) : ∃ s8' s9', exs (cf 15) lookS (EK ns s1 s2 (some (.d N.d)) s4 s5 (some (.d x)) s8 s9 s11) = some (.next, EK ns s1 s2 (some (.d N.d)) s4 s5 (some (.d x)) s8' s9' s11) := by
  have r := be_repr hx
  have d := c_lcase 12 N hN x hx.1
  have p := c_case 8 N hN x hx.1
  generalize caseB N x = a at *
  have rr : reprOk (.list [.bool a, .bool a]) = true := by cases a <;> decide +kernel
  generalize N.d = nd at *
  refine ⟨some (.d (.str x.shown)), some (.d (.bool a)), exs_next (ρ' := EK ns s1 s2 (some (.d nd)) s4 s5 (some (.d x)) (some (.d (.str x.shown))) (some (.d (.bool a))) s11) ?_ (exs_next (ρ' := EK ns s1 s2 (some (.d nd)) s4 s5 (some (.d x)) (some (.d (.str x.shown))) (some (.d (.bool a))) s11) ?_ rfl)⟩
  · simp [runF, endF, penOf, startE, exs, ex, ev, evs, evO, evT, evTs, evI, bnd, ret, setAll, b1D, b2D, truD, isi, ixD, seqD, cmp_eq, cmp_ne, cmp_lt, cmp_le, cmp_gt, cmp_ge, eqD_ii, eqD_ss, bin_add, bin_sub, sizeLine, at0, at1, at2, at3, at4, at5, at6, r, d]
  · have C := ev_compM (c := cf 15) (e := .call "is_case" [(.var 3), (.var 6)]) (tg := .name 10) (it := .rng1 (.con (.int 2))) (cs := []) (own := [10]) (ρ := EK ns s1 s2 (some (.d nd)) s4 s5 (some (.d x)) (some (.d (.str x.shown))) (some (.d (.bool a))) s11) (ρ1 := EK ns s1 s2 (some (.d nd)) s4 s5 (some (.d x)) (some (.d (.str x.shown))) (some (.d (.bool a))) s11) (d := fun (j : Nat) => .int (j : Int)) (as := List.range 2) (fun _ => .bool a) (by simp [notOwn]) (evI_rng rfl (by decide)) (by simp [notOwn]) (by simp) (fun q hq => by
      simp [stepC, runF, endF, penOf, startE, exs, ex, ev, evs, evO, evT, evTs, evI, bnd, ret, setAll, b1D, b2D, truD, isi, ixD, seqD, cmp_eq, cmp_ne, cmp_lt, cmp_le, cmp_gt, cmp_ge, eqD_ii, eqD_ss, bin_add, bin_sub, sizeLine, at0, at1, at2, at3, at4, at5, at6, bindT, wipeE, backE, p])
    have C' : (List.range 2).map (fun _ => PyData.bool a) = [.bool a, .bool a] := rfl
    rw [C'] at C
    have R := ev_b1 (o := .repr) C (y := .str (PyData.list [.bool a, .bool a]).shown) (by simp only [b1D, rr, if_true])
    have T : evT (cf 15) (.or (.leaf (.cmp .ne (.b1 .repr (.comp (.call "is_case" [(.var 3), (.var 6)]) (.name 10) (.rng1 (.con (.int 2))) [] [10])) (.b1 .repr (.lst [(.var 9), (.var 9)])))) (.leaf (.cmp .ne (.b1 .repr (.var 6)) (.var 8)))) (EK ns s1 s2 (some (.d nd)) s4 s5 (some (.d x)) (some (.d (.str x.shown))) (some (.d (.bool a))) s11) = some (false, EK ns s1 s2 (some (.d nd)) s4 s5 (some (.d x)) (some (.d (.str x.shown))) (some (.d (.bool a))) s11) := by
      refine evT_or (x := false) (y := false) (evT_leaf (ev_cmp R (y := .str (PyData.list [.bool a, .bool a]).shown) (ρ2 := EK ns s1 s2 (some (.d nd)) s4 s5 (some (.d x)) (some (.d (.str x.shown))) (some (.d (.bool a))) s11) (by simp [runF, endF, penOf, startE, exs, ex, ev, evs, evO, evT, evTs, evI, bnd, ret, setAll, b1D, b2D, truD, isi, ixD, seqD, cmp_eq, cmp_ne, cmp_lt, cmp_le, cmp_gt, cmp_ge, eqD_ii, eqD_ss, bin_add, bin_sub, sizeLine, at0, at1, at2, at3, at4, at5, at6, rr]) (by simp [runF, endF, penOf, startE, exs, ex, ev, evs, evO, evT, evTs, evI, bnd, ret, setAll, b1D, b2D, truD, isi, ixD, seqD, cmp_eq, cmp_ne, cmp_lt, cmp_le, cmp_gt, cmp_ge, eqD_ii, eqD_ss, bin_add, bin_sub, sizeLine, at0, at1, at2, at3, at4, at5, at6]))) fun _ => ?_
      simp [runF, endF, penOf, startE, exs, ex, ev, evs, evO, evT, evTs, evI, bnd, ret, setAll, b1D, b2D, truD, isi, ixD, seqD, cmp_eq, cmp_ne, cmp_lt, cmp_le, cmp_gt, cmp_ge, eqD_ii, eqD_ss, bin_add, bin_sub, sizeLine, at0, at1, at2, at3, at4, at5, at6, r]
    rw [ex_ite T]
    rfl
theorem said_no (ns : List Int) (s1 s2 s3 s4 s5 s6 s8 s9 : Option Sv) (x : PyData) (h : netB x = false) : exs (cf 15) badS (EK ns s1 s2 s3 s4 s5 s6 s8 s9 (some (.d x))) = some (.next, EK ns s1 s2 s3 s4 s5 s6 s8 s9 (some (.d x))) := by
  obtain ⟨c1, c2⟩ := no_net 8 x .none h
  have S : ev (cf 15) saidE (EK ns s1 s2 s3 s4 s5 s6 s8 s9 (some (.d x))) = some (.tuple [.str "net"], EK ns s1 s2 s3 s4 s5 s6 s8 s9 (some (.d x))) := by
    unfold saidE ev
    have es : evs (cf 15) [(.var 11), (.con .none)] (EK ns s1 s2 s3 s4 s5 s6 s8 s9 (some (.d x))) = some ([x, .none], EK ns s1 s2 s3 s4 s5 s6 s8 s9 (some (.d x))) := rfl
    rw [es, bnd_some]
    have c1' : (cf 15).call "is_case" none [x, .none] = none := c1
    have c2' : (cf 15).exc "is_case" [x, .none] = some "NoNet" := c2
    rw [c1', c2']
    rfl
  have T : ev (cf 15) (.cmp .ne saidE (.tup [(.con (.str "net"))])) (EK ns s1 s2 s3 s4 s5 s6 s8 s9 (some (.d x))) = some (.bool false, EK ns s1 s2 s3 s4 s5 s6 s8 s9 (some (.d x))) :=
    ev_cmp S (y := .tuple [.str "net"]) (ρ2 := EK ns s1 s2 s3 s4 s5 s6 s8 s9 (some (.d x))) rfl (by decide +kernel)
  unfold badS
  refine exs_next ?_ rfl
  rw [ex_ite (evT_leaf T)]
  rfl
def badL (N : Nt) (x : PyData) : List PyData := [.none, .tuple [], .tuple [.tuple (N.js.map Jt.d)], .list [.tuple (N.js.map Jt.d), .tuple (N.ps.map Pt.d)], .tuple [.tuple (N.js.map Jt.d), .tuple []], .tuple [.tuple (List.replicate 4 (N.js.map Jt.d)).flatten, .tuple (N.ps.map Pt.d)], x]
theorem bad_no {N : Nt} (hN : N.ok) {as ls : List Rat} {sh : List Int} : ∀ y ∈ badL N (caseD as ls sh), netB y = false := by
  intro y hy
  have j2 := hN.j2
  simp only [badL, List.mem_cons, List.not_mem_nil, or_false] at hy
  rcases hy with rfl | rfl | rfl | rfl | rfl | rfl | rfl
  · rfl
  · rfl
  · rfl
  · rfl
  · rw [netB_eq]
    simp
  · rw [netB_eq]
    have : ¬ (List.replicate 4 (N.js.map Jt.d)).flatten.length ≤ 7 := by
      simp [List.replicate]
      omega
    rw [decide_eq_false this]
    simp
  · rfl
theorem bad_ev (ns : List Int) (s1 s2 s5 s6 s8 s9 s11 : Option Sv) (N : Nt) (hN : N.ok) (x : PyData) : ev (cf 15) badE (EK ns s1 s2 (some (.d N.d)) (some (.d x)) s5 s6 s8 s9 s11) = some (.list (badL N x), EK ns s1 s2 (some (.d N.d)) (some (.d x)) s5 s6 s8 s9 s11) := by
  have j2 := hN.j2
  have j7 := hN.j7
  have m : binD .mul (.tuple (N.js.map Jt.d)) (.int 4) = some (.tuple (List.replicate 4 (N.js.map Jt.d)).flatten) := by
    have : (!(N.js.map Jt.d).isEmpty) = true ∧ (2 : Int) ≤ 4 ∧ (4 : Int) ≤ 1000 ∧ (N.js.map Jt.d).length ≤ 1000 := by
      refine ⟨?_, by decide, by decide, by rw [List.length_map]; omega⟩
      cases h : N.js with
      | nil => rw [h] at j2; simp at j2
      | cons _ _ => rfl
    simp only [binD, if_pos this]
    rfl
  have s : slD N.d none (some 1) = some (.tuple [.tuple (N.js.map Jt.d)]) := rfl
  unfold badL Nt.d at *
  generalize N.js.map Jt.d = J at *
  generalize N.ps.map Pt.d = P at *
  simp [runF, endF, penOf, startE, exs, ex, ev, evs, evO, evT, evTs, evI, bnd, ret, setAll, b1D, b2D, truD, isi, ixD, seqD, cmp_eq, cmp_ne, cmp_lt, cmp_le, cmp_gt, cmp_ge, eqD_ii, eqD_ss, bin_add, bin_sub, sizeLine, at0, at1, at2, at3, at4, at5, at6, badE, partD, s, m]
theorem bents (ns : List Int) (s1 s3 s5 s6 s8 s9 s11 : Option Sv) (p0 p1 p2 : Int) (h0 : 0 ≤ p0) (x : PyData) (hx : Pu WS x) : ∃ (ys : List PyData) (q0 q2 : Int), ys.length = 12 ∧ (∀ y ∈ ys, Be WS y) ∧ 0 ≤ q0 ∧ ev (cf 15) (.comp (.callp "_law_bent" 2 [(.var 4)]) (.name 7) (.rng1 (.con (.int 12))) [] [7]) (EK ns s1 (some (.own false (pen p0 p1 p2))) s3 (some (.d x)) s5 s6 s8 s9 s11) = some (.list ys, EK ns s1 (some (.own false (pen q0 p1 q2))) s3 (some (.d x)) s5 s6 s8 s9 s11) := by
  obtain ⟨ys, ρ', e, l, p, r0, r2, hr, rfl⟩ := ev_compI (c := cf 15) (e := .callp "_law_bent" 2 [(.var 4)]) (tg := .name 7) (it := .rng1 (.con (.int 12))) (cs := []) (own := [7]) (ρ := EK ns s1 (some (.own false (pen p0 p1 p2))) s3 (some (.d x)) s5 s6 s8 s9 s11) (ρ1 := EK ns s1 (some (.own false (pen p0 p1 p2))) s3 (some (.d x)) s5 s6 s8 s9 s11) (xs := rngD 0 12) (fun ρ => ∃ r0 r2, 0 ≤ r0 ∧ ρ = EK ns s1 (some (.own false (pen r0 p1 r2))) s3 (some (.d x)) s5 s6 s8 s9 s11) (Be WS) (by simp [notOwn]) (by simp [runF, endF, penOf, startE, exs, ex, ev, evs, evO, evT, evTs, evI, bnd, ret, setAll, b1D, b2D, truD, isi, ixD, seqD, cmp_eq, cmp_ne, cmp_lt, cmp_le, cmp_gt, cmp_ge, eqD_ii, eqD_ss, bin_add, bin_sub, sizeLine, at0, at1, at2, at3, at4, at5, at6, smallI]) (by simp [notOwn]) (by simp [rngD]) ⟨p0, p2, h0, rfl⟩ (fun z hz ρ2 => by
    rintro ⟨r0, r2, hr, rfl⟩
    obtain ⟨y, t0, t2, by_, ht, e⟩ := c_bent WS ws50 7 r0 p1 r2 x hr hx
    have e' : CI 15 "_law_bent" (some [.int r0, .int p1, .int r2]) [x] = some (y, some [.int t0, .int p1, .int t2]) := e
    refine ⟨y, EK ns s1 (some (.own false (pen t0 p1 t2))) s3 (some (.d x)) s5 s6 s8 s9 s11, ?_, by_, t0, t2, ht, rfl⟩
    simp [stepC, runF, endF, penOf, startE, exs, ex, ev, evs, evO, evT, evTs, evI, bnd, ret, setAll, b1D, b2D, truD, isi, ixD, seqD, cmp_eq, cmp_ne, cmp_lt, cmp_le, cmp_gt, cmp_ge, eqD_ii, eqD_ss, bin_add, bin_sub, sizeLine, at0, at1, at2, at3, at4, at5, at6, bindT, wipeE, backE, e'])
  exact ⟨ys, r0, r2, by rw [l]; simp [rngD], p, hr, e⟩

theorem lap (ns : List Int) (i : Int) (s2 s3 s4 s5 s6 s8 s9 s11 : Option Sv) : ∃ s2' s3' s4' s5' s6' s8' s9' s11', exs (cf 15) lapS (EK ns (some (.d (.int i))) s2 s3 s4 s5 s6 s8 s9 s11) = some (.next, EK ns (some (.d (.int i))) s2' s3' s4' s5' s6' s8' s9' s11') := by
  obtain ⟨p0, p1, p2, hp, eb⟩ := c_pen 14 i
  obtain ⟨N, a0, a2, hN, ha, en⟩ := c_gnt 11 7 p0 p1 p2 hp (by decide)
  obtain ⟨as, ls, sh, b0, b2, hc, hb, ec⟩ := c_gcase 12 a0 p1 a2 ha N hN
  obtain ⟨o, c0, c2, ho, hc0, eo⟩ := c_odd 12 b0 p1 b2 hb
  obtain ⟨M, d0, d2, hM, hd, em⟩ := c_gnt 11 4 c0 p1 c2 hc0 (by decide)
  obtain ⟨as', ls', sh', f0, f2, hc', hf, ef⟩ := c_gcase 12 d0 p1 d2 hd M hM
  obtain ⟨zs, g0, g2, lz, gz, hg, ez⟩ := c_near 12 f0 p1 f2 hf N hN as ls sh hc
  have pX := drawn_pu hN hc
  have bY := be_pu ws50 (drawn_pu hM hc')
  have bO := be_odd o ho WS
  have ok := c_case 8 N hN (caseD as ls sh) (be_pu ws50 pX).1
  rw [drawn_case hc] at ok
  have bad := bad_no hN (as := as) (ls := ls) (sh := sh)
  obtain ⟨xs, hxs⟩ : ∃ xs, xs = [PyData.tuple (as.map frq), .tuple (ls.map frq), .tuple (sh.map .int)] := ⟨_, rfl⟩
  have hX : caseD as ls sh = .tuple xs := by rw [hxs]
  have pxs : ∀ z ∈ xs, Pu [20, 2] z := by
    rcases pX with h | ⟨ys, e, _, h⟩
    · cases h
    · rw [hX] at e
      cases e
      exact h
  have lx : xs.length = 3 := by rw [hxs]; rfl
  rw [hX] at pX ok ez bad ec
  generalize caseD as' ls' sh' = Y at *
  have bL : Be WS (.list xs) := (be_all (w := 3) (ws := [20, 2]) ws50 pxs (by omega)).2
  have bT : Be WS (.tuple (xs ++ [.tuple []])) := (be_all (w := 3) (ws := [20, 2]) ws50 (fun z hz => by
    rcases List.mem_append.mp hz with h | h
    · exact pxs z h
    · simp only [List.mem_cons, List.not_mem_nil, or_false] at h
      rw [h]
      exact put (fun _ h => nomatch h) (by simp)) (by simp; omega)).1
  have t0 := tcat (xs := xs) (ys := [.tuple []]) (by simp; omega)
  have t1 := lcat (xs := [o, .list xs, .tuple (xs ++ [.tuple []]), Y]) (ys := zs) (by simp; omega)
  obtain ⟨T0, hT0⟩ : ∃ T0, T0 = [o, .list xs, .tuple (xs ++ [.tuple []]), Y] ++ zs := ⟨_, rfl⟩
  have gT : ∀ z ∈ T0, Be WS z := fun z hz => by
    rw [hT0] at hz
    rcases List.mem_append.mp hz with h | h
    · simp only [List.mem_cons, List.not_mem_nil, or_false] at h
      rcases h with rfl | rfl | rfl | rfl
      · exact bO
      · exact bL
      · exact bT
      · exact bY
    · exact gz z h
  have lT : T0.length ≤ 120 := by rw [hT0]; simp; omega
  rw [← hT0] at t1
  obtain ⟨ys, h0, h2, ly, gy, hh, ey⟩ := bents ns (some (.d (.int i))) (some (.d N.d)) (some (.d (.list T0))) s6 s8 s9 s11 g0 p1 g2 hg (.tuple xs) pX
  have t2 := lcat (xs := T0) (ys := ys) (by omega)
  have gA : ∀ z ∈ T0 ++ ys, Be WS z := fun z hz => by
    rcases List.mem_append.mp hz with h | h
    · exact gT z h
    · exact gy z h
  generalize T0 ++ ys = T at *
  obtain ⟨ρ', e, s6', s8', s9', rfl⟩ := forI_inv (step := fun x ρ => match bindT (.name 6) x ρ with
      | none => none
      | some ρ => exs (cf 15) lookS ρ) (fun ρ => ∃ s6 s8 s9, ρ = EK ns (some (.d (.int i))) (some (.own false (pen h0 p1 h2))) (some (.d N.d)) (some (.d (.tuple xs))) (some (.d (.list T0))) s6 s8 s9 s11) (xs := T) (fun x hx ρ => by
      rintro ⟨s6, s8, s9, rfl⟩
      obtain ⟨s8', s9', e⟩ := look_ok ns (some (.d (.int i))) (some (.own false (pen h0 p1 h2))) (some (.d (.tuple xs))) (some (.d (.list T0))) s8 s9 s11 N hN x (gA x hx)
      exact ⟨_, e, _, _, _, rfl⟩) _ ⟨s6, s8, s9, rfl⟩
  obtain ⟨ρ', e2, s11', rfl⟩ := forI_inv (step := fun x ρ => match bindT (.name 11) x ρ with
      | none => none
      | some ρ => exs (cf 15) badS ρ) (fun ρ => ∃ s11, ρ = EK ns (some (.d (.int i))) (some (.own false (pen h0 p1 h2))) (some (.d N.d)) (some (.d (.tuple xs))) (some (.d (.list T0))) s6' s8' s9' s11) (xs := badL N (.tuple xs)) (fun x hx ρ => by
      rintro ⟨s11, rfl⟩
      exact ⟨_, said_no ns (some (.d (.int i))) (some (.own false (pen h0 p1 h2))) (some (.d N.d)) (some (.d (.tuple xs))) (some (.d (.list T0))) s6' s8' s9' x (bad x hx), _, rfl⟩) _ ⟨s11, rfl⟩
  have B := bad_ev ns (some (.d (.int i))) (some (.own false (pen h0 p1 h2))) (some (.d (.list T0))) s6' s8' s9' s11 N hN (.tuple xs)
  have eb' : CI 15 "_law_pen_of" none [.int i] = some (.list [.int p0, .int p1, .int p2], none) := eb
  have en' : CI 15 "_law_net" (some [.int p0, .int p1, .int p2]) [.int 7] = some (N.d, some [.int a0, .int p1, .int a2]) := en
  have ec' : CI 15 "_law_case" (some [.int a0, .int p1, .int a2]) [N.d] = some (.tuple xs, some [.int b0, .int p1, .int b2]) := ec
  have eo' : CI 15 "_law_odd" (some [.int b0, .int p1, .int b2]) [] = some (o, some [.int c0, .int p1, .int c2]) := eo
  have em' : CI 15 "_law_net" (some [.int c0, .int p1, .int c2]) [.int 4] = some (M.d, some [.int d0, .int p1, .int d2]) := em
  have ef' : CI 15 "_law_case" (some [.int d0, .int p1, .int d2]) [M.d] = some (Y, some [.int f0, .int p1, .int f2]) := ef
  have ez' : CI 15 "_law_near" (some [.int f0, .int p1, .int f2]) [N.d, .tuple xs] = some (.list zs, some [.int g0, .int p1, .int g2]) := ez
  have ok' : CI 15 "is_case" none [N.d, .tuple xs] = some (.bool true, none) := ok
  generalize N.d = nd at *
  generalize M.d = md at *
  generalize badL N (.tuple xs) = bl at *
  refine ⟨_, _, _, _, _, _, _, _, exs_next (ρ' := EK ns (some (.d (.int i))) (some (.own false (pen p0 p1 p2))) s3 s4 s5 s6 s8 s9 s11) ?_ (exs_next (ρ' := EK ns (some (.d (.int i))) (some (.own false (pen a0 p1 a2))) (some (.d nd)) s4 s5 s6 s8 s9 s11) ?_ (exs_next (ρ' := EK ns (some (.d (.int i))) (some (.own false (pen b0 p1 b2))) (some (.d nd)) (some (.d (.tuple xs))) s5 s6 s8 s9 s11) ?_ (exs_next (ρ' := EK ns (some (.d (.int i))) (some (.own false (pen b0 p1 b2))) (some (.d nd)) (some (.d (.tuple xs))) s5 s6 s8 s9 s11) ?_ (exs_next (ρ' := EK ns (some (.d (.int i))) (some (.own false (pen g0 p1 g2))) (some (.d nd)) (some (.d (.tuple xs))) (some (.d (.list T0))) s6 s8 s9 s11) ?_ (exs_next (ex_for (xs := T) (ρ1 := EK ns (some (.d (.int i))) (some (.own false (pen h0 p1 h2))) (some (.d nd)) (some (.d (.tuple xs))) (some (.d (.list T0))) s6 s8 s9 s11) (evI_seqL (ev_bin (ρ1 := EK ns (some (.d (.int i))) (some (.own false (pen g0 p1 g2))) (some (.d nd)) (some (.d (.tuple xs))) (some (.d (.list T0))) s6 s8 s9 s11) rfl ey t2)) e) (exs_next (ex_for (evI_seqL B) e2) rfl))))))⟩
  · exact ex_seto (i := 2) (xs := pen p0 p1 p2) (ρ1 := EK ns (some (.d (.int i))) s2 s3 s4 s5 s6 s8 s9 s11) (ev_call1 (ρ1 := EK ns (some (.d (.int i))) s2 s3 s4 s5 s6 s8 s9 s11) rfl eb') (by simp)
  · simp [runF, endF, penOf, startE, exs, ex, ev, evs, evO, evT, evTs, evI, bnd, ret, setAll, b1D, b2D, truD, isi, ixD, seqD, cmp_eq, cmp_ne, cmp_lt, cmp_le, cmp_gt, cmp_ge, eqD_ii, eqD_ss, bin_add, bin_sub, sizeLine, at0, at1, at2, at3, at4, at5, at6, en']
  · simp [runF, endF, penOf, startE, exs, ex, ev, evs, evO, evT, evTs, evI, bnd, ret, setAll, b1D, b2D, truD, isi, ixD, seqD, cmp_eq, cmp_ne, cmp_lt, cmp_le, cmp_gt, cmp_ge, eqD_ii, eqD_ss, bin_add, bin_sub, sizeLine, at0, at1, at2, at3, at4, at5, at6, ec']
  · simp [runF, endF, penOf, startE, exs, ex, ev, evs, evO, evT, evTs, evI, bnd, ret, setAll, b1D, b2D, truD, isi, ixD, seqD, cmp_eq, cmp_ne, cmp_lt, cmp_le, cmp_gt, cmp_ge, eqD_ii, eqD_ss, bin_add, bin_sub, sizeLine, at0, at1, at2, at3, at4, at5, at6, ok', cmpD]
  · refine ex_set (i := 5) (ρ1 := EK ns (some (.d (.int i))) (some (.own false (pen g0 p1 g2))) (some (.d nd)) (some (.d (.tuple xs))) s5 s6 s8 s9 s11) (ev_bin (ρ1 := EK ns (some (.d (.int i))) (some (.own false (pen f0 p1 f2))) (some (.d nd)) (some (.d (.tuple xs))) s5 s6 s8 s9 s11) ?_ ?_ t1) (by simp)
    · simp [runF, endF, penOf, startE, exs, ex, ev, evs, evO, evT, evTs, evI, bnd, ret, setAll, b1D, b2D, truD, isi, ixD, seqD, cmp_eq, cmp_ne, cmp_lt, cmp_le, cmp_gt, cmp_ge, eqD_ii, eqD_ss, bin_add, bin_sub, sizeLine, at0, at1, at2, at3, at4, at5, at6, eo', em', ef', t0]
    · simp [runF, endF, penOf, startE, exs, ex, ev, evs, evO, evT, evTs, evI, bnd, ret, setAll, b1D, b2D, truD, isi, ixD, seqD, cmp_eq, cmp_ne, cmp_lt, cmp_le, cmp_gt, cmp_ge, eqD_ii, eqD_ss, bin_add, bin_sub, sizeLine, at0, at1, at2, at3, at4, at5, at6, ez']
theorem cells (k : Nat) (ns : List Int) (h : ns.length ≤ 63) (r : En) : ∃ cs : List Int, evI (cf (k + 1)) cellIt (dl ns :: r) = some (cs.map .int, dl ns :: r) := by
  have c := c_cell k ns 0
  refine ⟨ns.getD 0 0 :: (ns.drop (HT.sIx ns.length 0 (some 1))).take (HT.sIx ns.length ns.length (some 3) - HT.sIx ns.length 0 (some 1)), ?_⟩
  have e : slD (.list (ns.map .int)) (some 1) (some 3) = some (.list (((ns.drop (HT.sIx ns.length 0 (some 1))).take (HT.sIx ns.length ns.length (some 3) - HT.sIx ns.length 0 (some 1))).map .int)) := by
    simp only [slD, cutD, List.length_map, List.map_take, List.map_drop]
  have l : ((ns.drop (HT.sIx ns.length 0 (some 1))).take (HT.sIx ns.length ns.length (some 3) - HT.sIx ns.length 0 (some 1))).length ≤ 63 := Nat.le_trans (List.length_take_le' ..) (Nat.le_trans (by rw [List.length_drop]; omega) h)
  generalize (ns.drop (HT.sIx ns.length 0 (some 1))).take (HT.sIx ns.length ns.length (some 3) - HT.sIx ns.length 0 (some 1)) = cs at *
  have c' : CI (k + 1) "_law_cell_at" none [.list (ns.map .int), .int 0] = some (.int (ns.getD 0 0), none) := c
  have l2 : [PyData.int (ns.getD 0 0)].length + (cs.map PyData.int).length ≤ sizeLine := by simp [sizeLine]; omega
  have S : ev (cf (k + 1)) (.sl (.var 0) (some (.con (.int 1))) (some (.con (.int 3)))) (dl ns :: r) = ret (slD (.list (ns.map .int)) (some 1) (some 3)) (dl ns :: r) := rfl
  have Lf : ev (cf (k + 1)) (.lst [(.call "_law_cell_at" [(.var 0), (.con (.int 0))])]) (dl ns :: r) = some (.list [.int (ns.getD 0 0)], dl ns :: r) := by simp [runF, endF, penOf, startE, exs, ex, ev, evs, evO, evT, evTs, evI, bnd, ret, setAll, b1D, b2D, truD, isi, ixD, seqD, cmp_eq, cmp_ne, cmp_lt, cmp_le, cmp_gt, cmp_ge, eqD_ii, eqD_ss, bin_add, bin_sub, sizeLine, at0, at1, at2, at3, at4, at5, at6, c']
  rw [e] at S
  show bnd (bnd (ev (cf (k + 1)) _ _) (fun x ρ => bnd (ev (cf (k + 1)) _ ρ) fun y ρ => ret (binD .add x y) ρ)) (fun x ρ => ret (seqD x) ρ) = _
  rw [Lf, bnd_some, S]
  simp only [ret, bnd, binD, if_pos l2, seqD]
  rfl
theorem law_true (ns : List Int) (h : ns.length ≤ 63) : callI glob FU tab 16 "law" none [.list (ns.map .int)] = some (.bool true, none) := by
  rw [← CI_eq, u_law]
  obtain ⟨cs, hc⟩ := cells 14 ns h [none, none, none, none, none, none, none, none, none, none, none]
  obtain ⟨ρ', e, t1, t2, t3, t4, t5, t6, t8, t9, t11, rfl⟩ := forI_inv (step := fun x ρ => match bindT (.name 1) x ρ with
      | none => none
      | some ρ => exs (cf 15) lapS ρ) (fun ρ => ∃ s1 s2 s3 s4 s5 s6 s8 s9 s11, ρ = EK ns s1 s2 s3 s4 s5 s6 s8 s9 s11) (xs := cs.map .int) (fun x hx ρ => by
      rintro ⟨s1, s2, s3, s4, s5, s6, s8, s9, s11, rfl⟩
      obtain ⟨i, rfl⟩ := int_mem hx
      obtain ⟨t2, t3, t4, t5, t6, t8, t9, t11, e⟩ := lap ns i s2 s3 s4 s5 s6 s8 s9 s11
      exact ⟨_, e, _, t2, t3, t4, t5, t6, t8, t9, t11, rfl⟩) _ ⟨none, none, none, none, none, none, none, none, none, rfl⟩
  refine run_ret (ρ := EK ns t1 t2 t3 t4 t5 t6 t8 t9 t11) rfl rfl rfl ?_
  show exs (cf 15) b_law (EK ns none none none none none none none none none) = _
  rw [law_body]
  exact exs_next (ex_for hc e) (exs_ret rfl)

/-! ### what the head gives -/
instance tblI : Tbl := ⟨[(460, ("law" ++ ".<locals>.") ++ "<lambda>")], 0⟩
def csL : List (Addr × Addr) := [(462, 460)]
theorem sc_law_said : FnScope ["_law_call", "_law_some", "_law_words", "e"] ["_law_call"] (defScope (topS 65)) := ⟨rfl, rfl, rfl, by decide +kernel, rfl, by decide +kernel, by decide +kernel⟩
theorem r_law_said_NoNet : runT (tcX ["_law_call", "_law_some", "_law_words", "e"] (defScope (topS 65)) [1] (ecX "e" 3 [(Str.ofString "NoNet", true), (Str.ofString "NoCase", false), (Str.ofString "NoText", false), (Str.ofString "NoReadings", false), (Str.ofString "NoFraction", false), (Str.ofString "NoAmount", false), (Str.ofString "NoMeters", false), (Str.ofString "NoShut", false), (Str.ofString "NoPlace", false), (Str.ofString "NoJoint", false), (Str.ofString "NoPipe", false), (Str.ofString "NoPlan", false), (Str.ofString "NoLevels", false), (Str.ofString "NoTariff", false), (Str.ofString "NotNow", false), (Str.ofString "NoDeed", false), (Str.ofString "NoLine", false), (Str.ofString "ValueError", true)] [])) (suiteOf (topS 65)) (rhoS 4 3) = some (.ret (.tuple [.str "net"])) := by kernel_rfl
section
theorem all_mk {K : PySem.W.Frag} {w : World} {h : Heap} {mg : Str → Option Value} (X : K.In h) (G : h.Ns mainGlobals mg)
    {fa0 : Addr} {od0 an0 : Option Addr} {sl0 : Array (Option Value)} {oc0 kV0 dc0 pm0 cd0 ct0 : Value}
    {fa1 : Addr} {od1 an1 : Option Addr} {sl1 : Array (Option Value)} {oc1 kV1 dc1 pm1 cd1 ct1 : Value}
    {fa2 : Addr} {od2 an2 : Option Addr} {sl2 : Array (Option Value)} {oc2 kV2 dc2 pm2 cd2 ct2 : Value}
    {fa3 : Addr} {od3 an3 : Option Addr} {sl3 : Array (Option Value)} {oc3 kV3 dc3 pm3 cd3 ct3 : Value}
    {fa4 : Addr} {od4 an4 : Option Addr} {sl4 : Array (Option Value)} {oc4 kV4 dc4 pm4 cd4 ct4 : Value}
    {fa5 : Addr} {od5 an5 : Option Addr} {sl5 : Array (Option Value)} {oc5 kV5 dc5 pm5 cd5 ct5 : Value}
    {fa6 : Addr} {od6 an6 : Option Addr} {sl6 : Array (Option Value)} {oc6 kV6 dc6 pm6 cd6 ct6 : Value}
    {fa7 : Addr} {od7 an7 : Option Addr} {sl7 : Array (Option Value)} {oc7 kV7 dc7 pm7 cd7 ct7 : Value}
    {fa8 : Addr} {od8 an8 : Option Addr} {sl8 : Array (Option Value)} {oc8 kV8 dc8 pm8 cd8 ct8 : Value}
    {fa9 : Addr} {od9 an9 : Option Addr} {sl9 : Array (Option Value)} {oc9 kV9 dc9 pm9 cd9 ct9 : Value}
    {fa10 : Addr} {od10 an10 : Option Addr} {sl10 : Array (Option Value)} {oc10 kV10 dc10 pm10 cd10 ct10 : Value}
    {fa11 : Addr} {od11 an11 : Option Addr} {sl11 : Array (Option Value)} {oc11 kV11 dc11 pm11 cd11 ct11 : Value}
    {fa12 : Addr} {od12 an12 : Option Addr} {sl12 : Array (Option Value)} {oc12 kV12 dc12 pm12 cd12 ct12 : Value}
    {fa13 : Addr} {od13 an13 : Option Addr} {sl13 : Array (Option Value)} {oc13 kV13 dc13 pm13 cd13 ct13 : Value}
    {fa14 : Addr} {od14 an14 : Option Addr} {sl14 : Array (Option Value)} {oc14 kV14 dc14 pm14 cd14 ct14 : Value}
    {fa15 : Addr} {od15 an15 : Option Addr} {sl15 : Array (Option Value)} {oc15 kV15 dc15 pm15 cd15 ct15 : Value}
    {fa16 : Addr} {od16 an16 : Option Addr} {sl16 : Array (Option Value)} {oc16 kV16 dc16 pm16 cd16 ct16 : Value}
    {fa17 : Addr} {od17 an17 : Option Addr} {sl17 : Array (Option Value)} {oc17 kV17 dc17 pm17 cd17 ct17 : Value}
    {fa18 : Addr} {od18 an18 : Option Addr} {sl18 : Array (Option Value)} {oc18 kV18 dc18 pm18 cd18 ct18 : Value}
    {fa19 : Addr} {od19 an19 : Option Addr} {sl19 : Array (Option Value)} {oc19 kV19 dc19 pm19 cd19 ct19 : Value}
    {fa20 : Addr} {od20 an20 : Option Addr} {sl20 : Array (Option Value)} {oc20 kV20 dc20 pm20 cd20 ct20 : Value}
    {fa21 : Addr} {od21 an21 : Option Addr} {sl21 : Array (Option Value)} {oc21 kV21 dc21 pm21 cd21 ct21 : Value}
    {fa22 : Addr} {od22 an22 : Option Addr} {sl22 : Array (Option Value)} {oc22 kV22 dc22 pm22 cd22 ct22 : Value}
    {fa23 : Addr} {od23 an23 : Option Addr} {sl23 : Array (Option Value)} {oc23 kV23 dc23 pm23 cd23 ct23 : Value}
    {fa24 : Addr} {od24 an24 : Option Addr} {sl24 : Array (Option Value)} {oc24 kV24 dc24 pm24 cd24 ct24 : Value}
    {fa25 : Addr} {od25 an25 : Option Addr} {sl25 : Array (Option Value)} {oc25 kV25 dc25 pm25 cd25 ct25 : Value}
    {fa26 : Addr} {od26 an26 : Option Addr} {sl26 : Array (Option Value)} {oc26 kV26 dc26 pm26 cd26 ct26 : Value}
    {fa27 : Addr} {od27 an27 : Option Addr} {sl27 : Array (Option Value)} {oc27 kV27 dc27 pm27 cd27 ct27 : Value}
    {fa28 : Addr} {od28 an28 : Option Addr} {sl28 : Array (Option Value)} {oc28 kV28 dc28 pm28 cd28 ct28 : Value}
    {fa29 : Addr} {od29 an29 : Option Addr} {sl29 : Array (Option Value)} {oc29 kV29 dc29 pm29 cd29 ct29 : Value}
    {fa30 : Addr} {od30 an30 : Option Addr} {sl30 : Array (Option Value)} {oc30 kV30 dc30 pm30 cd30 ct30 : Value}
    {fa31 : Addr} {od31 an31 : Option Addr} {sl31 : Array (Option Value)} {oc31 kV31 dc31 pm31 cd31 ct31 : Value}
    {fa32 : Addr} {od32 an32 : Option Addr} {sl32 : Array (Option Value)} {oc32 kV32 dc32 pm32 cd32 ct32 : Value}
    {fa33 : Addr} {od33 an33 : Option Addr} {sl33 : Array (Option Value)} {oc33 kV33 dc33 pm33  ct33 : Value}
    {fa34 : Addr} {od34 an34 : Option Addr} {sl34 : Array (Option Value)} {oc34 kV34 dc34 pm34 cd34 ct34 : Value}
    (a0 : PySem.W.nsIn K mainGlobals "is_whole" = some (some (.ref fa0))) (l0 : K.lookup fa0 = some ⟨oc0, od0, .func (PySem.W.fnOf "is_whole" "is_whole" (defArgs (topS 21)) (defBody (topS 21)) (defScope (topS 21)) .none kV0 dc0 pm0 an0 cd0 ct0), sl0⟩) (c0 : PySem.W.codeIn K cd0 "is_whole" = true) (k0 : PySem.W.keepIn K (.ref fa0) = true)
    (a1 : PySem.W.nsIn K mainGlobals "common" = some (some (.ref fa1))) (l1 : K.lookup fa1 = some ⟨oc1, od1, .func (PySem.W.fnOf "common" "common" (defArgs (topS 22)) (defBody (topS 22)) (defScope (topS 22)) .none kV1 dc1 pm1 an1 cd1 ct1), sl1⟩) (c1 : PySem.W.codeIn K cd1 "common" = true) (k1 : PySem.W.keepIn K (.ref fa1) = true)
    (a2 : PySem.W.nsIn K mainGlobals "is_fraction" = some (some (.ref fa2))) (l2 : K.lookup fa2 = some ⟨oc2, od2, .func (PySem.W.fnOf "is_fraction" "is_fraction" (defArgs (topS 23)) (defBody (topS 23)) (defScope (topS 23)) .none kV2 dc2 pm2 an2 cd2 ct2), sl2⟩) (c2 : PySem.W.codeIn K cd2 "is_fraction" = true) (k2 : PySem.W.keepIn K (.ref fa2) = true)
    (a3 : PySem.W.nsIn K mainGlobals "is_between" = some (some (.ref fa3))) (l3 : K.lookup fa3 = some ⟨oc3, od3, .func (PySem.W.fnOf "is_between" "is_between" (defArgs (topS 24)) (defBody (topS 24)) (defScope (topS 24)) .none kV3 dc3 pm3 an3 cd3 ct3), sl3⟩) (c3 : PySem.W.codeIn K cd3 "is_between" = true) (k3 : PySem.W.keepIn K (.ref fa3) = true)
    (a4 : PySem.W.nsIn K mainGlobals "is_number" = some (some (.ref fa4))) (l4 : K.lookup fa4 = some ⟨oc4, od4, .func (PySem.W.fnOf "is_number" "is_number" (defArgs (topS 36)) (defBody (topS 36)) (defScope (topS 36)) .none kV4 dc4 pm4 an4 cd4 ct4), sl4⟩) (c4 : PySem.W.codeIn K cd4 "is_number" = true) (k4 : PySem.W.keepIn K (.ref fa4) = true)
    (a5 : PySem.W.nsIn K mainGlobals "is_place_joint" = some (some (.ref fa5))) (l5 : K.lookup fa5 = some ⟨oc5, od5, .func (PySem.W.fnOf "is_place_joint" "is_place_joint" (defArgs (topS 37)) (defBody (topS 37)) (defScope (topS 37)) .none kV5 dc5 pm5 an5 cd5 ct5), sl5⟩) (c5 : PySem.W.codeIn K cd5 "is_place_joint" = true) (k5 : PySem.W.keepIn K (.ref fa5) = true)
    (a6 : PySem.W.nsIn K mainGlobals "is_joint" = some (some (.ref fa6))) (l6 : K.lookup fa6 = some ⟨oc6, od6, .func (PySem.W.fnOf "is_joint" "is_joint" (defArgs (topS 38)) (defBody (topS 38)) (defScope (topS 38)) .none kV6 dc6 pm6 an6 cd6 ct6), sl6⟩) (c6 : PySem.W.codeIn K cd6 "is_joint" = true) (k6 : PySem.W.keepIn K (.ref fa6) = true)
    (a7 : PySem.W.nsIn K mainGlobals "is_pipe" = some (some (.ref fa7))) (l7 : K.lookup fa7 = some ⟨oc7, od7, .func (PySem.W.fnOf "is_pipe" "is_pipe" (defArgs (topS 39)) (defBody (topS 39)) (defScope (topS 39)) .none kV7 dc7 pm7 an7 cd7 ct7), sl7⟩) (c7 : PySem.W.codeIn K cd7 "is_pipe" = true) (k7 : PySem.W.keepIn K (.ref fa7) = true)
    (a8 : PySem.W.nsIn K mainGlobals "is_net" = some (some (.ref fa8))) (l8 : K.lookup fa8 = some ⟨oc8, od8, .func (PySem.W.fnOf "is_net" "is_net" (defArgs (topS 40)) (defBody (topS 40)) (defScope (topS 40)) .none kV8 dc8 pm8 an8 cd8 ct8), sl8⟩) (c8 : PySem.W.codeIn K cd8 "is_net" = true) (k8 : PySem.W.keepIn K (.ref fa8) = true)
    (a9 : PySem.W.nsIn K mainGlobals "need_net" = some (some (.ref fa9))) (l9 : K.lookup fa9 = some ⟨oc9, od9, .func (PySem.W.fnOf "need_net" "need_net" (defArgs (topS 41)) (defBody (topS 41)) (defScope (topS 41)) .none kV9 dc9 pm9 an9 cd9 ct9), sl9⟩) (c9 : PySem.W.codeIn K cd9 "need_net" = true) (k9 : PySem.W.keepIn K (.ref fa9) = true)
    (a10 : PySem.W.nsIn K mainGlobals "tanks_of" = some (some (.ref fa10))) (l10 : K.lookup fa10 = some ⟨oc10, od10, .func (PySem.W.fnOf "tanks_of" "tanks_of" (defArgs (topS 42)) (defBody (topS 42)) (defScope (topS 42)) .none kV10 dc10 pm10 an10 cd10 ct10), sl10⟩) (c10 : PySem.W.codeIn K cd10 "tanks_of" = true) (k10 : PySem.W.keepIn K (.ref fa10) = true)
    (a11 : PySem.W.nsIn K mainGlobals "is_pump" = some (some (.ref fa11))) (l11 : K.lookup fa11 = some ⟨oc11, od11, .func (PySem.W.fnOf "is_pump" "is_pump" (defArgs (topS 43)) (defBody (topS 43)) (defScope (topS 43)) .none kV11 dc11 pm11 an11 cd11 ct11), sl11⟩) (c11 : PySem.W.codeIn K cd11 "is_pump" = true) (k11 : PySem.W.keepIn K (.ref fa11) = true)
    (a12 : PySem.W.nsIn K mainGlobals "can_shut" = some (some (.ref fa12))) (l12 : K.lookup fa12 = some ⟨oc12, od12, .func (PySem.W.fnOf "can_shut" "can_shut" (defArgs (topS 44)) (defBody (topS 44)) (defScope (topS 44)) .none kV12 dc12 pm12 an12 cd12 ct12), sl12⟩) (c12 : PySem.W.codeIn K cd12 "can_shut" = true) (k12 : PySem.W.keepIn K (.ref fa12) = true)
    (a13 : PySem.W.nsIn K mainGlobals "are_rising" = some (some (.ref fa13))) (l13 : K.lookup fa13 = some ⟨oc13, od13, .func (PySem.W.fnOf "are_rising" "are_rising" (defArgs (topS 45)) (defBody (topS 45)) (defScope (topS 45)) .none kV13 dc13 pm13 an13 cd13 ct13), sl13⟩) (c13 : PySem.W.codeIn K cd13 "are_rising" = true) (k13 : PySem.W.keepIn K (.ref fa13) = true)
    (a14 : PySem.W.nsIn K mainGlobals "are_asked" = some (some (.ref fa14))) (l14 : K.lookup fa14 = some ⟨oc14, od14, .func (PySem.W.fnOf "are_asked" "are_asked" (defArgs (topS 46)) (defBody (topS 46)) (defScope (topS 46)) .none kV14 dc14 pm14 an14 cd14 ct14), sl14⟩) (c14 : PySem.W.codeIn K cd14 "are_asked" = true) (k14 : PySem.W.keepIn K (.ref fa14) = true)
    (a15 : PySem.W.nsIn K mainGlobals "are_levels_of" = some (some (.ref fa15))) (l15 : K.lookup fa15 = some ⟨oc15, od15, .func (PySem.W.fnOf "are_levels_of" "are_levels_of" (defArgs (topS 47)) (defBody (topS 47)) (defScope (topS 47)) .none kV15 dc15 pm15 an15 cd15 ct15), sl15⟩) (c15 : PySem.W.codeIn K cd15 "are_levels_of" = true) (k15 : PySem.W.keepIn K (.ref fa15) = true)
    (a16 : PySem.W.nsIn K mainGlobals "are_shut" = some (some (.ref fa16))) (l16 : K.lookup fa16 = some ⟨oc16, od16, .func (PySem.W.fnOf "are_shut" "are_shut" (defArgs (topS 48)) (defBody (topS 48)) (defScope (topS 48)) .none kV16 dc16 pm16 an16 cd16 ct16), sl16⟩) (c16 : PySem.W.codeIn K cd16 "are_shut" = true) (k16 : PySem.W.keepIn K (.ref fa16) = true)
    (a17 : PySem.W.nsIn K mainGlobals "is_case_of" = some (some (.ref fa17))) (l17 : K.lookup fa17 = some ⟨oc17, od17, .func (PySem.W.fnOf "is_case_of" "is_case_of" (defArgs (topS 49)) (defBody (topS 49)) (defScope (topS 49)) .none kV17 dc17 pm17 an17 cd17 ct17), sl17⟩) (c17 : PySem.W.codeIn K cd17 "is_case_of" = true) (k17 : PySem.W.keepIn K (.ref fa17) = true)
    (a18 : PySem.W.nsIn K mainGlobals "is_case" = some (some (.ref fa18))) (l18 : K.lookup fa18 = some ⟨oc18, od18, .func (PySem.W.fnOf "is_case" "is_case" (defArgs (topS 50)) (defBody (topS 50)) (defScope (topS 50)) .none kV18 dc18 pm18 an18 cd18 ct18), sl18⟩) (c18 : PySem.W.codeIn K cd18 "is_case" = true) (k18 : PySem.W.keepIn K (.ref fa18) = true)
    (a19 : PySem.W.nsIn K mainGlobals "_law_cell_at" = some (some (.ref fa19))) (l19 : K.lookup fa19 = some ⟨oc19, od19, .func (PySem.W.fnOf "_law_cell_at" "_law_cell_at" (defArgs (topS 52)) (defBody (topS 52)) (defScope (topS 52)) .none kV19 dc19 pm19 an19 cd19 ct19), sl19⟩) (c19 : PySem.W.codeIn K cd19 "_law_cell_at" = true) (k19 : PySem.W.keepIn K (.ref fa19) = true)
    (a20 : PySem.W.nsIn K mainGlobals "_law_next" = some (some (.ref fa20))) (l20 : K.lookup fa20 = some ⟨oc20, od20, .func (PySem.W.fnOf "_law_next" "_law_next" (defArgs (topS 53)) (defBody (topS 53)) (defScope (topS 53)) .none kV20 dc20 pm20 an20 cd20 ct20), sl20⟩) (c20 : PySem.W.codeIn K cd20 "_law_next" = true) (k20 : PySem.W.keepIn K (.ref fa20) = true)
    (a21 : PySem.W.nsIn K mainGlobals "_law_pen_of" = some (some (.ref fa21))) (l21 : K.lookup fa21 = some ⟨oc21, od21, .func (PySem.W.fnOf "_law_pen_of" "_law_pen_of" (defArgs (topS 54)) (defBody (topS 54)) (defScope (topS 54)) .none kV21 dc21 pm21 an21 cd21 ct21), sl21⟩) (c21 : PySem.W.codeIn K cd21 "_law_pen_of" = true) (k21 : PySem.W.keepIn K (.ref fa21) = true)
    (a22 : PySem.W.nsIn K mainGlobals "_law_draw" = some (some (.ref fa22))) (l22 : K.lookup fa22 = some ⟨oc22, od22, .func (PySem.W.fnOf "_law_draw" "_law_draw" (defArgs (topS 55)) (defBody (topS 55)) (defScope (topS 55)) .none kV22 dc22 pm22 an22 cd22 ct22), sl22⟩) (c22 : PySem.W.codeIn K cd22 "_law_draw" = true) (k22 : PySem.W.keepIn K (.ref fa22) = true)
    (a23 : PySem.W.nsIn K mainGlobals "_law_low" = some (some (.ref fa23))) (l23 : K.lookup fa23 = some ⟨oc23, od23, .func (PySem.W.fnOf "_law_low" "_law_low" (defArgs (topS 56)) (defBody (topS 56)) (defScope (topS 56)) .none kV23 dc23 pm23 an23 cd23 ct23), sl23⟩) (c23 : PySem.W.codeIn K cd23 "_law_low" = true) (k23 : PySem.W.keepIn K (.ref fa23) = true)
    (a24 : PySem.W.nsIn K mainGlobals "_law_joint" = some (some (.ref fa24))) (l24 : K.lookup fa24 = some ⟨oc24, od24, .func (PySem.W.fnOf "_law_joint" "_law_joint" (defArgs (topS 57)) (defBody (topS 57)) (defScope (topS 57)) .none kV24 dc24 pm24 an24 cd24 ct24), sl24⟩) (c24 : PySem.W.codeIn K cd24 "_law_joint" = true) (k24 : PySem.W.keepIn K (.ref fa24) = true)
    (a25 : PySem.W.nsIn K mainGlobals "_law_net" = some (some (.ref fa25))) (l25 : K.lookup fa25 = some ⟨oc25, od25, .func (PySem.W.fnOf "_law_net" "_law_net" (defArgs (topS 58)) (defBody (topS 58)) (defScope (topS 58)) .none kV25 dc25 pm25 an25 cd25 ct25), sl25⟩) (c25 : PySem.W.codeIn K cd25 "_law_net" = true) (k25 : PySem.W.keepIn K (.ref fa25) = true)
    (a26 : PySem.W.nsIn K mainGlobals "_law_case" = some (some (.ref fa26))) (l26 : K.lookup fa26 = some ⟨oc26, od26, .func (PySem.W.fnOf "_law_case" "_law_case" (defArgs (topS 59)) (defBody (topS 59)) (defScope (topS 59)) .none kV26 dc26 pm26 an26 cd26 ct26), sl26⟩) (c26 : PySem.W.codeIn K cd26 "_law_case" = true) (k26 : PySem.W.keepIn K (.ref fa26) = true)
    (a27 : PySem.W.nsIn K mainGlobals "_law_odd" = some (some (.ref fa27))) (l27 : K.lookup fa27 = some ⟨oc27, od27, .func (PySem.W.fnOf "_law_odd" "_law_odd" (defArgs (topS 60)) (defBody (topS 60)) (defScope (topS 60)) .none kV27 dc27 pm27 an27 cd27 ct27), sl27⟩) (c27 : PySem.W.codeIn K cd27 "_law_odd" = true) (k27 : PySem.W.keepIn K (.ref fa27) = true)
    (a28 : PySem.W.nsIn K mainGlobals "_law_bent" = some (some (.ref fa28))) (l28 : K.lookup fa28 = some ⟨oc28, od28, .func (PySem.W.fnOf "_law_bent" "_law_bent" (defArgs (topS 61)) (defBody (topS 61)) (defScope (topS 61)) .none kV28 dc28 pm28 an28 cd28 ct28), sl28⟩) (c28 : PySem.W.codeIn K cd28 "_law_bent" = true) (k28 : PySem.W.keepIn K (.ref fa28) = true)
    (a29 : PySem.W.nsIn K mainGlobals "_law_number" = some (some (.ref fa29))) (l29 : K.lookup fa29 = some ⟨oc29, od29, .func (PySem.W.fnOf "_law_number" "_law_number" (defArgs (topS 62)) (defBody (topS 62)) (defScope (topS 62)) .none kV29 dc29 pm29 an29 cd29 ct29), sl29⟩) (c29 : PySem.W.codeIn K cd29 "_law_number" = true) (k29 : PySem.W.keepIn K (.ref fa29) = true)
    (a30 : PySem.W.nsIn K mainGlobals "_law_is_part" = some (some (.ref fa30))) (l30 : K.lookup fa30 = some ⟨oc30, od30, .func (PySem.W.fnOf "_law_is_part" "_law_is_part" (defArgs (topS 63)) (defBody (topS 63)) (defScope (topS 63)) .none kV30 dc30 pm30 an30 cd30 ct30), sl30⟩) (c30 : PySem.W.codeIn K cd30 "_law_is_part" = true) (k30 : PySem.W.keepIn K (.ref fa30) = true)
    (a31 : PySem.W.nsIn K mainGlobals "_law_is_case" = some (some (.ref fa31))) (l31 : K.lookup fa31 = some ⟨oc31, od31, .func (PySem.W.fnOf "_law_is_case" "_law_is_case" (defArgs (topS 64)) (defBody (topS 64)) (defScope (topS 64)) .none kV31 dc31 pm31 an31 cd31 ct31), sl31⟩) (c31 : PySem.W.codeIn K cd31 "_law_is_case" = true) (k31 : PySem.W.keepIn K (.ref fa31) = true)
    (a32 : PySem.W.nsIn K mainGlobals "_law_near" = some (some (.ref fa32))) (l32 : K.lookup fa32 = some ⟨oc32, od32, .func (PySem.W.fnOf "_law_near" "_law_near" (defArgs (topS 66)) (defBody (topS 66)) (defScope (topS 66)) .none kV32 dc32 pm32 an32 cd32 ct32), sl32⟩) (c32 : PySem.W.codeIn K cd32 "_law_near" = true) (k32 : PySem.W.keepIn K (.ref fa32) = true)
    (a33 : PySem.W.nsIn K mainGlobals "law" = some (some (.ref fa33))) (l33 : K.lookup fa33 = some ⟨oc33, od33, .func (PySem.W.fnOf "law" "law" (defArgs (topS 67)) (defBody (topS 67)) (defScope (topS 67)) .none kV33 dc33 pm33 an33 (.ref 462) ct33), sl33⟩) (c33 : PySem.W.codeIn K (.ref 462) "law" = true) (k33 : PySem.W.keepIn K (.ref fa33) = true)
    (a34 : PySem.W.nsIn K mainGlobals "_law_said" = some (some (.ref fa34))) (l34 : K.lookup fa34 = some ⟨oc34, od34, .func (PySem.W.fnOf "_law_said" "_law_said" (defArgs (topS 65)) (defBody (topS 65)) (defScope (topS 65)) .none kV34 dc34 pm34 an34 cd34 ct34), sl34⟩) (c34 : PySem.W.codeIn K cd34 "_law_said" = true) (k34 : PySem.W.keepIn K (.ref fa34) = true)
    {cW : Addr} (wA : PySem.W.nsIn K mainGlobals "WaterError" = some (some (.ref cW)))
    {D_NoNet : Addr} (xa_NoNet : PySem.W.nsIn K mainGlobals "NoNet" = some (some (.ref D_NoNet))) (xb_NoNet : excB K D_NoNet cW [(Str.ofString "NoNet", true), (Str.ofString "NoCase", false), (Str.ofString "NoText", false), (Str.ofString "NoReadings", false), (Str.ofString "NoFraction", false), (Str.ofString "NoAmount", false), (Str.ofString "NoMeters", false), (Str.ofString "NoShut", false), (Str.ofString "NoPlace", false), (Str.ofString "NoJoint", false), (Str.ofString "NoPipe", false), (Str.ofString "NoPlan", false), (Str.ofString "NoLevels", false), (Str.ofString "NoTariff", false), (Str.ofString "NotNow", false), (Str.ofString "NoDeed", false), (Str.ofString "NoLine", false), (Str.ofString "ValueError", true)] = true)
    (ta0 : K.lookup 460 = none) (tb0 : PySem.W.codeHdIn K 462 460 = true)
    (q_PLACE : conB K "PLACE" (.str "place") = true)
    {qA_BOUNDS : Addr} {qE_BOUNDS : Array DictEntry} {qN_BOUNDS : Nat} (qa_BOUNDS : PySem.W.nsIn K mainGlobals "BOUNDS" = some (some (.ref qA_BOUNDS))) (ql_BOUNDS : K.lookup qA_BOUNDS = some ⟨.type "dict", none, .dict qE_BOUNDS qN_BOUNDS, #[]⟩) (qk_BOUNDS : PySem.W.KeysLit w.params qE_BOUNDS.toList) (qb_BOUNDS : (!(qA_BOUNDS == sysModules) && entB K qE_BOUNDS.toList [(.str "source", .tuple [.tuple [.int (0), .int (200)]]), (.str "tank", .tuple [.tuple [.int (0), .int (150)], .tuple [.int (1), .int (50)], .tuple [.int (1), .int (50)]])]) = true)
    (q_BOTH : conB K "BOTH" (.str "both") = true)
    (q_ON : conB K "ON" (.str "on") = true)
    (q_MOST_JOINTS : conB K "MOST_JOINTS" (.int (7)) = true)
    (q_MOST_PIPES : conB K "MOST_PIPES" (.int (9)) = true)
    (q_MOST_ON : conB K "MOST_ON" (.int (4)) = true)
    (q_TANK : conB K "TANK" (.str "tank") = true)
    (q_MOST_ASKED : conB K "MOST_ASKED" (.int (50)) = true)
    (q_NOUGHT : conB K "NOUGHT" (.tuple [.int (0), .int (1)]) = true)
    (z_abs : PySem.W.nsIn K mainGlobals "abs" = some none)
    (z_all : PySem.W.nsIn K mainGlobals "all" = some none)
    (z_any : PySem.W.nsIn K mainGlobals "any" = some none)
    (z_bool : PySem.W.nsIn K mainGlobals "bool" = some none)
    (z_dict : PySem.W.nsIn K mainGlobals "dict" = some none)
    (z_divmod : PySem.W.nsIn K mainGlobals "divmod" = some none)
    (z_enumerate : PySem.W.nsIn K mainGlobals "enumerate" = some none)
    (z_int : PySem.W.nsIn K mainGlobals "int" = some none)
    (z_isinstance : PySem.W.nsIn K mainGlobals "isinstance" = some none)
    (z_len : PySem.W.nsIn K mainGlobals "len" = some none)
    (z_list : PySem.W.nsIn K mainGlobals "list" = some none)
    (z_max : PySem.W.nsIn K mainGlobals "max" = some none)
    (z_min : PySem.W.nsIn K mainGlobals "min" = some none)
    (z_range : PySem.W.nsIn K mainGlobals "range" = some none)
    (z_repr : PySem.W.nsIn K mainGlobals "repr" = some none)
    (z_set : PySem.W.nsIn K mainGlobals "set" = some none)
    (z_sorted : PySem.W.nsIn K mainGlobals "sorted" = some none)
    (z_str : PySem.W.nsIn K mainGlobals "str" = some none)
    (z_tuple : PySem.W.nsIn K mainGlobals "tuple" = some none)
    (z_zip : PySem.W.nsIn K mainGlobals "zip" = some none) :
    (∀ p ∈ csL, K.lookup p.2 = none ∧ PySem.W.codeHdIn K p.1 p.2 = true) ∧ (TabOk K mg tab csL ∧ GlobOk K w mg glob ∧ ∀ b ∈ bltNames, mg (Str.ofString b) = none) ∧ ∃ fa fd st N ow sd cl, DefOk K mg tab csL "law" f_law fa fd st N ["_law_script"] ow sd cl := by
  have hB : ∀ b ∈ bltNames, mg (Str.ofString b) = none := blt_all ⟨PySem.W.mg_none_of X G z_len, PySem.W.mg_none_of X G z_abs, PySem.W.mg_none_of X G z_int, PySem.W.mg_none_of X G z_all, PySem.W.mg_none_of X G z_any, PySem.W.mg_none_of X G z_repr, PySem.W.mg_none_of X G z_tuple, PySem.W.mg_none_of X G z_list, PySem.W.mg_none_of X G z_isinstance, PySem.W.mg_none_of X G z_bool, PySem.W.mg_none_of X G z_str, PySem.W.mg_none_of X G z_dict, PySem.W.mg_none_of X G z_max, PySem.W.mg_none_of X G z_min, PySem.W.mg_none_of X G z_range, PySem.W.mg_none_of X G z_enumerate, PySem.W.mg_none_of X G z_zip, PySem.W.mg_none_of X G z_sorted, PySem.W.mg_none_of X G z_set, PySem.W.mg_none_of X G z_divmod, trivial⟩
  obtain ⟨xc_NoNet, xo_NoNet, xk_NoNet⟩ := excB_ok X G xa_NoNet xb_NoNet
  have cls : ∀ y ∈ clL, ∃ C, ClsK K mg y C := List.forall_mem_cons.mpr ⟨⟨_, xc_NoNet⟩, (fun _ h => nomatch h)⟩
  have Y_law_said : SayD K mg "_law_said" wsL := say_mk hB (fun_mk (st := topS 65) l34 c34 k34) (PySem.W.mg_of X G a34) ((fun_mk (st := topS 65) l34 c34 k34).binds (fun _ _ _ _ _ _ us hl => match us, hl with | [_], _ => rfl)) sc_law_said rfl (by decide +kernel) (by decide +kernel) (i := 3) rfl (by decide +kernel) (by decide +kernel) (PySem.W.mg_of X G wA) (fun en w hw => by
    have hw := mem_of_look hw
    cases hw with
    | head => exact ⟨D_NoNet, _, _, _, xc_NoNet.mg, xo_NoNet, by decide +kernel, fun x b hm => xk_NoNet x b (by revert hm; exact sub_ok (by decide +kernel)), r_law_said_NoNet, (fun _ _ h => nomatch h)⟩
    | tail _ hw =>
      cases hw)
  have D0 := def_mk (tab := tab) (cs := csL) (f := f_is_whole) (ow := []) (sd := fun _ => none) (cl := clL) X G sc_is_whole rfl rfl (by decide) tr_is_whole (fun _ _ _ _ _ _ us hl => match us, hl with | [_], _ => rfl) a0 l0 c0 k0 (fun _ h => nomatch h) (fun _ _ h => nomatch h) cls
  have D1 := def_mk (tab := tab) (cs := csL) (f := f_common) (ow := []) (sd := fun _ => none) (cl := clL) X G sc_common rfl rfl (by decide) tr_common (fun _ _ _ _ _ _ us hl => match us, hl with | [_, _], _ => rfl) a1 l1 c1 k1 (fun _ h => nomatch h) (fun _ _ h => nomatch h) cls
  have D2 := def_mk (tab := tab) (cs := csL) (f := f_is_fraction) (ow := []) (sd := fun _ => none) (cl := clL) X G sc_is_fraction rfl rfl (by decide) tr_is_fraction (fun _ _ _ _ _ _ us hl => match us, hl with | [_], _ => rfl) a2 l2 c2 k2 (fun _ h => nomatch h) (fun _ _ h => nomatch h) cls
  have D3 := def_mk (tab := tab) (cs := csL) (f := f_is_between) (ow := []) (sd := fun _ => none) (cl := clL) X G sc_is_between rfl rfl (by decide) tr_is_between (fun _ _ _ _ _ _ us hl => match us, hl with | [_, _, _], _ => rfl) a3 l3 c3 k3 (fun _ h => nomatch h) (fun _ _ h => nomatch h) cls
  have D4 := def_mk (tab := tab) (cs := csL) (f := f_is_number) (ow := []) (sd := fun _ => none) (cl := clL) X G sc_is_number rfl rfl (by decide) tr_is_number (fun _ _ _ _ _ _ us hl => match us, hl with | [_, _, _], _ => rfl) a4 l4 c4 k4 (fun _ h => nomatch h) (fun _ _ h => nomatch h) cls
  have D5 := def_mk (tab := tab) (cs := csL) (f := f_is_place_joint) (ow := []) (sd := fun _ => none) (cl := clL) X G sc_is_place_joint rfl rfl (by decide) tr_is_place_joint (fun _ _ _ _ _ _ us hl => match us, hl with | [_], _ => rfl) a5 l5 c5 k5 (fun _ h => nomatch h) (fun _ _ h => nomatch h) cls
  have D6 := def_mk (tab := tab) (cs := csL) (f := f_is_joint) (ow := []) (sd := fun _ => none) (cl := clL) X G sc_is_joint rfl rfl (by decide) tr_is_joint (fun _ _ _ _ _ _ us hl => match us, hl with | [_], _ => rfl) a6 l6 c6 k6 (fun _ h => nomatch h) (fun _ _ h => nomatch h) cls
  have D7 := def_mk (tab := tab) (cs := csL) (f := f_is_pipe) (ow := []) (sd := fun _ => none) (cl := clL) X G sc_is_pipe rfl rfl (by decide) tr_is_pipe (fun _ _ _ _ _ _ us hl => match us, hl with | [_, _], _ => rfl) a7 l7 c7 k7 (fun _ h => nomatch h) (fun _ _ h => nomatch h) cls
  have D8 := def_mk (tab := tab) (cs := csL) (f := f_is_net) (ow := []) (sd := fun _ => none) (cl := clL) X G sc_is_net rfl rfl (by decide) tr_is_net (fun _ _ _ _ _ _ us hl => match us, hl with | [_], _ => rfl) a8 l8 c8 k8 (fun _ h => nomatch h) (fun _ _ h => nomatch h) cls
  have D9 := def_mk (tab := tab) (cs := csL) (f := f_need_net) (ow := []) (sd := fun _ => none) (cl := clL) X G sc_need_net rfl rfl (by decide) tr_need_net (fun _ _ _ _ _ _ us hl => match us, hl with | [_], _ => rfl) a9 l9 c9 k9 (fun _ h => nomatch h) (fun _ _ h => nomatch h) cls
  have D10 := def_mk (tab := tab) (cs := csL) (f := f_tanks_of) (ow := []) (sd := fun _ => none) (cl := clL) X G sc_tanks_of rfl rfl (by decide) tr_tanks_of (fun _ _ _ _ _ _ us hl => match us, hl with | [_], _ => rfl) a10 l10 c10 k10 (fun _ h => nomatch h) (fun _ _ h => nomatch h) cls
  have D11 := def_mk (tab := tab) (cs := csL) (f := f_is_pump) (ow := []) (sd := fun _ => none) (cl := clL) X G sc_is_pump rfl rfl (by decide) tr_is_pump (fun _ _ _ _ _ _ us hl => match us, hl with | [_, _], _ => rfl) a11 l11 c11 k11 (fun _ h => nomatch h) (fun _ _ h => nomatch h) cls
  have D12 := def_mk (tab := tab) (cs := csL) (f := f_can_shut) (ow := []) (sd := fun _ => none) (cl := clL) X G sc_can_shut rfl rfl (by decide) tr_can_shut (fun _ _ _ _ _ _ us hl => match us, hl with | [_, _], _ => rfl) a12 l12 c12 k12 (fun _ h => nomatch h) (fun _ _ h => nomatch h) cls
  have D13 := def_mk (tab := tab) (cs := csL) (f := f_are_rising) (ow := []) (sd := fun _ => none) (cl := clL) X G sc_are_rising rfl rfl (by decide) tr_are_rising (fun _ _ _ _ _ _ us hl => match us, hl with | [_], _ => rfl) a13 l13 c13 k13 (fun _ h => nomatch h) (fun _ _ h => nomatch h) cls
  have D14 := def_mk (tab := tab) (cs := csL) (f := f_are_asked) (ow := []) (sd := fun _ => none) (cl := clL) X G sc_are_asked rfl rfl (by decide) tr_are_asked (fun _ _ _ _ _ _ us hl => match us, hl with | [_, _], _ => rfl) a14 l14 c14 k14 (fun _ h => nomatch h) (fun _ _ h => nomatch h) cls
  have D15 := def_mk (tab := tab) (cs := csL) (f := f_are_levels_of) (ow := []) (sd := fun _ => none) (cl := clL) X G sc_are_levels_of rfl rfl (by decide) tr_are_levels_of (fun _ _ _ _ _ _ us hl => match us, hl with | [_, _], _ => rfl) a15 l15 c15 k15 (fun _ h => nomatch h) (fun _ _ h => nomatch h) cls
  have D16 := def_mk (tab := tab) (cs := csL) (f := f_are_shut) (ow := []) (sd := fun _ => none) (cl := clL) X G sc_are_shut rfl rfl (by decide) tr_are_shut (fun _ _ _ _ _ _ us hl => match us, hl with | [_, _], _ => rfl) a16 l16 c16 k16 (fun _ h => nomatch h) (fun _ _ h => nomatch h) cls
  have D17 := def_mk (tab := tab) (cs := csL) (f := f_is_case_of) (ow := []) (sd := fun _ => none) (cl := clL) X G sc_is_case_of rfl rfl (by decide) tr_is_case_of (fun _ _ _ _ _ _ us hl => match us, hl with | [_, _], _ => rfl) a17 l17 c17 k17 (fun _ h => nomatch h) (fun _ _ h => nomatch h) cls
  have D18 := def_mk (tab := tab) (cs := csL) (f := f_is_case) (ow := []) (sd := fun _ => none) (cl := clL) X G sc_is_case rfl rfl (by decide) tr_is_case (fun _ _ _ _ _ _ us hl => match us, hl with | [_, _], _ => rfl) a18 l18 c18 k18 (fun _ h => nomatch h) (fun _ _ h => nomatch h) cls
  have D19 := def_mk (tab := tab) (cs := csL) (f := f_law_cell_at) (ow := []) (sd := fun _ => none) (cl := clL) X G sc_law_cell_at rfl rfl (by decide) tr_law_cell_at (fun _ _ _ _ _ _ us hl => match us, hl with | [_, _], _ => rfl) a19 l19 c19 k19 (fun _ h => nomatch h) (fun _ _ h => nomatch h) cls
  have D20 := def_mk (tab := tab) (cs := csL) (f := f_law_next) (ow := []) (sd := fun _ => none) (cl := clL) X G sc_law_next rfl rfl (by decide) tr_law_next (fun _ _ _ _ _ _ us hl => match us, hl with | [_], _ => rfl) a20 l20 c20 k20 (fun _ h => nomatch h) (fun _ _ h => nomatch h) cls
  have D21 := def_mk (tab := tab) (cs := csL) (f := f_law_pen_of) (ow := []) (sd := fun _ => none) (cl := clL) X G sc_law_pen_of rfl rfl (by decide) tr_law_pen_of (fun _ _ _ _ _ _ us hl => match us, hl with | [_], _ => rfl) a21 l21 c21 k21 (fun _ h => nomatch h) (fun _ _ h => nomatch h) cls
  have D22 := def_mk (tab := tab) (cs := csL) (f := f_law_draw) (ow := [0]) (sd := fun _ => none) (cl := clL) X G sc_law_draw rfl rfl (by decide) tr_law_draw (fun _ _ _ _ _ _ us hl => match us, hl with | [_, _], _ => rfl) a22 l22 c22 k22 (fun _ h => nomatch h) (fun _ _ h => nomatch h) cls
  have D23 := def_mk (tab := tab) (cs := csL) (f := f_law_low) (ow := []) (sd := fun _ => none) (cl := clL) X G sc_law_low rfl rfl (by decide) tr_law_low (fun _ _ _ _ _ _ us hl => match us, hl with | [_, _], _ => rfl) a23 l23 c23 k23 (fun _ h => nomatch h) (fun _ _ h => nomatch h) cls
  have D24 := def_mk (tab := tab) (cs := csL) (f := f_law_joint) (ow := [0]) (sd := fun _ => none) (cl := clL) X G sc_law_joint rfl rfl (by decide) tr_law_joint (fun _ _ _ _ _ _ us hl => match us, hl with | [_], _ => rfl) a24 l24 c24 k24 (fun _ h => nomatch h) (fun _ _ h => nomatch h) cls
  have D25 := def_mk (tab := tab) (cs := csL) (f := f_law_net) (ow := [0, 5]) (sd := fun _ => none) (cl := clL) X G sc_law_net rfl rfl (by decide) tr_law_net (fun _ _ _ _ _ _ us hl => match us, hl with | [_, _], _ => rfl) a25 l25 c25 k25 (fun _ h => nomatch h) (fun _ _ h => nomatch h) cls
  have D26 := def_mk (tab := tab) (cs := csL) (f := f_law_case) (ow := [0, 2, 3]) (sd := fun _ => none) (cl := clL) X G sc_law_case rfl rfl (by decide) tr_law_case (fun _ _ _ _ _ _ us hl => match us, hl with | [_, _], _ => rfl) a26 l26 c26 k26 (fun _ h => nomatch h) (fun _ _ h => nomatch h) cls
  have D27 := def_mk (tab := tab) (cs := csL) (f := f_law_odd) (ow := [0]) (sd := fun _ => none) (cl := clL) X G sc_law_odd rfl rfl (by decide) tr_law_odd (fun _ _ _ _ _ _ us hl => match us, hl with | [_], _ => rfl) a27 l27 c27 k27 (fun _ h => nomatch h) (fun _ _ h => nomatch h) cls
  have D28 := def_mk (tab := tab) (cs := csL) (f := f_law_bent) (ow := [0]) (sd := fun _ => none) (cl := clL) X G sc_law_bent rfl rfl (by decide) tr_law_bent (fun _ _ _ _ _ _ us hl => match us, hl with | [_, _], _ => rfl) a28 l28 c28 k28 (fun _ h => nomatch h) (fun _ _ h => nomatch h) cls
  have D29 := def_mk (tab := tab) (cs := csL) (f := f_law_number) (ow := []) (sd := fun _ => none) (cl := clL) X G sc_law_number rfl rfl (by decide) tr_law_number (fun _ _ _ _ _ _ us hl => match us, hl with | [_, _, _], _ => rfl) a29 l29 c29 k29 (fun _ h => nomatch h) (fun _ _ h => nomatch h) cls
  have D30 := def_mk (tab := tab) (cs := csL) (f := f_law_is_part) (ow := []) (sd := fun _ => none) (cl := clL) X G sc_law_is_part rfl rfl (by decide) tr_law_is_part (fun _ _ _ _ _ _ us hl => match us, hl with | [_, _], _ => rfl) a30 l30 c30 k30 (fun _ h => nomatch h) (fun _ _ h => nomatch h) cls
  have D31 := def_mk (tab := tab) (cs := csL) (f := f_law_is_case) (ow := []) (sd := fun _ => none) (cl := clL) X G sc_law_is_case rfl rfl (by decide) tr_law_is_case (fun _ _ _ _ _ _ us hl => match us, hl with | [_, _], _ => rfl) a31 l31 c31 k31 (fun _ h => nomatch h) (fun _ _ h => nomatch h) cls
  have D32 := def_mk (tab := tab) (cs := csL) (f := f_law_near) (ow := [0, 7]) (sd := fun _ => none) (cl := clL) X G sc_law_near rfl rfl (by decide) tr_law_near (fun _ _ _ _ _ _ us hl => match us, hl with | [_, _, _], _ => rfl) a32 l32 c32 k32 (fun _ h => nomatch h) (fun _ _ h => nomatch h) cls
  have D33 := def_mk (tab := tab) (cs := csL) (f := f_law) (ow := [2]) (sd := sdF) (cl := clL) X G sc_law rfl rfl (by decide) tr_law (fun _ _ _ _ _ _ us hl => match us, hl with | [_], _ => rfl) a33 l33 c33 k33 (fun _ h => nomatch h) (fun y ws h => by unfold sdF at h; split at h; (· rename_i e; subst e; cases h; exact ⟨Y_law_said, 462, 460, by decide +kernel, rfl, by decide +kernel, by decide +kernel⟩); (· cases h)) cls
  exact ⟨List.forall_mem_cons.mpr ⟨⟨ta0, tb0⟩, (fun _ h => nomatch h)⟩, ⟨tab_all ⟨⟨_, _, _, _, _, _, _, _, D0⟩, ⟨_, _, _, _, _, _, _, _, D1⟩, ⟨_, _, _, _, _, _, _, _, D2⟩, ⟨_, _, _, _, _, _, _, _, D3⟩, ⟨_, _, _, _, _, _, _, _, D4⟩, ⟨_, _, _, _, _, _, _, _, D5⟩, ⟨_, _, _, _, _, _, _, _, D6⟩, ⟨_, _, _, _, _, _, _, _, D7⟩, ⟨_, _, _, _, _, _, _, _, D8⟩, ⟨_, _, _, _, _, _, _, _, D9⟩, ⟨_, _, _, _, _, _, _, _, D10⟩, ⟨_, _, _, _, _, _, _, _, D11⟩, ⟨_, _, _, _, _, _, _, _, D12⟩, ⟨_, _, _, _, _, _, _, _, D13⟩, ⟨_, _, _, _, _, _, _, _, D14⟩, ⟨_, _, _, _, _, _, _, _, D15⟩, ⟨_, _, _, _, _, _, _, _, D16⟩, ⟨_, _, _, _, _, _, _, _, D17⟩, ⟨_, _, _, _, _, _, _, _, D18⟩, ⟨_, _, _, _, _, _, _, _, D19⟩, ⟨_, _, _, _, _, _, _, _, D20⟩, ⟨_, _, _, _, _, _, _, _, D21⟩, ⟨_, _, _, _, _, _, _, _, D22⟩, ⟨_, _, _, _, _, _, _, _, D23⟩, ⟨_, _, _, _, _, _, _, _, D24⟩, ⟨_, _, _, _, _, _, _, _, D25⟩, ⟨_, _, _, _, _, _, _, _, D26⟩, ⟨_, _, _, _, _, _, _, _, D27⟩, ⟨_, _, _, _, _, _, _, _, D28⟩, ⟨_, _, _, _, _, _, _, _, D29⟩, ⟨_, _, _, _, _, _, _, _, D30⟩, ⟨_, _, _, _, _, _, _, _, D31⟩, ⟨_, _, _, _, _, _, _, _, D32⟩, ⟨_, _, _, _, _, _, _, _, D33⟩, trivial⟩, glob_ok X G q_PLACE (dct_ok X G qa_BOUNDS ql_BOUNDS qk_BOUNDS qb_BOUNDS) q_BOTH q_ON q_MOST_JOINTS q_MOST_PIPES q_MOST_ON q_TANK q_MOST_ASKED q_NOUGHT, hB⟩, _, _, _, _, _, _, _, D33⟩
end

end Wh
open PySem PySem.W PyProof.Rows
theorem PySem.Challenge.cw_waterheads_k04_cases_known_holds : PySem.Challenge.rw_waterheads_k04_cases_known.Holds := by
  w_on; o_law; k_head; (case hw => w_witness2)
  k_fill
  refine Wh.walk_all (l := PySem.Challenge.rw_waterheads_k04_cases_known) (n := 63) 16 (x := "_law_script") Wh.tab Wh.glob Wh.FU Wh.csL rfl (by decide) rfl ⟨rfl, by decide, by decide⟩ rfl (fun w h Y => PySem.W.km_in_of Y) (fun w h Y => List.forall_mem_cons.mpr ⟨PySem.W.km_tabs_of Y _ (by decide), (fun _ h => nomatch h)⟩) (by decide) Wh.law_true ?T
  case T =>
    intro w mg h KX G
    refine' Wh.all_mk (w := w) KX G ?a0 ?l0 ?c0 ?k0 ?a1 ?l1 ?c1 ?k1 ?a2 ?l2 ?c2 ?k2 ?a3 ?l3 ?c3 ?k3 ?a4 ?l4 ?c4 ?k4 ?a5 ?l5 ?c5 ?k5 ?a6 ?l6 ?c6 ?k6 ?a7 ?l7 ?c7 ?k7 ?a8 ?l8 ?c8 ?k8 ?a9 ?l9 ?c9 ?k9 ?a10 ?l10 ?c10 ?k10 ?a11 ?l11 ?c11 ?k11 ?a12 ?l12 ?c12 ?k12 ?a13 ?l13 ?c13 ?k13 ?a14 ?l14 ?c14 ?k14 ?a15 ?l15 ?c15 ?k15 ?a16 ?l16 ?c16 ?k16 ?a17 ?l17 ?c17 ?k17 ?a18 ?l18 ?c18 ?k18 ?a19 ?l19 ?c19 ?k19 ?a20 ?l20 ?c20 ?k20 ?a21 ?l21 ?c21 ?k21 ?a22 ?l22 ?c22 ?k22 ?a23 ?l23 ?c23 ?k23 ?a24 ?l24 ?c24 ?k24 ?a25 ?l25 ?c25 ?k25 ?a26 ?l26 ?c26 ?k26 ?a27 ?l27 ?c27 ?k27 ?a28 ?l28 ?c28 ?k28 ?a29 ?l29 ?c29 ?k29 ?a30 ?l30 ?c30 ?k30 ?a31 ?l31 ?c31 ?k31 ?a32 ?l32 ?c32 ?k32 ?a33 ?l33 ?c33 ?k33 ?a34 ?l34 ?c34 ?k34 ?wA ?xa_NoNet ?xb_NoNet ?ta0 ?tb0 ?q_PLACE ?qa_BOUNDS ?ql_BOUNDS ?qk_BOUNDS ?qb_BOUNDS ?q_BOTH ?q_ON ?q_MOST_JOINTS ?q_MOST_PIPES ?q_MOST_ON ?q_TANK ?q_MOST_ASKED ?q_NOUGHT ?z_abs ?z_all ?z_any ?z_bool ?z_dict ?z_divmod ?z_enumerate ?z_int ?z_isinstance ?z_len ?z_list ?z_max ?z_min ?z_range ?z_repr ?z_set ?z_sorted ?z_str ?z_tuple ?z_zip
    (case a0 => k_is); (case l0 => k_is); (case c0 => k_is); (case k0 => k_is); (case a1 => k_is); (case l1 => k_is); (case c1 => k_is); (case k1 => k_is); (case a2 => k_is); (case l2 => k_is); (case c2 => k_is); (case k2 => k_is); (case a3 => k_is); (case l3 => k_is); (case c3 => k_is); (case k3 => k_is); (case a4 => k_is); (case l4 => k_is); (case c4 => k_is); (case k4 => k_is); (case a5 => k_is); (case l5 => k_is); (case c5 => k_is); (case k5 => k_is); (case a6 => k_is); (case l6 => k_is); (case c6 => k_is); (case k6 => k_is); (case a7 => k_is); (case l7 => k_is); (case c7 => k_is); (case k7 => k_is); (case a8 => k_is); (case l8 => k_is); (case c8 => k_is); (case k8 => k_is); (case a9 => k_is); (case l9 => k_is); (case c9 => k_is); (case k9 => k_is); (case a10 => k_is); (case l10 => k_is); (case c10 => k_is); (case k10 => k_is); (case a11 => k_is); (case l11 => k_is); (case c11 => k_is); (case k11 => k_is); (case a12 => k_is); (case l12 => k_is); (case c12 => k_is); (case k12 => k_is); (case a13 => k_is); (case l13 => k_is); (case c13 => k_is); (case k13 => k_is); (case a14 => k_is); (case l14 => k_is); (case c14 => k_is); (case k14 => k_is); (case a15 => k_is); (case l15 => k_is); (case c15 => k_is); (case k15 => k_is); (case a16 => k_is); (case l16 => k_is); (case c16 => k_is); (case k16 => k_is); (case a17 => k_is); (case l17 => k_is); (case c17 => k_is); (case k17 => k_is); (case a18 => k_is); (case l18 => k_is); (case c18 => k_is); (case k18 => k_is); (case a19 => k_is); (case l19 => k_is); (case c19 => k_is); (case k19 => k_is); (case a20 => k_is); (case l20 => k_is); (case c20 => k_is); (case k20 => k_is); (case a21 => k_is); (case l21 => k_is); (case c21 => k_is); (case k21 => k_is); (case a22 => k_is); (case l22 => k_is); (case c22 => k_is); (case k22 => k_is); (case a23 => k_is); (case l23 => k_is); (case c23 => k_is); (case k23 => k_is); (case a24 => k_is); (case l24 => k_is); (case c24 => k_is); (case k24 => k_is); (case a25 => k_is); (case l25 => k_is); (case c25 => k_is); (case k25 => k_is); (case a26 => k_is); (case l26 => k_is); (case c26 => k_is); (case k26 => k_is); (case a27 => k_is); (case l27 => k_is); (case c27 => k_is); (case k27 => k_is); (case a28 => k_is); (case l28 => k_is); (case c28 => k_is); (case k28 => k_is); (case a29 => k_is); (case l29 => k_is); (case c29 => k_is); (case k29 => k_is); (case a30 => k_is); (case l30 => k_is); (case c30 => k_is); (case k30 => k_is); (case a31 => k_is); (case l31 => k_is); (case c31 => k_is); (case k31 => k_is); (case a32 => k_is); (case l32 => k_is); (case c32 => k_is); (case k32 => k_is); (case a33 => k_is); (case l33 => k_is); (case c33 => k_is); (case k33 => k_is); (case a34 => k_is); (case l34 => k_is); (case c34 => k_is); (case k34 => k_is); (case wA => k_is); (case xa_NoNet => k_is); (case xb_NoNet => kernel_rfl); (case ta0 => kernel_rfl); (case tb0 => kernel_rfl); (case q_PLACE => kernel_rfl); (case qa_BOUNDS => k_is); (case ql_BOUNDS => k_is); (case qk_BOUNDS => exact ⟨⟨_, _, rfl, rfl⟩, ⟨_, _, rfl, rfl⟩, trivial⟩); (case qb_BOUNDS => kernel_rfl); (case q_BOTH => kernel_rfl); (case q_ON => kernel_rfl); (case q_MOST_JOINTS => kernel_rfl); (case q_MOST_PIPES => kernel_rfl); (case q_MOST_ON => kernel_rfl); (case q_TANK => kernel_rfl); (case q_MOST_ASKED => kernel_rfl); (case q_NOUGHT => kernel_rfl); (case z_abs => k_is); (case z_all => k_is); (case z_any => k_is); (case z_bool => k_is); (case z_dict => k_is); (case z_divmod => k_is); (case z_enumerate => k_is); (case z_int => k_is); (case z_isinstance => k_is); (case z_len => k_is); (case z_list => k_is); (case z_max => k_is); (case z_min => k_is); (case z_range => k_is); (case z_repr => k_is); (case z_set => k_is); (case z_sorted => k_is); (case z_str => k_is); (case z_tuple => k_is); (case z_zip => k_is)
