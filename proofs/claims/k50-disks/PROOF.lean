import PyProof.Rows.All
import Wide.All
import OpenK.AllK
import Wide.FinOn
import HandS.ForMost
import HandS.ForExc
import HandS.Defaults
import HandS.CallSlots
import HandS.TryMany
import HandS.Small
import HandS.Codes
import HandS.Zip
import HandS.IsInst
import HandS.HeadHook1
import HandS.HeadHook2
import HandS.TupAny
import HandS.Wide
import HandS.StrMore
import HandS.RaiseMore
import KE.GoesEnum
import HandS.Head0
import HandS.Head1
import HandS.Head2
import HandS.HeadEnd
import HandS.HeadHook4
import PySem.Challenge.RW_everypiece_k50_whole_disks_and_records
set_option Elab.async false
set_option linter.all false
set_option maxRecDepth 100000
set_option maxHeartbeats 4000000
/-! DL1: the data layer: values as plain trees, what is mutable in a small store; readings of the hand layer made of predicate transformers over trees. -/
namespace Dl
open PySem PySem.Spec PyProof.Rows L2

/-- data: what never changes as a tree; adr a: a mutable thing at a -/
inductive D where
  | non | bl (b : Bool) | int (i : Int) | str (s : List Nat)
  | tup (xs : List D) | lst (xs : List D) | seq (xs : List D)
  | ins (c : Str) (fs : List (Str × D)) | adr (a : Addr)
  | dk (kvs : List (Key × D)) | dt (kvs : List (List Key × D))
/-- what is mutable -/
inductive MO where
  | lst (xs : List D) | ins (c : Str) (fs : List (Str × D)) | dk (kvs : List (Key × D)) | dt (kvs : List (List Key × D))
abbrev Gm := Addr → Option MO
def ug (G : Gm) (a : Addr) (o : MO) : Gm := fun b => if b = a then some o else G b
def dg (G : Gm) (a : Addr) : Gm := fun b => if b = a then none else G b
theorem ug_same {G : Gm} {a : Addr} {o : MO} : ug G a o a = some o := if_pos rfl
theorem ug_ne {G : Gm} {a b : Addr} {o : MO} (h : b ≠ a) : ug G a o b = G b := if_neg h
theorem dg_ne {G : Gm} {a b : Addr} (h : b ≠ a) : dg G a b = G b := if_neg h
theorem dg_same {G : Gm} {a : Addr} : dg G a a = none := if_pos rfl

abbrev st (s : List Nat) : Str := ⟨s.toArray⟩
theorem st_len (s : List Nat) : (st s).length = s.length := by
  show s.toArray.size = s.length
  exact List.size_toArray
theorem st_cps (s : List Nat) : (st s).cps.toList = s := rfl
theorem st_inj {s t : List Nat} (h : st s = st t) : s = t := by
  have e := congrArg (fun x : Str => x.cps.toList) h
  exact e
theorem st_app (s t : List Nat) : st s ++ st t = st (s ++ t) := TL.ext_tl (by rw [TL.tl_append])

/-! ### what a tree stands for -/
mutual
inductive Rp (K : PySem.W.Frag) (F : Hp) : V → D → Prop
  | non : Rp K F .non .non
  | bl (b : Bool) : Rp K F (.bl b) (.bl b)
  | int (i : Int) : Rp K F (.int i) (.int i)
  | str (s : List Nat) : Rp K F (.str (st s)) (.str s)
  | adr (a : Addr) : Rp K F (.ref a) (.adr a)
  | tup {a : Addr} {vs : List V} {ds : List D} (h : SqT K F a vs) (r : RpAll K F vs ds) : Rp K F (.ref a) (.tup ds)
  | lst {a : Addr} {vs : List V} {ds : List D} (h : F a = some (.lst vs)) (r : RpAll K F vs ds) : Rp K F (.ref a) (.lst ds)
  | seq {a : Addr} {vs : List V} {ds : List D} (h : SqL K F a vs) (r : RpAll K F vs ds) : Rp K F (.ref a) (.seq ds)
  | ins {a dx : Addr} {c : Str} {vfs : List (Str × V)} {fs : List (Str × D)} (h : F a = some (.ins (He.ga K c) dx vfs)) (r : RpF K F vfs fs) : Rp K F (.ref a) (.ins c fs)
  | dk {a : Addr} {vs : List (Key × V)} {ds : List (Key × D)} (h : F a = some (.dK vs)) (r : RpK K F vs ds) : Rp K F (.ref a) (.dk ds)
  | dt {a : Addr} {vs : List (List Key × V)} {ds : List (List Key × D)} (h : F a = some (.dT vs)) (r : RpT K F vs ds) : Rp K F (.ref a) (.dt ds)
inductive RpAll (K : PySem.W.Frag) (F : Hp) : List V → List D → Prop
  | nil : RpAll K F [] []
  | cons {v : V} {d : D} {vs : List V} {ds : List D} (h : Rp K F v d) (r : RpAll K F vs ds) : RpAll K F (v :: vs) (d :: ds)
inductive RpF (K : PySem.W.Frag) (F : Hp) : List (Str × V) → List (Str × D) → Prop
  | nil : RpF K F [] []
  | cons {f : Str} {v : V} {d : D} {vs : List (Str × V)} {ds : List (Str × D)} (h : Rp K F v d) (r : RpF K F vs ds) : RpF K F ((f, v) :: vs) ((f, d) :: ds)
inductive RpK (K : PySem.W.Frag) (F : Hp) : List (Key × V) → List (Key × D) → Prop
  | nil : RpK K F [] []
  | cons {f : Key} {v : V} {d : D} {vs : List (Key × V)} {ds : List (Key × D)} (h : Rp K F v d) (r : RpK K F vs ds) : RpK K F ((f, v) :: vs) ((f, d) :: ds)
inductive RpT (K : PySem.W.Frag) (F : Hp) : List (List Key × V) → List (List Key × D) → Prop
  | nil : RpT K F [] []
  | cons {f : List Key} {v : V} {d : D} {vs : List (List Key × V)} {ds : List (List Key × D)} (h : Rp K F v d) (r : RpT K F vs ds) : RpT K F ((f, v) :: vs) ((f, d) :: ds)
end
def Ex (H H' : Hp) : Prop := ∀ a o, H a = some o → H' a = some o
theorem Ex.rf (H : Hp) : Ex H H := fun _ _ h => h
theorem Ex.tr {H H1 H2 : Hp} (a : Ex H H1) (b : Ex H1 H2) : Ex H H2 := fun x o h => b x o (a x o h)
theorem Ex.new {H : Hp} {p : Addr} {o : HO} (h : H p = none) : Ex H (upd H p o) := fun a u e => by
  rw [upd_ne (ne_of_none e h)]; exact e
theorem Ex.rd {H H' : Hp} {a : Addr} {u : HO} (e : Ex H H') (h : Rd H a u) : Rd H' a u := by
  rcases h with h | ⟨o, h⟩
  · exact Or.inl (e a _ h)
  · exact Or.inr ⟨o, e a _ h⟩
theorem Ex.sl {K : PySem.W.Frag} {H H' : Hp} {a : Addr} {xs : List V} (e : Ex H H') (h : SqL K H a xs) : SqL K H' a xs := h.imp (e.rd) id
theorem Ex.sq {K : PySem.W.Frag} {H H' : Hp} {a : Addr} {xs : List V} (e : Ex H H') (h : SqT K H a xs) : SqT K H' a xs := h.imp (e.rd) id
theorem Ex.back {H H' : Hp} {p : Addr} (e : Ex H H') (h : H' p = none) : H p = none := by
  cases q : H p with
  | none => rfl
  | some o => rw [e p o q] at h; cases h
mutual
theorem Rp.mono {K : PySem.W.Frag} {F F' : Hp} (e : Ex F F') {v : V} {d : D} : Rp K F v d → Rp K F' v d
  | .non => .non
  | .bl b => .bl b
  | .int i => .int i
  | .str s => .str s
  | .adr a => .adr a
  | .tup h r => .tup (e.sq h) (r.mono e)
  | .lst h r => .lst (e _ _ h) (r.mono e)
  | .seq h r => .seq (e.sl h) (r.mono e)
  | .ins h r => .ins (e _ _ h) (r.mono e)
  | .dk h r => .dk (e _ _ h) (r.mono e)
  | .dt h r => .dt (e _ _ h) (r.mono e)
theorem RpAll.mono {K : PySem.W.Frag} {F F' : Hp} (e : Ex F F') {v : List V} {d : List D} : RpAll K F v d → RpAll K F' v d
  | .nil => .nil
  | .cons h r => .cons (h.mono e) (r.mono e)
theorem RpF.mono {K : PySem.W.Frag} {F F' : Hp} (e : Ex F F') {v : List (Str × V)} {d : List (Str × D)} : RpF K F v d → RpF K F' v d
  | .nil => .nil
  | .cons h r => .cons (h.mono e) (r.mono e)
theorem RpK.mono {K : PySem.W.Frag} {F F' : Hp} (e : Ex F F') {v : List (Key × V)} {d : List (Key × D)} : RpK K F v d → RpK K F' v d
  | .nil => .nil
  | .cons h r => .cons (h.mono e) (r.mono e)
theorem RpT.mono {K : PySem.W.Frag} {F F' : Hp} (e : Ex F F') {v : List (List Key × V)} {d : List (List Key × D)} : RpT K F v d → RpT K F' v d
  | .nil => .nil
  | .cons h r => .cons (h.mono e) (r.mono e)
end
theorem RpAll.len {K : PySem.W.Frag} {F : Hp} : ∀ {vs : List V} {ds : List D}, RpAll K F vs ds → vs.length = ds.length
  | _, _, .nil => rfl
  | _, _, .cons _ r => congrArg (· + 1) r.len
theorem RpAll.get {K : PySem.W.Frag} {F : Hp} : ∀ {vs : List V} {ds : List D} {i : Nat} {d : D}, RpAll K F vs ds → ds[i]? = some d → ∃ v, vs[i]? = some v ∧ Rp K F v d
  | _, _, _, _, .nil, e => by simp at e
  | _, _, 0, _, .cons h _, e => by simp at e; subst e; exact ⟨_, rfl, h⟩
  | _, _, i + 1, d, .cons _ r, e => by simpa using r.get (i := i) (d := d) (by simpa using e)
theorem RpAll.getV {K : PySem.W.Frag} {F : Hp} : ∀ {vs : List V} {ds : List D} {i : Nat} {v : V}, RpAll K F vs ds → vs[i]? = some v → ∃ d, ds[i]? = some d ∧ Rp K F v d
  | _, _, _, _, .nil, e => by simp at e
  | _, _, 0, _, .cons h _, e => by simp at e; subst e; exact ⟨_, rfl, h⟩
  | _, _, i + 1, d, .cons _ r, e => by simpa using r.getV (i := i) (v := d) (by simpa using e)
theorem RpAll.app {K : PySem.W.Frag} {F : Hp} : ∀ {vs ws : List V} {ds es : List D}, RpAll K F vs ds → RpAll K F ws es → RpAll K F (vs ++ ws) (ds ++ es)
  | _, _, _, _, .nil, s => s
  | _, _, _, _, .cons h r, s => .cons h (r.app s)
theorem RpAll.drop {K : PySem.W.Frag} {F : Hp} : ∀ {vs : List V} {ds : List D} (n : Nat), RpAll K F vs ds → RpAll K F (vs.drop n) (ds.drop n)
  | _, _, 0, r => r
  | _, _, _ + 1, .nil => .nil
  | _, _, n + 1, .cons _ r => r.drop n
theorem RpAll.take {K : PySem.W.Frag} {F : Hp} : ∀ {vs : List V} {ds : List D} (n : Nat), RpAll K F vs ds → RpAll K F (vs.take n) (ds.take n)
  | _, _, 0, _ => .nil
  | _, _, _ + 1, .nil => .nil
  | _, _, n + 1, .cons h r => .cons h (r.take n)
theorem RpAll.set {K : PySem.W.Frag} {F : Hp} {v : V} {d : D} (h : Rp K F v d) : ∀ {vs : List V} {ds : List D} (n : Nat), RpAll K F vs ds → RpAll K F (vs.set n v) (ds.set n d)
  | _, _, _, .nil => .nil
  | _, _, 0, .cons _ r => .cons h r
  | _, _, n + 1, .cons g r => .cons g (RpAll.set h n r)
theorem RpAll.erase {K : PySem.W.Frag} {F : Hp} : ∀ {vs : List V} {ds : List D} (n : Nat), RpAll K F vs ds → RpAll K F (vs.eraseIdx n) (ds.eraseIdx n)
  | _, _, _, .nil => .nil
  | _, _, 0, .cons _ r => r
  | _, _, n + 1, .cons g r => .cons g (r.erase n)
theorem RpAll.init {K : PySem.W.Frag} {F : Hp} {vs : List V} {ds : List D} (r : RpAll K F vs ds) : RpAll K F vs.dropLast ds.dropLast := by
  rw [List.dropLast_eq_take, List.dropLast_eq_take, r.len]
  exact r.take _
theorem RpAll.rep {K : PySem.W.Frag} {F : Hp} {vs : List V} {ds : List D} (r : RpAll K F vs ds) : ∀ n : Nat, RpAll K F (List.replicate n vs).flatten (List.replicate n ds).flatten
  | 0 => .nil
  | n + 1 => by
    rw [List.replicate_succ, List.replicate_succ, List.flatten_cons, List.flatten_cons]
    exact r.app (RpAll.rep r n)
theorem RpAll.rev {K : PySem.W.Frag} {F : Hp} : ∀ {vs : List V} {ds : List D}, RpAll K F vs ds → RpAll K F vs.reverse ds.reverse
  | _, _, .nil => .nil
  | _, _, .cons h r => by
    rw [List.reverse_cons, List.reverse_cons]
    exact r.rev.app (.cons h .nil)
theorem RpAll.nils {K : PySem.W.Frag} {F : Hp} {vs : List V} : RpAll K F vs [] → vs = []
  | .nil => rfl
theorem RpAll.ints {K : PySem.W.Frag} {F : Hp} : ∀ {vs : List V} {ns : List Int}, RpAll K F vs (ns.map D.int) → vs = ns.map V.int
  | [], [], _ => rfl
  | v :: vs, n :: ns, h => by
    cases h with
    | cons h r => cases h; rw [List.map_cons, r.ints]
theorem RpAll.bls {K : PySem.W.Frag} {F : Hp} : ∀ {vs : List V} {ns : List Bool}, RpAll K F vs (ns.map D.bl) → vs = ns.map V.bl
  | [], [], _ => rfl
  | v :: vs, n :: ns, h => by
    cases h with
    | cons h r => cases h; rw [List.map_cons, r.bls]
theorem RpAll.strs {K : PySem.W.Frag} {F : Hp} : ∀ {vs : List V} {ns : List (List Nat)}, RpAll K F vs (ns.map D.str) → vs = (ns.map st).map V.str
  | [], [], _ => rfl
  | v :: vs, n :: ns, h => by
    cases h with
    | cons h r => cases h; rw [List.map_cons, List.map_cons, r.strs]
theorem RpAll.ofInts {K : PySem.W.Frag} {F : Hp} : ∀ (ns : List Int), RpAll K F (ns.map V.int) (ns.map D.int)
  | [] => .nil
  | n :: ns => .cons (.int n) (RpAll.ofInts ns)
theorem RpAll.ofStrs {K : PySem.W.Frag} {F : Hp} : ∀ (ns : List (List Nat)), RpAll K F ((ns.map st).map V.str) (ns.map D.str)
  | [] => .nil
  | n :: ns => .cons (.str n) (RpAll.ofStrs ns)
theorem RpF.lk {K : PySem.W.Frag} {F : Hp} {f : Str} {d : D} : ∀ {vs : List (Str × V)} {ds : List (Str × D)}, RpF K F vs ds → ds.lookup f = some d → ∃ v, vs.lookup f = some v ∧ Rp K F v d
  | _, _, .nil, e => by simp at e
  | _, _, .cons (f := g) (v := v) h r, e => by
    rw [List.lookup_cons] at e ⊢
    cases q : (f == g) with
    | true => rw [q] at e; cases e; exact ⟨v, rfl, h⟩
    | false => rw [q] at e; exact r.lk e
theorem RpF.lkn {K : PySem.W.Frag} {F : Hp} {f : Str} : ∀ {vs : List (Str × V)} {ds : List (Str × D)}, RpF K F vs ds → ds.lookup f = none → vs.lookup f = none
  | _, _, .nil, _ => rfl
  | _, _, .cons (f := g) (v := v) h r, e => by
    rw [List.lookup_cons] at e ⊢
    cases q : (f == g) with
    | true => rw [q] at e; cases e
    | false => rw [q] at e; exact r.lkn e
/-- an attribute stored -/
def pf (f : Str) (v : D) : List (Str × D) → List (Str × D)
  | [] => [(f, v)]
  | (g, x) :: r => if g = f then (g, v) :: r else (g, x) :: pf f v r
theorem RpF.put {K : PySem.W.Frag} {F : Hp} {f : Str} {v : V} {d : D} (h : Rp K F v d) : ∀ {vs : List (Str × V)} {ds : List (Str × D)}, RpF K F vs ds → RpF K F (putF f v vs) (pf f d ds)
  | _, _, .nil => .cons h .nil
  | _, _, .cons (f := g) q r => by
    unfold putF pf
    by_cases e : g = f
    · rw [if_pos e, if_pos e]; exact .cons h r
    · rw [if_neg e, if_neg e]; exact .cons q (RpF.put h r)
theorem RpF.len {K : PySem.W.Frag} {F : Hp} : ∀ {vs : List (Str × V)} {ds : List (Str × D)}, RpF K F vs ds → vs.length = ds.length
  | _, _, .nil => rfl
  | _, _, .cons _ r => congrArg (· + 1) r.len

/-! ### the store over the heap -/
def MoOk (K : PySem.W.Frag) (F H : Hp) (a : Addr) : MO → Prop
  | .lst ds => F a = none ∧ ∃ vs, H a = some (.lst vs) ∧ RpAll K F vs ds
  | .ins c fs => F a = none ∧ ∃ dx vfs, H a = some (.ins (He.ga K c) dx vfs) ∧ RpF K F vfs fs
  | .dk ds => F a = none ∧ ∃ vs, H a = some (.dK vs) ∧ RpK K F vs ds
  | .dt ds => F a = none ∧ ∃ vs, H a = some (.dT vs) ∧ RpT K F vs ds
/-- F: what is laid for good; G: the store -/
structure RG (K : PySem.W.Frag) (F : Hp) (G : Gm) (H : Hp) : Prop where
  ex : Ex F H
  mo : ∀ a o, G a = some o → MoOk K F H a o
abbrev Env := List (Option D)
structure Sl (K : PySem.W.Frag) (F : Hp) (σ : L2.St) (env : Env) : Prop where
  len : σ.length = env.length
  at_ : ∀ (i : Nat) (d : D), env[i]? = some (some d) → ∃ v : V, σ[i]? = some (some v) ∧ Rp K F v d
theorem Sl.mono {K : PySem.W.Frag} {F F' : Hp} {σ : L2.St} {env : Env} (s : Sl K F σ env) (e : Ex F F') : Sl K F' σ env :=
  ⟨s.len, fun i d h => let ⟨v, h1, h2⟩ := s.at_ i d h; ⟨v, h1, h2.mono e⟩⟩
theorem Sl.put {K : PySem.W.Frag} {F : Hp} {σ : L2.St} {env : Env} (s : Sl K F σ env) {v : V} {d : D} (h : Rp K F v d) (i : Nat) : Sl K F (σ.set i (some v)) (env.set i (some d)) := by
  refine ⟨by rw [List.length_set, List.length_set]; exact s.len, fun j e hj => ?_⟩
  by_cases q : i = j
  · subst q
    rw [List.getElem?_set] at hj ⊢
    simp only [if_true] at hj ⊢
    rw [← s.len] at hj
    split at hj
    · rename_i hl
      have e1 := Option.some.inj (Option.some.inj hj)
      subst e1
      exact ⟨v, by rw [if_pos hl], h⟩
    · cases hj
  · rw [List.getElem?_set_ne q] at hj ⊢
    exact s.at_ j e hj
theorem Sl.none {K : PySem.W.Frag} {F : Hp} {σ : L2.St} {env : Env} (s : Sl K F σ env) (i : Nat) : Sl K F (σ.set i none) (env.set i none) := by
  refine ⟨by rw [List.length_set, List.length_set]; exact s.len, fun j e hj => ?_⟩
  by_cases q : i = j
  · subst q
    rw [List.getElem?_set] at hj
    simp only [if_true] at hj
    split at hj
    · cases hj
    · cases hj
  · rw [List.getElem?_set_ne q] at hj ⊢
    exact s.at_ j e hj
def subG (G0 G : Gm) : Prop := ∀ a o, G0 a = some o → G a = some o
theorem subG.rf (G : Gm) : subG G G := fun _ _ h => h
theorem RG.sub {K : PySem.W.Frag} {F H : Hp} {G G0 : Gm} (r : RG K F G H) (s : subG G0 G) : RG K F G0 H := ⟨r.ex, fun a o h => r.mo a o (s a o h)⟩
theorem MoOk.live {K : PySem.W.Frag} {F H : Hp} {a : Addr} {o : MO} (h : MoOk K F H a o) : F a = none ∧ H a ≠ none := by
  cases o with
  | lst ds => obtain ⟨h1, vs, h2, _⟩ := h; exact ⟨h1, by rw [h2]; exact fun z => nomatch z⟩
  | ins c fs => obtain ⟨h1, dx, vs, h2, _⟩ := h; exact ⟨h1, by rw [h2]; exact fun z => nomatch z⟩
  | dk ds => obtain ⟨h1, vs, h2, _⟩ := h; exact ⟨h1, by rw [h2]; exact fun z => nomatch z⟩
  | dt ds => obtain ⟨h1, vs, h2, _⟩ := h; exact ⟨h1, by rw [h2]; exact fun z => nomatch z⟩
theorem RG.freeG {K : PySem.W.Frag} {F H : Hp} {G : Gm} (r : RG K F G H) {p : Addr} (h : H p = none) : G p = none := by
  cases q : G p with
  | none => rfl
  | some o => exact absurd h (r.mo p o q).live.2
theorem RG.freeF {K : PySem.W.Frag} {F H : Hp} {G : Gm} (r : RG K F G H) {p : Addr} (h : H p = none) : F p = none := r.ex.back h
theorem MoOk.mono {K : PySem.W.Frag} {F F' H H' : Hp} {a : Addr} {o : MO} (m : MoOk K F H a o) (e : Ex F F') (hF : F' a = none) (hH : H' a = H a) : MoOk K F' H' a o := by
  cases o with
  | lst ds => obtain ⟨h1, vs, h2, h3⟩ := m; exact ⟨hF, vs, hH.trans h2, h3.mono e⟩
  | ins c fs => obtain ⟨h1, dx, vs, h2, h3⟩ := m; exact ⟨hF, dx, vs, hH.trans h2, h3.mono e⟩
  | dk ds => obtain ⟨h1, vs, h2, h3⟩ := m; exact ⟨hF, vs, hH.trans h2, h3.mono e⟩
  | dt ds => obtain ⟨h1, vs, h2, h3⟩ := m; exact ⟨hF, vs, hH.trans h2, h3.mono e⟩
/-- a new thing, laid for good -/
theorem RG.lay {K : PySem.W.Frag} {F H : Hp} {G : Gm} (r : RG K F G H) {p : Addr} {o : HO} (h : H p = none) : Ex F (upd F p o) ∧ RG K (upd F p o) G (upd H p o) := by
  have e : Ex F (upd F p o) := Ex.new (r.freeF h)
  refine ⟨e, fun a u q => ?_, fun a u q => ?_⟩
  · by_cases z : a = p
    · subst z; rw [upd_same] at q ⊢; exact q
    · rw [upd_ne z] at q ⊢; exact r.ex a u q
  · have m := r.mo a u q
    have z : a ≠ p := fun z => m.live.2 (z ▸ h)
    exact m.mono e (by rw [upd_ne z]; exact m.live.1) (upd_ne z)
/-- a new thing, mutable -/
theorem RG.lay2 {K : PySem.W.Frag} {F H : Hp} {G : Gm} (r : RG K F G H) {p : Addr} {o : HO} {m : MO} (h : H p = none) (ok : MoOk K F (upd H p o) p m) : RG K F (ug G p m) (upd H p o) := by
  refine ⟨fun a u q => ?_, fun a u q => ?_⟩
  · have z : a ≠ p := fun z => by subst z; rw [r.freeF h] at q; cases q
    rw [upd_ne z]; exact r.ex a u q
  · by_cases z : a = p
    · subst z; rw [ug_same] at q; cases q; exact ok
    · rw [ug_ne z] at q
      have w := r.mo a u q
      exact w.mono (Ex.rf F) w.live.1 (upd_ne z)
/-- a mutable thing is changed -/
theorem RG.chg {K : PySem.W.Frag} {F H : Hp} {G : Gm} (r : RG K F G H) {p : Addr} {o : HO} {m : MO} (h : F p = none) (ok : MoOk K F (upd H p o) p m) : RG K F (ug G p m) (upd H p o) := by
  refine ⟨fun a u q => ?_, fun a u q => ?_⟩
  · have z : a ≠ p := fun z => by subst z; rw [h] at q; cases q
    rw [upd_ne z]; exact r.ex a u q
  · by_cases z : a = p
    · subst z; rw [ug_same] at q; cases q; exact ok
    · rw [ug_ne z] at q
      have w := r.mo a u q
      exact w.mono (Ex.rf F) w.live.1 (upd_ne z)
/-- a mutable thing becomes one for good -/
theorem RG.frz {K : PySem.W.Frag} {F H : Hp} {G : Gm} (r : RG K F G H) {p : Addr} {o : HO} (h : F p = none) (ho : H p = some o) : Ex F (upd F p o) ∧ RG K (upd F p o) (dg G p) H := by
  have e : Ex F (upd F p o) := Ex.new h
  refine ⟨e, fun a u q => ?_, fun a u q => ?_⟩
  · by_cases z : a = p
    · subst z; rw [upd_same] at q; rw [ho]; exact q
    · rw [upd_ne z] at q; exact r.ex a u q
  · by_cases z : a = p
    · subst z; rw [dg_same] at q; cases q
    · rw [dg_ne z] at q
      have w := r.mo a u q
      exact w.mono e (by rw [upd_ne z]; exact w.live.1) rfl

/-! ### exceptions -/
structure XD where
  c : Str
  fs : List (Str × D)
def RX (K : PySem.W.Frag) (F : Hp) (cls : Value) (dd : Option Addr) (x : XD) : Prop :=
  cls = .ref (He.ga K x.c) ∧ match x.fs with
    | [] => dd = none
    | _ :: _ => ∃ d vfs, dd = some d ∧ F d = some (.xd vfs) ∧ RpF K F vfs x.fs
theorem RX.mono {K : PySem.W.Frag} {F F' : Hp} {cls : Value} {dd : Option Addr} {x : XD} (h : RX K F cls dd x) (e : Ex F F') : RX K F' cls dd x := by
  obtain ⟨c, fs⟩ := x
  refine ⟨h.1, ?_⟩
  cases fs with
  | nil => exact h.2
  | cons y ys =>
    obtain ⟨d, vfs, h1, h2, h3⟩ := h.2
    exact ⟨d, vfs, h1, e _ _ h2, h3.mono e⟩

/-! ### codes and their readings -/
structure Kn (α : Type) where
  ok : α → Gm → Prop
  ex : XD → Gm → Prop
abbrev Cd (α : Type) := Kn α → Env → Gm → Prop
abbrev CE := Cd D
abbrev CT := Cd Bool
abbrev CA := Cd (List D)
structure En where
  nx : Env → Gm → Prop
  rt : D → Gm → Prop
  bk : Env → Gm → Prop
  ct : Env → Gm → Prop
  ex : XD → Env → Gm → Prop
abbrev CS := En → Env → Gm → Prop
/-- what is wanted of a value below is wanted above -/
def Kok {α β : Type} (K : PySem.W.Frag) (R : Hp → β → α → Prop) (F : Hp) (q : α → Gm → Prop) (Q : β → Hp → Prop) : Prop :=
  ∀ d G', q d G' → ∀ v F' H', Ex F F' → RG K F' G' H' → R F' v d → Q v H'
def Kex (K : PySem.W.Frag) (W : WX) (F : Hp) (σ : L2.St) (e : XD → Gm → Prop) : Prop :=
  ∀ x G', e x G' → ∀ cls dd F' H', Ex F F' → RG K F' G' H' → RX K F' cls dd x → W cls dd σ H'
theorem Kok.up {α β : Type} {K : PySem.W.Frag} {R : Hp → β → α → Prop} {F F1 : Hp} {q : α → Gm → Prop} {Q : β → Hp → Prop} (k : Kok K R F q Q) (e : Ex F F1) : Kok K R F1 q Q :=
  fun d G' h v F' H' e' => k d G' h v F' H' (e.tr e')
theorem Kex.up {K : PySem.W.Frag} {W : WX} {F F1 : Hp} {σ : L2.St} {x : XD → Gm → Prop} (k : Kex K W F σ x) (e : Ex F F1) : Kex K W F1 σ x :=
  fun d G' h v dd F' H' e' => k d G' h v dd F' H' (e.tr e')
def rd {α β : Type} (K : PySem.W.Frag) (R : Hp → β → α → Prop) (W : WX) (c : Cd α) : L2.St → Hp → (β → Hp → Prop) → Prop := fun σ H Q =>
  ∃ F G env k, RG K F G H ∧ Sl K F σ env ∧ c k env G ∧ Kok K R F k.ok Q ∧ Kex K W F σ k.ex
abbrev rdE (K : PySem.W.Frag) (W : WX) (c : CE) : TE := rd K (Rp K) W c
abbrev rdT (K : PySem.W.Frag) (W : WX) (c : CT) : TT := rd K (fun _ v d => v = d) W c
abbrev rdA (K : PySem.W.Frag) (W : WX) (c : CA) : TA := rd K (RpAll K) W c
abbrev RO : Hp → Option Int → Option Int → Prop := fun _ v d => v = d
/-- THE STEP: a code, then what follows of its value -/
theorem rd_bind {α β α' β' : Type} {K : PySem.W.Frag} {R : Hp → β → α → Prop} {R' : Hp → β' → α' → Prop} {W : WX} {c : Cd α} {f : α → Kn α' → Env → Gm → Prop} {σ : L2.St} {H : Hp} {Q : β' → Hp → Prop} {F : Hp} {G : Gm} {env : Env} {k : Kn α'}
    (r : RG K F G H) (s : Sl K F σ env) (h : c ⟨fun d G1 => f d k env G1, k.ex⟩ env G) (ko : Kok K R' F k.ok Q) (kx : Kex K W F σ k.ex) :
    rd K R W c σ H fun v H1 => ∃ F1 G1 d, RG K F1 G1 H1 ∧ Sl K F1 σ env ∧ R F1 v d ∧ Ex F F1 ∧ f d k env G1 ∧ Kok K R' F1 k.ok Q ∧ Kex K W F1 σ k.ex :=
  ⟨F, G, env, _, r, s, h, fun d G' hd v F' H' e r' hR => ⟨F', G', d, r', s.mono e, hR, e, hd, ko.up e, kx.up e⟩, kx⟩
theorem PE.conv {X : Cx} {e : Expr} {t t' : TE} (h : PE X e t) (c : ∀ σ H Q, t' σ H Q → t σ H Q) : PE X e t' := ⟨fun pins s σ H Q I q => h.run pins s σ H Q I (c σ H Q q)⟩
theorem PT.conv {X : Cx} {e : Expr} {t t' : TT} (h : PT X e t) (c : ∀ σ H Q, t' σ H Q → t σ H Q) : PT X e t' := ⟨fun pins s σ H Q I q => h.run pins s σ H Q I (c σ H Q q)⟩
theorem PW.conv {X : Cx} {e : Expr} {t t' : TT} (h : PW X e t) (c : ∀ σ H Q, t' σ H Q → t σ H Q) : PW X e t' := ⟨fun wh pins s σ H Q I q => h.run wh pins s σ H Q I (c σ H Q q)⟩
theorem PA.conv {X : Cx} {e : List Expr} {t t' : TA} (h : PA X e t) (c : ∀ σ H Q, t' σ H Q → t σ H Q) : PA X e t' := ⟨fun p pins s σ H Q I q => h.run p pins s σ H Q I (c σ H Q q)⟩
theorem PS.conv {X : Cx} {e : Stmt} {t t' : TS} (h : PS X e t) (c : ∀ Ds σ H, t' Ds σ H → t Ds σ H) : PS X e t' := ⟨fun pins s σ H Q I q => h.run pins s σ H Q I (c Q σ H q)⟩
theorem PSs.conv {X : Cx} {e : List Stmt} {t t' : TS} (h : PSs X e t) (c : ∀ Ds σ H, t' Ds σ H → t Ds σ H) : PSs X e t' := ⟨fun pins s σ H Q I q => h.run pins s σ H Q I (c Q σ H q)⟩
theorem PO.conv {X : Cx} {e : Option Expr} {t t' : TO} (h : PO X e t) (c : ∀ σ H Q, t' σ H Q → t σ H Q) : PO X e t' := ⟨fun pins s σ H Q I q => h.run pins s σ H Q I (c σ H Q q)⟩
end Dl
set_option maxHeartbeats 4000000
/-! DL2: expressions over trees. -/
namespace Dl
open PySem PySem.Spec PyProof.Rows L2
theorem szk {n : Nat} (h : n ≤ 16777216) : n ≤ sizeLine := by rw [sizeLine_eq]; exact h
theorem rd_mono {α β : Type} {K : PySem.W.Frag} {R : Hp → β → α → Prop} {W : WX} {c : Cd α} {σ : L2.St} {H : Hp} {Q Q' : β → Hp → Prop} (h : rd K R W c σ H Q) (m : ∀ v H, Q v H → Q' v H) : rd K R W c σ H Q' := by
  obtain ⟨F, G, env, k, r, s, hc, ko, kx⟩ := h
  exact ⟨F, G, env, k, r, s, hc, fun d G' q v F' H' e r' hR => m _ _ (ko d G' q v F' H' e r' hR), kx⟩
/-- what holds of a value behind a code that goes on as f -/
structure Bh {α β α' β' : Type} (K : PySem.W.Frag) (R : Hp → β → α → Prop) (R' : Hp → β' → α' → Prop) (W : WX) (σ : L2.St) (env : Env) (F0 : Hp) (f : α → Kn α' → Env → Gm → Prop) (k : Kn α') (Q : β' → Hp → Prop) (v : β) (H1 : Hp) : Prop where
  ex : ∃ F1 G1 d, RG K F1 G1 H1 ∧ Sl K F1 σ env ∧ R F1 v d ∧ Ex F0 F1 ∧ f d k env G1 ∧ Kok K R' F1 k.ok Q ∧ Kex K W F1 σ k.ex
variable {X : Cx} {W : WX} {a b c e : Expr} {es : List Expr} {ca cb cc ce : CE} {pos : Pos}

/-! ### names, constants -/
def cVar (i : Nat) : CE := fun k env G => ∃ d, env[i]? = some (some d) ∧ k.ok d G
def cC (d : D) : CE := fun k _ G => k.ok d G
theorem de_var {i : Nat} {x : Str} (hN : X.N[i]? = some x := by rfl) (hv : Vis X.env.scope x := by first | exact Or.inl rfl | exact Or.inr (Or.inl rfl) | exact Or.inr (Or.inr rfl)) (hd : (x == ("__debug__" : Str)) = false := by decide)
    (hcd : (x == ("__classdict__" : Str)) = false := by decide) : PE X (.Name x pos) (rdE X.K W (cVar i)) :=
  PE.conv (pe_var hN hv hd hcd) fun σ H Q ⟨F, G, env, k, r, s, ⟨d, h1, h2⟩, ko, _⟩ => by
    obtain ⟨v, e1, e2⟩ := s.at_ i d h1
    exact ⟨v, e1, ko d G h2 v F H (Ex.rf F) r e2⟩
theorem de_c {t : TE} {d : D} {v : V} (h : PE X e (tC v)) (hr : ∀ K F, Rp K F v d) : PE X e (rdE X.K W (cC d)) :=
  PE.conv h fun σ H Q ⟨F, G, env, k, r, s, h, ko, _⟩ => ko d G h v F H (Ex.rf F) r (hr _ _)
theorem de_int {i : Int} {j pos} : PE X (.Constant (.int i) j pos) (rdE X.K W (cC (.int i))) := de_c (t := tC .non) pe_int fun _ _ => .int _
theorem de_bl {i : Bool} {j pos} : PE X (.Constant (.bool i) j pos) (rdE X.K W (cC (.bl i))) := de_c (t := tC .non) pe_bl fun _ _ => .bl _
theorem de_non {j pos} : PE X (.Constant .none j pos) (rdE X.K W (cC .non)) := de_c (t := tC .non) pe_non fun _ _ => .non
theorem de_str {x : Str} {s : List Nat} {j pos} (hs : x = st s := by rfl) : PE X (.Constant (.str x) j pos) (rdE X.K W (cC (.str s))) := by
  subst hs
  exact de_c (t := tC .non) pe_str fun _ _ => .str _
/-- a module's constant text, number -/
theorem de_gstr {x : Str} {s : List Nat} {z : Str} (hm : ∃ t, X.mg x = some (.str z t)) (hz : z = st s := by rfl) (hg : Gl X x := by rfl) (hd : (x == ("__debug__" : Str)) = false := by decide) : PE X (.Name x pos) (rdE X.K W (cC (.str s))) := by
  subst hz
  obtain ⟨t, hm⟩ := hm
  exact de_c (t := tC .non) (pe_glob (v := .str (st s)) hg hm ⟨t, rfl⟩ hd) fun _ _ => .str _
theorem de_gint {x : Str} {i : Int} (hm : ∃ t, X.mg x = some (.int i t)) (hg : Gl X x := by rfl) (hd : (x == ("__debug__" : Str)) = false := by decide) : PE X (.Name x pos) (rdE X.K W (cC (.int i))) := by
  obtain ⟨t, hm⟩ := hm
  exact de_c (t := tC .non) (pe_glob (v := .int i) hg hm ⟨t, rfl⟩ hd) fun _ _ => .int _

/-! ### operators -/
abbrev DOp := D → D → (D → Gm → Prop) → Gm → Prop
def cOp (r : DOp) (ca cb : CE) : CE := fun k env G => ca ⟨fun x G1 => cb ⟨fun y G2 => r x y k.ok G2, k.ex⟩ env G1, k.ex⟩ env G
def rdR2 (K : PySem.W.Frag) (r : DOp) : R2 := fun x y H Q => ∃ F G dx dy q, RG K F G H ∧ Rp K F x dx ∧ Rp K F y dy ∧ r dx dy q G ∧ Kok K (Rp K) F q Q
/-- two operands in a row -/
theorem rd_two {r : DOp} {K : PySem.W.Frag} {σ : L2.St} {H : Hp} {Q : VK} (h : rdE K W (cOp r ca cb) σ H Q) : rdE K W ca σ H fun x H1 => rdE K W cb σ H1 fun y H2 => rdR2 K r x y H2 Q := by
  obtain ⟨F, G, env, k, r0, s, hc, ko, kx⟩ := h
  refine rd_mono (rd_bind (f := fun x k env G1 => cb ⟨fun y G2 => r x y k.ok G2, k.ex⟩ env G1) r0 s hc ko kx) fun x H1 ⟨F1, G1, d, r1, s1, hd, e1, h1, ko1, kx1⟩ => ?_
  refine rd_mono (rd_bind (f := fun y k env G2 => r d y k.ok G2) r1 s1 h1 ko1 kx1) fun y H2 ⟨F2, G2, d2, r2, s2, hd2, e2, h2, ko2, kx2⟩ => ?_
  exact ⟨F2, G2, d, d2, k.ok, r2, hd.mono e2, hd2, h2, ko2⟩
theorem de_op {op : Operator} {r : DOp} (ho : OpR X (binaryOp op) (rdR2 X.K r)) (ha : PE X a (rdE X.K W ca)) (hb : PE X b (rdE X.K W cb)) : PE X (.BinOp a op b pos) (rdE X.K W (cOp r ca cb)) :=
  PE.conv (pe_op ho ha hb) fun _ _ _ h => rd_two h
theorem de_cmp {op : CmpOp} {r : DOp} (ho : OpR X (compareOp op) (rdR2 X.K r)) (ha : PE X a (rdE X.K W ca)) (hb : PE X b (rdE X.K W cb)) (hm : behindInMarks op b = false := by first | exact nomark _ | rfl) : PE X (.Compare a [op] [b] pos) (rdE X.K W (cOp r ca cb)) :=
  PE.conv (pe_cmpR ho ha hb hm) fun _ _ _ h => rd_two h
/-- a value as a test -/
def cB (c : CE) : CT := fun k env G => c ⟨fun d G1 => ∃ b, d = .bl b ∧ k.ok b G1, k.ex⟩ env G
theorem rd_B {K : PySem.W.Frag} {σ : L2.St} {H : Hp} {Q : Bool → Hp → Prop} (h : rdT K W (cB ca) σ H Q) : rdE K W ca σ H fun x H' => ∃ k, x = .bl k ∧ Q k H' := by
  obtain ⟨F, G, env, k, r0, s, hc, ko, kx⟩ := h
  refine rd_mono (rd_bind (f := fun (d : D) (k : Kn Bool) (env : Env) (G1 : Gm) => ∃ b, d = D.bl b ∧ k.ok b G1) r0 s hc ko kx) fun x H1 ⟨F1, G1, d, r1, s1, hd, e1, ⟨b, eb, h1⟩, ko1, kx1⟩ => ?_
  subst eb
  cases hd
  exact ⟨b, rfl, ko1 b G1 h1 b F1 H1 (Ex.rf F1) r1 rfl⟩
theorem dt_cmp {op : CmpOp} {r : DOp} (ho : OpR X (compareOp op) (rdR2 X.K r)) (ha : PE X a (rdE X.K W ca)) (hb : PE X b (rdE X.K W cb)) (hm : behindInMarks op b = false := by first | exact nomark _ | rfl) : PT X (.Compare a [op] [b] pos) (rdT X.K W (cB (cOp r ca cb))) :=
  PT.conv (pt_cmpR ho ha hb hm) fun _ _ _ h => rd_two (rd_B h)
/-- an expression that gives a bool, as a test -/
theorem dt_val (h : PE X e (rdE X.K W ce)) (he : ∀ whole, isTrue e X.env whole = (do let v ← whole; standAt e.pos; holding [v] (truthy v)) := by intro _; rfl) : PT X e (rdT X.K W (cB ce)) :=
  PT.conv (pt_val h he) fun _ _ _ h => rd_B h
def cU (r : D → (D → Gm → Prop) → Gm → Prop) (ca : CE) : CE := fun k env G => ca ⟨fun x G1 => r x k.ok G1, k.ex⟩ env G
def rdR1 (K : PySem.W.Frag) (r : D → (D → Gm → Prop) → Gm → Prop) : V → Hp → VK → Prop := fun x H Q => ∃ F G dx q, RG K F G H ∧ Rp K F x dx ∧ r dx q G ∧ Kok K (Rp K) F q Q
theorem rd_one {r : D → (D → Gm → Prop) → Gm → Prop} {K : PySem.W.Frag} {σ : L2.St} {H : Hp} {Q : VK} (h : rdE K W (cU r ca) σ H Q) : rdE K W ca σ H fun x H1 => rdR1 K r x H1 Q := by
  obtain ⟨F, G, env, k, r0, s, hc, ko, kx⟩ := h
  refine rd_mono (rd_bind (f := fun x k env G1 => r x k.ok G1) r0 s hc ko kx) fun x H1 ⟨F1, G1, d, r1, s1, hd, e1, h1, ko1, kx1⟩ => ?_
  exact ⟨F1, G1, d, k.ok, r1, hd, h1, ko1⟩
theorem de_un {op : UnaryOp} {r : D → (D → Gm → Prop) → Gm → Prop} (ho : UnR X (unaryOp op) (rdR1 X.K r)) (ha : PE X a (rdE X.K W ca)) : PE X (.UnaryOp op a pos) (rdE X.K W (cU r ca)) :=
  PE.conv (pe_un ho ha) fun _ _ _ h => rd_one h

/-! ### and, or, not -/
def cAndV (ca cb : CE) : CE := fun k env G => ca ⟨fun x G1 => ∃ c, x = .bl c ∧ (c = true → cb k env G1) ∧ (c = false → k.ok (.bl false) G1), k.ex⟩ env G
def cOrV (ca cb : CE) : CE := fun k env G => ca ⟨fun x G1 => ∃ c, x = .bl c ∧ (c = true → k.ok (.bl true) G1) ∧ (c = false → cb k env G1), k.ex⟩ env G
def cNotV (ca : CE) : CE := fun k env G => ca ⟨fun x G1 => ∃ c, x = .bl c ∧ k.ok (.bl (!c)) G1, k.ex⟩ env G
variable {rest : List Expr}
theorem de_one {op} (h : PE X a (rdE X.K W ca)) : PE X (.BoolOp op [a] pos) (rdE X.K W ca) := pe_one h
theorem de_and (ha : PE X a (rdE X.K W ca)) (hb : PE X (.BoolOp .And (b :: rest) pos) (rdE X.K W cb)) : PE X (.BoolOp .And (a :: b :: rest) pos) (rdE X.K W (cAndV ca cb)) :=
  PE.conv (pe_and ha hb) fun σ H Q ⟨F, G, env, k, r0, s, hc, ko, kx⟩ => by
    refine rd_mono (rd_bind (f := fun (x : D) (k : Kn D) (env : Env) (G1 : Gm) => ∃ c, x = D.bl c ∧ (c = true → cb k env G1) ∧ (c = false → k.ok (.bl false) G1)) r0 s hc ko kx) fun x H1 ⟨F1, G1, d, r1, s1, hd, e1, ⟨c, eb, h1, h2⟩, ko1, kx1⟩ => ?_
    subst eb
    cases hd
    refine ⟨c, rfl, ?_⟩
    cases c with
    | true => rw [if_pos rfl]; exact ⟨F1, G1, env, k, r1, s1, h1 rfl, ko1, kx1⟩
    | false => rw [if_neg Bool.false_ne_true]; exact ko1 _ G1 (h2 rfl) _ F1 H1 (Ex.rf F1) r1 (.bl _)
theorem de_or (ha : PE X a (rdE X.K W ca)) (hb : PE X (.BoolOp .Or (b :: rest) pos) (rdE X.K W cb)) : PE X (.BoolOp .Or (a :: b :: rest) pos) (rdE X.K W (cOrV ca cb)) :=
  PE.conv (pe_or ha hb) fun σ H Q ⟨F, G, env, k, r0, s, hc, ko, kx⟩ => by
    refine rd_mono (rd_bind (f := fun (x : D) (k : Kn D) (env : Env) (G1 : Gm) => ∃ c, x = D.bl c ∧ (c = true → k.ok (.bl true) G1) ∧ (c = false → cb k env G1)) r0 s hc ko kx) fun x H1 ⟨F1, G1, d, r1, s1, hd, e1, ⟨c, eb, h1, h2⟩, ko1, kx1⟩ => ?_
    subst eb
    cases hd
    refine ⟨c, rfl, ?_⟩
    cases c with
    | false => rw [if_neg Bool.false_ne_true]; exact ⟨F1, G1, env, k, r1, s1, h2 rfl, ko1, kx1⟩
    | true => rw [if_pos rfl]; exact ko1 _ G1 (h1 rfl) _ F1 H1 (Ex.rf F1) r1 (.bl _)
theorem de_not (ha : PE X a (rdE X.K W ca)) : PE X (.UnaryOp .Not a pos) (rdE X.K W (cNotV ca)) :=
  PE.conv (pe_not ha) fun σ H Q ⟨F, G, env, k, r0, s, hc, ko, kx⟩ => by
    refine rd_mono (rd_bind (f := fun (x : D) (k : Kn D) (env : Env) (G1 : Gm) => ∃ c, x = D.bl c ∧ k.ok (.bl (!c)) G1) r0 s hc ko kx) fun x H1 ⟨F1, G1, d, r1, s1, hd, e1, ⟨c, eb, h1⟩, ko1, kx1⟩ => ?_
    subst eb
    cases hd
    exact ⟨c, rfl, ko1 _ G1 h1 _ F1 H1 (Ex.rf F1) r1 (.bl _)⟩
def cAnd (ta tb : CT) : CT := fun k env G => ta ⟨fun c G1 => (c = true → tb k env G1) ∧ (c = false → k.ok false G1), k.ex⟩ env G
def cOr (ta tb : CT) : CT := fun k env G => ta ⟨fun c G1 => (c = true → k.ok true G1) ∧ (c = false → tb k env G1), k.ex⟩ env G
def cNot (ta : CT) : CT := fun k env G => ta ⟨fun c G1 => k.ok (!c) G1, k.ex⟩ env G
variable {ta tb : CT}
theorem dw_and1 (ha : PT X a (rdT X.K W ta)) : PW X (.BoolOp .And [a] pos) (rdT X.K W ta) := pw_and1 ha
theorem dw_or1 (ha : PT X a (rdT X.K W ta)) : PW X (.BoolOp .Or [a] pos) (rdT X.K W ta) := pw_or1 ha
theorem dw_and (ha : PT X a (rdT X.K W ta)) (hb : PW X (.BoolOp .And (b :: rest) pos) (rdT X.K W tb)) : PW X (.BoolOp .And (a :: b :: rest) pos) (rdT X.K W (cAnd ta tb)) :=
  PW.conv (pw_and ha hb) fun σ H Q ⟨F, G, env, k, r0, s, hc, ko, kx⟩ => by
    refine rd_mono (rd_bind (f := fun (c : Bool) (k : Kn Bool) (env : Env) (G1 : Gm) => (c = true → tb k env G1) ∧ (c = false → k.ok false G1)) r0 s hc ko kx) fun x H1 ⟨F1, G1, d, r1, s1, hd, e1, ⟨h1, h2⟩, ko1, kx1⟩ => ?_
    cases hd
    cases x with
    | true => rw [if_pos rfl]; exact ⟨F1, G1, env, k, r1, s1, h1 rfl, ko1, kx1⟩
    | false => rw [if_neg Bool.false_ne_true]; exact ko1 _ G1 (h2 rfl) _ F1 H1 (Ex.rf F1) r1 rfl
theorem dw_or (ha : PT X a (rdT X.K W ta)) (hb : PW X (.BoolOp .Or (b :: rest) pos) (rdT X.K W tb)) : PW X (.BoolOp .Or (a :: b :: rest) pos) (rdT X.K W (cOr ta tb)) :=
  PW.conv (pw_or ha hb) fun σ H Q ⟨F, G, env, k, r0, s, hc, ko, kx⟩ => by
    refine rd_mono (rd_bind (f := fun (c : Bool) (k : Kn Bool) (env : Env) (G1 : Gm) => (c = true → k.ok true G1) ∧ (c = false → tb k env G1)) r0 s hc ko kx) fun x H1 ⟨F1, G1, d, r1, s1, hd, e1, ⟨h1, h2⟩, ko1, kx1⟩ => ?_
    cases hd
    cases x with
    | false => rw [if_neg Bool.false_ne_true]; exact ⟨F1, G1, env, k, r1, s1, h2 rfl, ko1, kx1⟩
    | true => rw [if_pos rfl]; exact ko1 _ G1 (h1 rfl) _ F1 H1 (Ex.rf F1) r1 rfl
theorem dt_not (ha : PT X a (rdT X.K W ta)) : PT X (.UnaryOp .Not a pos) (rdT X.K W (cNot ta)) :=
  PT.conv (pt_not ha) fun σ H Q ⟨F, G, env, k, r0, s, hc, ko, kx⟩ => by
    refine rd_mono (rd_bind (f := fun (c : Bool) (k : Kn Bool) (env : Env) (G1 : Gm) => k.ok (!c) G1) r0 s hc ko kx) fun x H1 ⟨F1, G1, d, r1, s1, hd, e1, h1, ko1, kx1⟩ => ?_
    cases hd
    exact ko1 _ G1 h1 _ F1 H1 (Ex.rf F1) r1 rfl
def cIf (t : CT) (ca cb : CE) : CE := fun k env G => t ⟨fun c G1 => (c = true → ca k env G1) ∧ (c = false → cb k env G1), k.ex⟩ env G
theorem de_if (hc : PT X c (rdT X.K W ta)) (ha : PE X a (rdE X.K W ca)) (hb : PE X b (rdE X.K W cb)) : PE X (.IfExp c a b pos) (rdE X.K W (cIf ta ca cb)) :=
  PE.conv (pe_ifExp hc ha hb) fun σ H Q ⟨F, G, env, k, r0, s, hc, ko, kx⟩ => by
    refine rd_mono (rd_bind (f := fun (c : Bool) (k : Kn D) (env : Env) (G1 : Gm) => (c = true → ca k env G1) ∧ (c = false → cb k env G1)) r0 s hc ko kx) fun x H1 ⟨F1, G1, d, r1, s1, hd, e1, ⟨h1, h2⟩, ko1, kx1⟩ => ?_
    cases hd
    cases x with
    | true => rw [if_pos rfl]; exact ⟨F1, G1, env, k, r1, s1, h1 rfl, ko1, kx1⟩
    | false => rw [if_neg Bool.false_ne_true]; exact ⟨F1, G1, env, k, r1, s1, h2 rfl, ko1, kx1⟩

/-! ### a < b < c -/
def cChain (r r' : DOp) (ca cb cc : CE) : CE := fun k env G => ca ⟨fun x G1 => cb ⟨fun y G2 => r x y (fun z G3 => ∃ c, z = .bl c ∧ (c = true → cc ⟨fun u G4 => r' y u k.ok G4, k.ex⟩ env G3) ∧ (c = false → k.ok (.bl false) G3)) G2, k.ex⟩ env G1, k.ex⟩ env G
theorem rd_chain {r r' : DOp} {K : PySem.W.Frag} {σ : L2.St} {H : Hp} {Q : VK} (h : rdE K W (cChain r r' ca cb cc) σ H Q) : tChain (rdR2 K r) (rdR2 K r') (rdE K W ca) (rdE K W cb) (rdE K W cc) σ H Q := by
  obtain ⟨F, G, env, k, r0, s, hc, ko, kx⟩ := h
  refine rd_mono (rd_bind (f := fun x k env G1 => cb ⟨fun y G2 => r x y (fun z G3 => ∃ c, z = .bl c ∧ (c = true → cc ⟨fun u G4 => r' y u k.ok G4, k.ex⟩ env G3) ∧ (c = false → k.ok (.bl false) G3)) G2, k.ex⟩ env G1) r0 s hc ko kx) fun x H1 ⟨F1, G1, d, r1, s1, hd, e1, h1, ko1, kx1⟩ => ?_
  refine rd_mono (rd_bind (f := fun y k env G2 => r d y (fun z G3 => ∃ c, z = .bl c ∧ (c = true → cc ⟨fun u G4 => r' y u k.ok G4, k.ex⟩ env G3) ∧ (c = false → k.ok (.bl false) G3)) G2) r1 s1 h1 ko1 kx1) fun y H2 ⟨F2, G2, d2, r2, s2, hd2, e2, h2, ko2, kx2⟩ => ?_
  refine ⟨F2, G2, d, d2, _, r2, hd.mono e2, hd2, h2, fun z G3 hz v F3 H3 e3 r3 hv => ?_⟩
  obtain ⟨c, ez, ht, hf⟩ := hz
  subst ez
  cases hv
  refine ⟨c, rfl, ?_⟩
  cases c with
  | true =>
    rw [if_pos rfl]
    refine rd_mono (rd_bind (f := fun u k env G4 => r' d2 u k.ok G4) r3 (s2.mono e3) (ht rfl) (ko2.up e3) (kx2.up e3)) fun w H4 ⟨F4, G4, d4, r4, s4, hd4, e4, h4, ko4, kx4⟩ => ?_
    exact ⟨F4, G4, d2, d4, k.ok, r4, (hd2.mono e3).mono e4, hd4, h4, ko4⟩
  | false => rw [if_neg Bool.false_ne_true]; exact ko2 _ G3 (hf rfl) _ F3 H3 e3 r3 (.bl _)
theorem de_chain {op op' : CmpOp} {r r' : DOp} (ho : OpR X (compareOp op) (rdR2 X.K r)) (ho' : OpR X (compareOp op') (rdR2 X.K r')) (ha : PE X a (rdE X.K W ca)) (hb : PE X b (rdE X.K W cb)) (hc : PE X c (rdE X.K W cc))
    (hm : lastMarks [op, op'] [b, c] = false := by with_unfolding_all rfl) : PE X (.Compare a [op, op'] [b, c] pos) (rdE X.K W (cChain r r' ca cb cc)) :=
  PE.conv (pe_chain ho ho' ha hb hc hm) fun _ _ _ h => rd_chain h
theorem dt_chain {op op' : CmpOp} {r r' : DOp} (ho : OpR X (compareOp op) (rdR2 X.K r)) (ho' : OpR X (compareOp op') (rdR2 X.K r')) (ha : PE X a (rdE X.K W ca)) (hb : PE X b (rdE X.K W cb)) (hc : PE X c (rdE X.K W cc))
    (hm : lastMarks [op, op'] [b, c] = false := by with_unfolding_all rfl) : PT X (.Compare a [op, op'] [b, c] pos) (rdT X.K W (cB (cChain r r' ca cb cc))) :=
  PT.conv (pt_chain ho ho' ha hb hc hm) fun _ _ _ h => by
    have h' := rd_B h
    exact rd_chain h'

/-! ### displays, arguments -/
def cNil : CA := fun k _ G => k.ok [] G
def cCons (ca : CE) (cr : CA) : CA := fun k env G => ca ⟨fun x G1 => cr ⟨fun xs G2 => k.ok (x :: xs) G2, k.ex⟩ env G1, k.ex⟩ env G
variable {cr : CA}
theorem da_nil : PA X [] (rdA X.K W cNil) := PA.conv pa_nil fun σ H Q ⟨F, G, env, k, r0, s, hc, ko, kx⟩ => ko [] G hc [] F H (Ex.rf F) r0 .nil
theorem da_cons (ha : PE X e (rdE X.K W ca)) (hr : PA X es (rdA X.K W cr)) (hs : starEach (e :: es) X.env = (false, eval e X.env) :: starEach es X.env := by rfl) : PA X (e :: es) (rdA X.K W (cCons ca cr)) :=
  PA.conv (pa_cons ha hr hs) fun σ H Q ⟨F, G, env, k, r0, s, hc, ko, kx⟩ => by
    refine rd_mono (rd_bind (f := fun x k env G1 => cr ⟨fun xs G2 => k.ok (x :: xs) G2, k.ex⟩ env G1) r0 s hc ko kx) fun x H1 ⟨F1, G1, d, r1, s1, hd, e1, h1, ko1, kx1⟩ => ?_
    refine rd_mono (rd_bind (f := fun xs k env G2 => k.ok (d :: xs) G2) r1 s1 h1 ko1 kx1) fun y H2 ⟨F2, G2, d2, r2, s2, hd2, e2, h2, ko2, kx2⟩ => ?_
    exact ko2 _ G2 h2 _ F2 H2 (Ex.rf F2) r2 (.cons (hd.mono e2) hd2)
def cTup (cr : CA) : CE := fun k env G => cr ⟨fun xs G1 => xs.length ≤ 16777216 ∧ k.ok (.tup xs) G1, k.ex⟩ env G
/-- a list for good -/
def cLst (cr : CA) : CE := fun k env G => cr ⟨fun xs G1 => xs.length ≤ 16777216 ∧ k.ok (.lst xs) G1, k.ex⟩ env G
/-- a mutable list -/
def cLstM (cr : CA) : CE := fun k env G => cr ⟨fun xs G1 => xs.length ≤ 16777216 ∧ ∀ p, G1 p = none → k.ok (.adr p) (ug G1 p (.lst xs)), k.ex⟩ env G
theorem de_tup {x1} (h : PA X es (rdA X.K W cr)) : PE X (.Tuple es x1 pos) (rdE X.K W (cTup cr)) :=
  PE.conv (pe_tup h) fun σ H Q ⟨F, G, env, k, r0, s, hc, ko, kx⟩ => by
    refine rd_mono (rd_bind (f := fun (xs : List D) (k : Kn D) (env : Env) (G1 : Gm) => xs.length ≤ 16777216 ∧ k.ok (.tup xs) G1) r0 s hc ko kx) fun x H1 ⟨F1, G1, d, r1, s1, hd, e1, ⟨hz, h1⟩, ko1, kx1⟩ => ?_
    refine ⟨by rw [hd.len]; exact szk hz, fun p hp => ?_⟩
    obtain ⟨e2, r2⟩ := r1.lay (o := .tup x) hp
    exact ko1 _ G1 h1 _ _ _ e2 r2 (.tup (SqT.of upd_same) (hd.mono e2))
theorem de_lst (h : PA X es (rdA X.K W cr)) : PE X (.List es pos) (rdE X.K W (cLst cr)) :=
  PE.conv (pe_lst h) fun σ H Q ⟨F, G, env, k, r0, s, hc, ko, kx⟩ => by
    refine rd_mono (rd_bind (f := fun (xs : List D) (k : Kn D) (env : Env) (G1 : Gm) => xs.length ≤ 16777216 ∧ k.ok (.lst xs) G1) r0 s hc ko kx) fun x H1 ⟨F1, G1, d, r1, s1, hd, e1, ⟨hz, h1⟩, ko1, kx1⟩ => ?_
    refine ⟨by rw [hd.len]; exact szk hz, fun p hp => ?_⟩
    obtain ⟨e2, r2⟩ := r1.lay (o := .lst x) hp
    exact ko1 _ G1 h1 _ _ _ e2 r2 (.lst upd_same (hd.mono e2))
theorem de_lstM (h : PA X es (rdA X.K W cr)) : PE X (.List es pos) (rdE X.K W (cLstM cr)) :=
  PE.conv (pe_lst h) fun σ H Q ⟨F, G, env, k, r0, s, hc, ko, kx⟩ => by
    refine rd_mono (rd_bind (f := fun (xs : List D) (k : Kn D) (env : Env) (G1 : Gm) => xs.length ≤ 16777216 ∧ ∀ p, G1 p = none → k.ok (.adr p) (ug G1 p (.lst xs))) r0 s hc ko kx) fun x H1 ⟨F1, G1, d, r1, s1, hd, e1, ⟨hz, h1⟩, ko1, kx1⟩ => ?_
    refine ⟨by rw [hd.len]; exact szk hz, fun p hp => ?_⟩
    exact ko1 _ _ (h1 p (r1.freeG hp)) _ F1 _ (Ex.rf F1) (r1.lay2 (m := .lst d) hp ⟨r1.freeF hp, x, upd_same, hd⟩) (.adr p)
end Dl
set_option maxHeartbeats 4000000
/-! DL3: operators, comparisons, subscripts, slices, built-in calls over trees. -/
namespace Dl
open PySem PySem.Spec PyProof.Rows L2
variable {X : Cx}
theorem kok1 {K : PySem.W.Frag} {F : Hp} {G : Gm} {H : Hp} {q : D → Gm → Prop} {Q : VK} {d : D} {v : V} (ko : Kok K (Rp K) F q Q) (r : RG K F G H) (h : q d G) (hv : Rp K F v d) : Q v H := ko d G h v F H (Ex.rf F) r hv
/-- a new tuple, a new list -/
theorem kokT {K : PySem.W.Frag} {F : Hp} {G : Gm} {H : Hp} {q : D → Gm → Prop} {Q : VK} {ds : List D} {vs : List V} (ko : Kok K (Rp K) F q Q) (r : RG K F G H) (h : q (.tup ds) G) (hv : RpAll K F vs ds) : ∀ p, H p = none → Q (.ref p) (upd H p (.tup vs)) := fun p hp => by
  obtain ⟨e2, r2⟩ := r.lay (o := .tup vs) hp
  exact ko _ G h _ _ _ e2 r2 (.tup (SqT.of upd_same) (hv.mono e2))
theorem kokL {K : PySem.W.Frag} {F : Hp} {G : Gm} {H : Hp} {q : D → Gm → Prop} {Q : VK} {ds : List D} {vs : List V} (ko : Kok K (Rp K) F q Q) (r : RG K F G H) (h : q (.lst ds) G) (hv : RpAll K F vs ds) : ∀ p, H p = none → Q (.ref p) (upd H p (.lst vs)) := fun p hp => by
  obtain ⟨e2, r2⟩ := r.lay (o := .lst vs) hp
  exact ko _ G h _ _ _ e2 r2 (.lst upd_same (hv.mono e2))
theorem kokM {K : PySem.W.Frag} {F : Hp} {G : Gm} {H : Hp} {q : D → Gm → Prop} {Q : VK} {ds : List D} {vs : List V} (ko : Kok K (Rp K) F q Q) (r : RG K F G H) (h : ∀ p, G p = none → q (.adr p) (ug G p (.lst ds))) (hv : RpAll K F vs ds) : ∀ p, H p = none → Q (.ref p) (upd H p (.lst vs)) := fun p hp =>
  ko _ _ (h p (r.freeG hp)) _ F _ (Ex.rf F) (r.lay2 (m := .lst ds) hp ⟨r.freeF hp, vs, upd_same, hv⟩) (.adr p)

/-! ### arithmetic -/
/-- the items of a list that can be added to -/
def catOf : D → Gm → Option (List D)
  | .lst ys, _ => some ys
  | .adr a, G => match G a with
    | some (.lst ys) => some ys
    | _ => none
  | _, _ => none
theorem cat_at {K : PySem.W.Frag} {F H : Hp} {G : Gm} (r : RG K F G H) {v : V} {d : D} (hd : Rp K F v d) {ys : List D} (h : catOf d G = some ys) : ∃ a vs, v = .ref a ∧ H a = some (.lst vs) ∧ RpAll K F vs ys := by
  cases hd <;> simp only [catOf] at h <;> first | cases h | skip
  · rename_i a
    split at h
    · rename_i zs hz
      cases h
      obtain ⟨_, vs, hv, r1⟩ := r.mo _ _ hz
      exact ⟨a, vs, rfl, hv, r1⟩
    · cases h
  · rename_i a vs hh r1
    exact ⟨a, vs, rfl, r.ex _ _ hh, r1⟩
def addD : DOp := fun x y q G => match x, y with
  | .int i, .int j => q (.int (i + j)) G
  | .str s, .str t => s.length + t.length ≤ 16777216 ∧ q (.str (s ++ t)) G
  | .tup xs, .tup ys => xs.length + ys.length ≤ 16777216 ∧ q (.tup (xs ++ ys)) G
  | u, w => ∃ xs ys, catOf u G = some xs ∧ catOf w G = some ys ∧ xs.length + ys.length ≤ 16777216 ∧ q (.lst (xs ++ ys)) G
theorem op_addD : OpR X (binaryOp .Add) (rdR2 X.K addD) := by
  intro pins s σ H x y v u Q I rx ry ⟨F, G, dx, dy, q, r, hx, hy, h, ko⟩
  have main : (∃ xs ys, catOf dx G = some xs ∧ catOf dy G = some ys ∧ xs.length + ys.length ≤ 16777216 ∧ q (.lst (xs ++ ys)) G) → wpAny (model X.prog X.w) X.A (binaryOp .Add v u) (EP X pins σ Q) X.xe s := by
    rintro ⟨xs, ys, h1, h2, hz, hq⟩
    obtain ⟨a, vs, rfl, ha, r1⟩ := cat_at r hx h1
    obtain ⟨b, ws, rfl, hb, r2⟩ := cat_at r hy h2
    exact op_cat pins s σ H _ _ v u Q I rx ry ⟨a, b, vs, ws, rfl, rfl, ha, hb, by rw [r1.len, r2.len]; exact szk hz, kokL ko r hq (r1.app r2)⟩
  cases hx <;> cases hy <;> first | exact main h | skip
  · exact op_add pins s σ H _ _ v u Q I rx ry ⟨_, _, rfl, rfl, kok1 ko r h (.int _)⟩
  · refine op_add_str pins s σ H _ _ v u Q I rx ry ⟨_, _, rfl, rfl, by rw [st_len, st_len]; exact szk h.1, ?_⟩
    rw [st_app]
    exact kok1 ko r h.2 (.str _)
  · rename_i a vs ds h1 r1 b ws es h2 r2
    refine op_catA pins s σ H _ _ v u Q I rx ry ⟨a, b, vs, ws, rfl, rfl, r.ex.sq h1, r.ex.sq h2, by rw [r1.len, r2.len]; exact szk h.1, fun e => ?_, fun e1 e2 => ?_, fun _ _ => kokT ko r h.2 (r1.app r2)⟩
    · subst e
      cases r1
      exact kok1 ko r h.2 (.tup h2 r2)
    · subst e2
      cases r2
      have h' := h.2
      rw [List.append_nil] at h'
      exact kok1 ko r h' (.tup h1 r1)
/-- two lists to a mutable one -/
def catM : DOp := fun x y q G => ∃ xs ys, catOf x G = some xs ∧ catOf y G = some ys ∧ xs.length + ys.length ≤ 16777216 ∧ ∀ p, G p = none → q (.adr p) (ug G p (.lst (xs ++ ys)))
theorem op_catM : OpR X (binaryOp .Add) (rdR2 X.K catM) := by
  intro pins s σ H x y v u Q I rx ry ⟨F, G, dx, dy, q, r, hx, hy, ⟨xs, ys, h1, h2, hz, hq⟩, ko⟩
  obtain ⟨a, vs, rfl, ha, r1⟩ := cat_at r hx h1
  obtain ⟨b, ws, rfl, hb, r2⟩ := cat_at r hy h2
  exact op_cat pins s σ H _ _ v u Q I rx ry ⟨a, b, vs, ws, rfl, rfl, ha, hb, by rw [r1.len, r2.len]; exact szk hz, kokM ko r hq (r1.app r2)⟩
def intD (C : Int → Int → Prop) (f : Int → Int → Int) : DOp := fun x y q G => match x, y with
  | .int i, .int j => C i j ∧ q (.int (f i j)) G
  | _, _ => False
theorem op_intD {op : Operator} {C : Int → Int → Prop} {f : Int → Int → Int} (ho : OpR X (binaryOp op) (rI C fun i j => .int (f i j))) : OpR X (binaryOp op) (rdR2 X.K (intD C f)) := by
  intro pins s σ H x y v u Q I rx ry ⟨F, G, dx, dy, q, r, hx, hy, h, ko⟩
  cases hx <;> cases hy <;> first | exact (h : False).elim | skip
  exact ho pins s σ H _ _ v u Q I rx ry ⟨_, _, rfl, rfl, h.1, kok1 ko r h.2 (.int _)⟩
abbrev subD : DOp := intD (fun _ _ => True) (fun i j => i - j)
theorem op_subD : OpR X (binaryOp .Sub) (rdR2 X.K subD) := op_intD fun pins s σ H x y v u Q I rx ry ⟨i, j, h1, h2, _, h⟩ => op_sub pins s σ H x y v u Q I rx ry ⟨i, j, h1, h2, h⟩
abbrev modD : DOp := intD (fun _ j => j ≠ 0) (fun i j => i.fmod j)
theorem op_modD : OpR X (binaryOp .Mod) (rdR2 X.K modD) := op_intD op_modN
/-- // by a divisor that is not 0 and not too great -/
abbrev fdivD : DOp := intD (fun _ j => 0 < j ∧ j < 1073741824) (fun i j => i / j)
theorem op_fdivD : OpR X (binaryOp .FloorDiv) (rdR2 X.K fdivD) := op_intD op_fdiv
abbrev powD : DOp := intD CPow (fun i j => i ^ j.toNat)
theorem op_powD : OpR X (binaryOp .Pow) (rdR2 X.K powD) := op_intD op_pow
abbrev shrD : DOp := intD (fun _ j => 0 ≤ j) (fun i j => i / 2 ^ j.toNat)
theorem op_shrD : OpR X (binaryOp .RShift) (rdR2 X.K shrD) := op_intD op_shr
abbrev xorD : DOp := intD (fun _ _ => True) Builtin.bitXor
theorem op_xorD : OpR X (binaryOp .BitXor) (rdR2 X.K xorD) := op_intD fun pins s σ H x y v u Q I rx ry ⟨i, j, h1, h2, _, h⟩ => op_xor pins s σ H x y v u Q I rx ry ⟨i, j, h1, h2, h⟩
/-- a text so many times -/
theorem foldl_app (c : Array Nat) : ∀ (n : Nat) (acc : Array Nat), (List.replicate n c).foldl (· ++ ·) acc = (acc.toList ++ (List.replicate n c.toList).flatten).toArray
  | 0, acc => by simp
  | n + 1, acc => by
    rw [List.replicate_succ, List.foldl_cons, foldl_app c n, List.replicate_succ, List.flatten_cons]
    simp
def mulD : DOp := fun x y q G => match x, y with
  | .int i, .int j => ((-(2 ^ 64) < i ∧ i < 2 ^ 64) ∨ (-(2 ^ 64) < j ∧ j < 2 ^ 64)) ∧ q (.int (i * j)) G
  | .str s, .int n => 0 ≤ n ∧ n ≤ 16777216 ∧ s.length * n.toNat ≤ 16777216 ∧ q (.str (List.replicate n.toNat s).flatten) G
  | .lst xs, .int n => 0 ≤ n ∧ n ≤ 16777216 ∧ xs.length * n.toNat ≤ 16777216 ∧ q (.lst (List.replicate n.toNat xs).flatten) G
  | _, _ => False
theorem op_mulD : OpR X (binaryOp .Mult) (rdR2 X.K mulD) := by
  intro pins s σ H x y v u Q I rx ry ⟨F, G, dx, dy, q, r, hx, hy, h, ko⟩
  cases hx <;> cases hy <;> first | exact (h : False).elim | skip
  · exact op_mul pins s σ H _ _ v u Q I rx ry ⟨_, _, rfl, rfl, h.1, kok1 ko r h.2 (.int _)⟩
  · rename_i l n
    obtain ⟨t, rfl⟩ := rx
    obtain ⟨t', rfl⟩ := ry
    obtain ⟨h0, h1, hz, hq⟩ := h
    have hl : (st l).length = l.length := st_len l
    refine PySem.P.mul_str ?_ (fun hn h2 => ?_) (fun hn h2 => ?_) ?_
    · have a1 : ¬ n < -(2 ^ 63 : Int) := by omega
      have a2 : ¬ n ≥ 2 ^ 63 := by omega
      rw [decide_eq_false a1, decide_eq_false a2]; rfl
    · rw [hl]
      have h3 : (l.length : Int) ≤ 16777216 := by
        have h4 : l.length * 1 ≤ l.length * n.toNat := Nat.mul_le_mul_left _ (by omega)
        omega
      have h5 : (16777216 : Int) ≤ (2 ^ 63 - 1) / n := by
        rw [Int.le_ediv_iff_mul_le (by omega)]
        omega
      omega
    · rw [hl]
      have e : (l.length * n.toNat) ≤ sizeLine := szk hz
      exact notLongL e
    · by_cases hn : n < 1
      · rw [if_pos hn]
        have e : n.toNat = 0 := by omega
        rw [e] at hq
        exact ⟨by decide, V.str (st _), _, I.tok _, ⟨_, rfl⟩, kok1 ko r hq (.str _)⟩
      · rw [if_neg hn]
        by_cases h2 : (n == 1 || (st l).length == 0) = true
        · rw [if_pos h2]
          have e : (List.replicate n.toNat l).flatten = l := by
            rcases Bool.or_eq_true_iff.mp h2 with h3 | h3
            · have h4 : n = 1 := beq_iff_eq.mp h3
              subst h4
              show (List.replicate 1 l).flatten = l
              simp
            · have h4 : (st l).length = 0 := beq_iff_eq.mp h3
              rw [hl] at h4
              have h5 : l = [] := List.length_eq_zero_iff.mp h4
              subst h5
              simp
          rw [e] at hq
          exact ⟨V.str (st _), _, I, ⟨_, rfl⟩, kok1 ko r hq (.str _)⟩
        · rw [if_neg h2]
          have e : ((List.replicate n.toNat (st l).cps).foldl (· ++ ·) #[]) = (List.replicate n.toNat l).flatten.toArray := by
            rw [foldl_app]
            rfl
          rw [e]
          refine ⟨?_, V.str (st _), _, I.tok _, ⟨_, rfl⟩, kok1 ko r hq (.str _)⟩
          have h6 : (List.replicate n.toNat l).flatten.length = n.toNat * l.length := by simp
          first
            | exact notLongL (szk (by rw [st_len, h6, Nat.mul_comm]; exact hz))
            | (show (st _).length ≤ _; rw [st_len, h6, Nat.mul_comm]; exact hz)
  · rename_i a vs ds h1 r1 n
    obtain ⟨h0, h2, hz, hq⟩ := h
    exact op_rep pins s σ H _ _ v u Q I rx ry ⟨a, n, vs, rfl, rfl, r.ex _ _ h1, by omega, by omega, by rw [r1.len]; exact szk hz, kokL ko r hq (r1.rep _)⟩
/-- a list so many times, mutable -/
def repM : DOp := fun x y q G => match x, y with
  | .lst xs, .int n => 0 ≤ n ∧ n ≤ 16777216 ∧ xs.length * n.toNat ≤ 16777216 ∧ ∀ p, G p = none → q (.adr p) (ug G p (.lst (List.replicate n.toNat xs).flatten))
  | _, _ => False
theorem op_repM : OpR X (binaryOp .Mult) (rdR2 X.K repM) := by
  intro pins s σ H x y v u Q I rx ry ⟨F, G, dx, dy, q, r, hx, hy, h, ko⟩
  cases hx <;> cases hy <;> first | exact (h : False).elim | skip
  rename_i a vs ds h1 r1 n
  obtain ⟨h0, h2, hz, hq⟩ := h
  exact op_rep pins s σ H _ _ v u Q I rx ry ⟨a, n, vs, rfl, rfl, r.ex _ _ h1, by omega, by omega, by rw [r1.len]; exact szk hz, kokM ko r hq (r1.rep _)⟩
def negD : D → (D → Gm → Prop) → Gm → Prop := fun x q G => match x with
  | .int i => q (.int (-i)) G
  | _ => False
theorem un_negD : UnR X (unaryOp .USub) (rdR1 X.K negD) := by
  intro pins s σ H x v Q I rx ⟨F, G, dx, q, r, hx, h, ko⟩
  cases hx <;> first | exact (h : False).elim | skip
  exact un_neg pins s σ H _ v Q I rx ⟨_, rfl, kok1 ko r h (.int _)⟩

/-! ### == -/
mutual
/-- trees that == takes through and through -/
def dok : D → Nat → Bool
  | .non, _ => true
  | .bl _, _ => true
  | .int _, _ => true
  | .str s, _ => s.all (· < 1114112)
  | .tup xs, n + 1 => dokL xs n
  | .lst xs, n + 1 => dokL xs n
  | .seq xs, n + 1 => dokL xs n
  | _, _ => false
def dokL : List D → Nat → Bool
  | [], _ => true
  | x :: xs, n => dok x n && dokL xs n
end
mutual
def deq : D → D → Bool
  | .non, .non => true
  | .bl a, .bl b => a == b
  | .bl a, .int j => (if a then 1 else 0) == j
  | .int i, .bl b => i == (if b then 1 else 0)
  | .int i, .int j => i == j
  | .str x, .str y => x == y
  | .lst xs, .lst ys => deqL xs ys
  | .lst xs, .seq ys => deqL xs ys
  | .seq xs, .lst ys => deqL xs ys
  | .seq xs, .seq ys => deqL xs ys
  | .tup xs, .tup ys => deqL xs ys
  | _, _ => false
def deqL : List D → List D → Bool
  | [], [] => true
  | x :: xs, y :: ys => deq x y && deqL xs ys
  | _, _ => false
end
mutual
def pd : D → PyData
  | .non => .none
  | .bl b => .bool b
  | .int i => .int i
  | .str s => .str (st s)
  | .tup xs => .tuple (pdL xs)
  | .lst xs => .list (pdL xs)
  | .seq xs => .list (pdL xs)
  | _ => .none
def pdL : List D → List PyData
  | [] => []
  | x :: xs => pd x :: pdL xs
end
mutual
theorem dp_of {K : PySem.W.Frag} {F : Hp} {v : V} {d : D} {n : Nat} (h : dok d n = true) : Rp K F v d → Dp K F v (pd d)
  | .non => .non
  | .bl b => .bl b
  | .int i => .int i
  | .str s => .str _
  | .adr a => by simp [dok] at h
  | .tup q r => by
    cases n with
    | zero => simp [dok] at h
    | succ n => exact .tup q (dpAll_of (n := n) (by simpa [dok] using h) r)
  | .lst q r => by
    cases n with
    | zero => simp [dok] at h
    | succ n => exact .lst (SqL.of q) (dpAll_of (n := n) (by simpa [dok] using h) r)
  | .seq q r => by
    cases n with
    | zero => simp [dok] at h
    | succ n => exact .lst q (dpAll_of (n := n) (by simpa [dok] using h) r)
  | .ins q r => by simp [dok] at h
  | .dk q r => by simp [dok] at h
  | .dt q r => by simp [dok] at h
theorem dpAll_of {K : PySem.W.Frag} {F : Hp} {v : List V} {d : List D} {n : Nat} (h : dokL d n = true) : RpAll K F v d → DpAll K F v (pdL d)
  | .nil => .nil
  | .cons (d := d0) (ds := ds0) q r => by
    have h' : dok d0 n = true ∧ dokL ds0 n = true := by simpa [dokL] using h
    exact .cons (dp_of h'.1 q) (dpAll_of h'.2 r)
end
mutual
theorem Dp.mn {K : PySem.W.Frag} {F F' : Hp} (e : Ex F F') {v : V} {d : PyData} : Dp K F v d → Dp K F' v d
  | .non => .non
  | .bl b => .bl b
  | .int i => .int i
  | .str s => .str s
  | .lst h r => .lst (e.sl h) (DpAll.mn e r)
  | .tup h r => .tup (e.sq h) (DpAll.mn e r)
theorem DpAll.mn {K : PySem.W.Frag} {F F' : Hp} (e : Ex F F') {v : List V} {d : List PyData} : DpAll K F v d → DpAll K F' v d
  | .nil => .nil
  | .cons h r => .cons (Dp.mn e h) (DpAll.mn e r)
end
mutual
theorem lay_of : ∀ (d : D) {n : Nat}, dok d n = true → (pd d).canLay0 = true ∧ (pd d).depth ≤ n
  | .non, n, _ => ⟨rfl, Nat.zero_le _⟩
  | .bl b, n, _ => ⟨rfl, Nat.zero_le _⟩
  | .int i, n, _ => ⟨rfl, Nat.zero_le _⟩
  | .str s, n, h => by
    refine ⟨?_, Nat.zero_le _⟩
    have h' : s.all (· < 1114112) = true := by simpa [dok] using h
    show (st s).cps.all (· < 0x110000) = true
    simpa using h'
  | .tup xs, 0, h => by simp [dok] at h
  | .lst xs, 0, h => by simp [dok] at h
  | .seq xs, 0, h => by simp [dok] at h
  | .tup xs, n + 1, h => by
    have q := layL_of xs (n := n) (by simpa [dok] using h)
    refine ⟨by simpa [pd, PyData.canLay0] using q.1, ?_⟩
    simp only [pd, PyData.depth]; omega
  | .lst xs, n + 1, h => by
    have q := layL_of xs (n := n) (by simpa [dok] using h)
    refine ⟨by simpa [pd, PyData.canLay0] using q.1, ?_⟩
    simp only [pd, PyData.depth]; omega
  | .seq xs, n + 1, h => by
    have q := layL_of xs (n := n) (by simpa [dok] using h)
    refine ⟨by simpa [pd, PyData.canLay0] using q.1, ?_⟩
    simp only [pd, PyData.depth]; omega
  | .ins c fs, n, h => by simp [dok] at h
  | .adr a, n, h => by simp [dok] at h
  | .dk a, n, h => by simp [dok] at h
  | .dt a, n, h => by simp [dok] at h
theorem layL_of : ∀ (d : List D) {n : Nat}, dokL d n = true → PyData.canLayAll0 (pdL d) = true ∧ PyData.depthAll (pdL d) ≤ n
  | [], n, _ => ⟨rfl, Nat.zero_le _⟩
  | x :: xs, n, h => by
    have h' : dok x n = true ∧ dokL xs n = true := by simpa [dokL] using h
    have a := lay_of x h'.1
    have b := layL_of xs h'.2
    refine ⟨by simp [pdL, PyData.canLayAll0, a.1, b.1], ?_⟩
    simp only [pdL, PyData.depthAll]; omega
end
theorem st_beq (s t : List Nat) : (st s == st t) = (s == t) := by
  by_cases h : s = t
  · subst h; simp
  · have h' : ¬ st s = st t := fun e => h (st_inj e)
    rw [beq_eq_false_iff_ne.mpr h, beq_eq_false_iff_ne.mpr h']
mutual
theorem eqv_pd : ∀ (x y : D) {n m : Nat}, dok x n = true → dok y m = true → PyData.eqv (pd x) (pd y) = deq x y
  | x, y, n, m, hx, hy => by
    cases x <;> cases y <;> first | rfl | (simp [dok] at hx; done) | (simp [dok] at hy; done) | skip
    · exact st_beq _ _
    all_goals
      rename_i xs ys
      cases n with
      | zero => simp [dok] at hx
      | succ n =>
        cases m with
        | zero => simp [dok] at hy
        | succ m =>
          have e := eqv_pdL xs ys (n := n) (m := m) (by simpa [dok] using hx) (by simpa [dok] using hy)
          simpa [pd, deq, PyData.eqv] using e
theorem eqv_pdL : ∀ (x y : List D) {n m : Nat}, dokL x n = true → dokL y m = true → PyData.eqvAll (pdL x) (pdL y) = deqL x y
  | [], [], n, m, hx, hy => rfl
  | [], y :: ys, n, m, hx, hy => rfl
  | x :: xs, [], n, m, hx, hy => rfl
  | x :: xs, y :: ys, n, m, hx, hy => by
    have hx' : dok x n = true ∧ dokL xs n = true := by simpa [dokL] using hx
    have hy' : dok y m = true ∧ dokL ys m = true := by simpa [dokL] using hy
    simp only [pdL, PyData.eqvAll, deqL]
    rw [eqv_pd x y hx'.1 hy'.1, eqv_pdL xs ys hx'.2 hy'.2]
end
def eqD : DOp := fun x y q G => match x, y with
  | .str s, .str t => q (.bl (decide (s = t))) G
  | .int i, .int j => q (.bl (decide (i = j))) G
  | x, y => dok x 60 = true ∧ dok y 60 = true ∧ q (.bl (deq x y)) G
def neD : DOp := fun x y q G => match x, y with
  | .str s, .str t => q (.bl (!decide (s = t))) G
  | .int i, .int j => q (.bl (!decide (i = j))) G
  | x, y => dok x 60 = true ∧ dok y 60 = true ∧ q (.bl (!deq x y)) G
theorem st_dec (s t : List Nat) : decide (V.str (st s) = V.str (st t)) = decide (s = t) := by
  by_cases h : s = t
  · subst h; simp
  · have h' : ¬ V.str (st s) = V.str (st t) := fun e => h (st_inj (V.str.inj e))
    rw [decide_eq_false h, decide_eq_false h']
theorem int_dec (s t : Int) : decide (V.int s = V.int t) = decide (s = t) := by
  by_cases h : s = t
  · subst h; simp
  · have h' : ¬ V.int s = V.int t := fun e => h (V.int.inj e)
    rw [decide_eq_false h, decide_eq_false h']
theorem shaped_of {d : D} (h : dok d 60 = true) : SeqAt.shaped (pd d) = true := by
  have q := lay_of d h
  unfold SeqAt.shaped
  rw [q.1, decide_eq_true (by omega)]; rfl
theorem op_eqDD (hu : X.A.units + 64 < cLine) : OpR X (compareOp .Eq) (rdR2 X.K eqD) := by
  intro pins s σ H x y v u Q I rx ry ⟨F, G, dx, dy, q, r, hx, hy, h, ko⟩
  have deep : (dok dx 60 = true ∧ dok dy 60 = true ∧ q (.bl (deq dx dy)) G) → wpAny (model X.prog X.w) X.A (compareOp .Eq v u) (EP X pins σ Q) X.xe s := fun ⟨h1, h2, h3⟩ => by
    refine op_eqD hu pins s σ H _ _ v u Q I rx ry ⟨pd dx, pd dy, Dp.mn r.ex (dp_of h1 hx), Dp.mn r.ex (dp_of h2 hy), shaped_of h1, shaped_of h2, ?_⟩
    rw [eqv_pd dx dy h1 h2]
    exact kok1 ko r h3 (.bl _)
  cases hx <;> cases hy <;> first | exact deep h | skip
  · refine op_eq pins s σ H _ _ v u Q I rx ry ⟨rfl, ?_⟩
    rw [int_dec]
    exact kok1 ko r h (.bl _)
  · refine op_eq pins s σ H _ _ v u Q I rx ry ⟨rfl, ?_⟩
    rw [st_dec]
    exact kok1 ko r h (.bl _)
theorem op_neDD (hu : X.A.units + 64 < cLine) : OpR X (compareOp .NotEq) (rdR2 X.K neD) := by
  intro pins s σ H x y v u Q I rx ry ⟨F, G, dx, dy, q, r, hx, hy, h, ko⟩
  have deep : (dok dx 60 = true ∧ dok dy 60 = true ∧ q (.bl (!deq dx dy)) G) → wpAny (model X.prog X.w) X.A (compareOp .NotEq v u) (EP X pins σ Q) X.xe s := fun ⟨h1, h2, h3⟩ => by
    refine op_neD hu pins s σ H _ _ v u Q I rx ry ⟨pd dx, pd dy, Dp.mn r.ex (dp_of h1 hx), Dp.mn r.ex (dp_of h2 hy), shaped_of h1, shaped_of h2, ?_⟩
    rw [eqv_pd dx dy h1 h2]
    exact kok1 ko r h3 (.bl _)
  cases hx <;> cases hy <;> first | exact deep h | skip
  · refine op_ne pins s σ H _ _ v u Q I rx ry ⟨rfl, ?_⟩
    rw [int_dec]
    exact kok1 ko r h (.bl _)
  · refine op_ne pins s σ H _ _ v u Q I rx ry ⟨rfl, ?_⟩
    rw [st_dec]
    exact kok1 ko r h (.bl _)
end Dl
set_option maxHeartbeats 4000000
/-! DL4: order, in, subscripts, slices, built-in calls over trees. -/
namespace Dl
open PySem PySem.Spec PyProof.Rows L2
variable {X : Cx} {W : WX} {a b c e : Expr} {es : List Expr} {ca cb cc ce : CE} {cr : CA} {pos : Pos}

/-! ### order -/
def ltD : DOp := fun x y q G => match x, y with
  | .int i, .int j => q (.bl (decide (i < j))) G
  | .str s, .str t => q (.bl (decide (s < t))) G
  | _, _ => False
def gtD : DOp := fun x y q G => match x, y with
  | .int i, .int j => q (.bl (decide (j < i))) G
  | .str s, .str t => q (.bl (decide (t < s))) G
  | _, _ => False
def leD : DOp := fun x y q G => match x, y with
  | .int i, .int j => q (.bl (decide (i ≤ j))) G
  | .str s, .str t => q (.bl (!decide (t < s))) G
  | _, _ => False
def geD : DOp := fun x y q G => match x, y with
  | .int i, .int j => q (.bl (decide (j ≤ i))) G
  | .str s, .str t => q (.bl (!decide (s < t))) G
  | _, _ => False
theorem op_ltD : OpR X (compareOp .Lt) (rdR2 X.K ltD) := by
  intro pins s σ H x y v u Q I rx ry ⟨F, G, dx, dy, q, r, hx, hy, h, ko⟩
  cases hx <;> cases hy <;> first | exact (h : False).elim | skip
  · exact op_lt pins s σ H _ _ v u Q I rx ry ⟨_, _, rfl, rfl, kok1 ko r h (.bl _)⟩
  · exact op_lt_str pins s σ H _ _ v u Q I rx ry ⟨_, _, rfl, rfl, kok1 ko r h (.bl _)⟩
theorem op_gtD : OpR X (compareOp .Gt) (rdR2 X.K gtD) := by
  intro pins s σ H x y v u Q I rx ry ⟨F, G, dx, dy, q, r, hx, hy, h, ko⟩
  cases hx <;> cases hy <;> first | exact (h : False).elim | skip
  · exact op_gt pins s σ H _ _ v u Q I rx ry ⟨_, _, rfl, rfl, kok1 ko r h (.bl _)⟩
  · exact op_gt_str pins s σ H _ _ v u Q I rx ry ⟨_, _, rfl, rfl, kok1 ko r h (.bl _)⟩
theorem op_leD : OpR X (compareOp .LtE) (rdR2 X.K leD) := by
  intro pins s σ H x y v u Q I rx ry ⟨F, G, dx, dy, q, r, hx, hy, h, ko⟩
  cases hx <;> cases hy <;> first | exact (h : False).elim | skip
  · exact op_le pins s σ H _ _ v u Q I rx ry ⟨_, _, rfl, rfl, kok1 ko r h (.bl _)⟩
  · exact op_le_str pins s σ H _ _ v u Q I rx ry ⟨_, _, rfl, rfl, kok1 ko r h (.bl _)⟩
theorem op_geD : OpR X (compareOp .GtE) (rdR2 X.K geD) := by
  intro pins s σ H x y v u Q I rx ry ⟨F, G, dx, dy, q, r, hx, hy, h, ko⟩
  cases hx <;> cases hy <;> first | exact (h : False).elim | skip
  · exact op_ge pins s σ H _ _ v u Q I rx ry ⟨_, _, rfl, rfl, kok1 ko r h (.bl _)⟩
  · exact op_ge_str pins s σ H _ _ v u Q I rx ry ⟨_, _, rfl, rfl, kok1 ko r h (.bl _)⟩
def isNon : D → Bool
  | .non => true
  | _ => false
theorem isNon_V {K : PySem.W.Frag} {F : Hp} {v : V} {d : D} (h : Rp K F v d) : decide (v = .non) = isNon d := by
  cases h <;> rfl
def isD : DOp := fun x y q G => y = .non ∧ q (.bl (isNon x)) G
def isntD : DOp := fun x y q G => y = .non ∧ q (.bl (!isNon x)) G
theorem op_isD : OpR X (compareOp .Is) (rdR2 X.K isD) := by
  intro pins s σ H x y v u Q I rx ry ⟨F, G, dx, dy, q, r, hx, hy, ⟨e, h⟩, ko⟩
  subst e
  cases hy
  refine op_isN pins s σ H _ _ v u Q I rx ry ⟨rfl, ?_⟩
  rw [isNon_V hx]
  exact kok1 ko r h (.bl _)
theorem op_isntD : OpR X (compareOp .IsNot) (rdR2 X.K isntD) := by
  intro pins s σ H x y v u Q I rx ry ⟨F, G, dx, dy, q, r, hx, hy, ⟨e, h⟩, ko⟩
  subst e
  cases hy
  refine op_notN pins s σ H _ _ v u Q I rx ry ⟨rfl, ?_⟩
  rw [isNon_V hx]
  exact kok1 ko r h (.bl _)

/-! ### in -/
def flatD : D → Bool
  | .non => true
  | .bl _ => true
  | .int _ => true
  | .str _ => true
  | _ => false
theorem flat_of {K : PySem.W.Frag} {F : Hp} {v : V} {d : D} (h : Rp K F v d) (f : flatD d = true) : flatV v = true := by
  cases h <;> first | rfl | (simp [flatD] at f)
theorem flatL_of {K : PySem.W.Frag} {F : Hp} : ∀ {v : List V} {d : List D}, RpAll K F v d → d.all flatD = true → v.all flatV = true
  | _, _, .nil, _ => rfl
  | _, _, .cons h r, f => by
    rw [List.all_cons, Bool.and_eq_true_iff] at f
    rw [List.all_cons, flat_of h f.1, flatL_of r f.2]; rfl
theorem eqV_of {K : PySem.W.Frag} {F : Hp} {v w : V} {d e : D} (h : Rp K F v d) (h' : Rp K F w e) (f : flatD d = true) (f' : flatD e = true) : eqV v w = deq d e := by
  cases h <;> cases h' <;> first | rfl | (simp [flatD] at f; done) | (simp [flatD] at f'; done) | skip
  exact st_beq _ _
def inL (x : D) (ys : List D) : Bool := ys.any fun y => deq y x
theorem inV_of {K : PySem.W.Frag} {F : Hp} {w : V} {e : D} (h' : Rp K F w e) (f' : flatD e = true) : ∀ {v : List V} {d : List D}, RpAll K F v d → d.all flatD = true → inV w v = inL e d
  | _, _, .nil, _ => rfl
  | _, _, .cons h r, f => by
    rw [List.all_cons, Bool.and_eq_true_iff] at f
    unfold inV inL
    rw [List.any_cons, List.any_cons, eqV_of h h' f.1 f']
    have e := inV_of h' f' r f.2
    unfold inV inL at e
    rw [e]
/-- a sign in a text; a flat thing in a tuple, a list -/
def inD (neg : Bool) : DOp := fun x y q G => match y with
  | .str t => ∃ c, x = .str [c] ∧ q (.bl (if neg then !decide (c ∈ t) else decide (c ∈ t))) G
  | .tup ys => flatD x = true ∧ ys.all flatD = true ∧ q (.bl (if neg then !inL x ys else inL x ys)) G
  | .lst ys => flatD x = true ∧ ys.all flatD = true ∧ q (.bl (if neg then !inL x ys else inL x ys)) G
  | .seq ys => flatD x = true ∧ ys.all flatD = true ∧ q (.bl (if neg then !inL x ys else inL x ys)) G
  | _ => False
theorem op_inDf : OpR X (compareOp .In) (rdR2 X.K (inD false)) := by
  intro pins s σ H x y v u Q I rx ry ⟨F, G, dx, dy, q, r, hx, hy, h, ko⟩
  cases hy <;> first | exact (h : False).elim | skip
  · obtain ⟨c, e, h⟩ := h
    subst e
    cases hx
    exact op_in_sign pins s σ H _ _ v u Q I rx ry ⟨c, _, rfl, rfl, kok1 ko r h (.bl _)⟩
  · rename_i a vs ds h1 r1
    refine op_in_seq pins s σ H _ _ v u Q I rx ry ⟨a, vs, rfl, .inr (r.ex.sq h1), flat_of hx h.1, flatL_of r1 h.2.1, ?_⟩
    rw [inV_of hx h.1 r1 h.2.1]
    exact kok1 ko r h.2.2 (.bl _)
  · rename_i a vs ds h1 r1
    refine op_in_seq pins s σ H _ _ v u Q I rx ry ⟨a, vs, rfl, .inl (r.ex.sl (SqL.of h1)), flat_of hx h.1, flatL_of r1 h.2.1, ?_⟩
    rw [inV_of hx h.1 r1 h.2.1]
    exact kok1 ko r h.2.2 (.bl _)
  · rename_i a vs ds h1 r1
    refine op_in_seq pins s σ H _ _ v u Q I rx ry ⟨a, vs, rfl, .inl (r.ex.sl h1), flat_of hx h.1, flatL_of r1 h.2.1, ?_⟩
    rw [inV_of hx h.1 r1 h.2.1]
    exact kok1 ko r h.2.2 (.bl _)
theorem op_inDt : OpR X (compareOp .NotIn) (rdR2 X.K (inD true)) := by
  intro pins s σ H x y v u Q I rx ry ⟨F, G, dx, dy, q, r, hx, hy, h, ko⟩
  cases hy <;> first | exact (h : False).elim | skip
  · obtain ⟨c, e, h⟩ := h
    subst e
    cases hx
    exact op_notIn_sign pins s σ H _ _ v u Q I rx ry ⟨c, _, rfl, rfl, kok1 ko r h (.bl _)⟩
  · rename_i a vs ds h1 r1
    refine op_notIn_seq pins s σ H _ _ v u Q I rx ry ⟨a, vs, rfl, .inr (r.ex.sq h1), flat_of hx h.1, flatL_of r1 h.2.1, ?_⟩
    rw [inV_of hx h.1 r1 h.2.1]
    exact kok1 ko r h.2.2 (.bl _)
  · rename_i a vs ds h1 r1
    refine op_notIn_seq pins s σ H _ _ v u Q I rx ry ⟨a, vs, rfl, .inl (r.ex.sl (SqL.of h1)), flat_of hx h.1, flatL_of r1 h.2.1, ?_⟩
    rw [inV_of hx h.1 r1 h.2.1]
    exact kok1 ko r h.2.2 (.bl _)
  · rename_i a vs ds h1 r1
    refine op_notIn_seq pins s σ H _ _ v u Q I rx ry ⟨a, vs, rfl, .inl (r.ex.sl h1), flat_of hx h.1, flatL_of r1 h.2.1, ?_⟩
    rw [inV_of hx h.1 r1 h.2.1]
    exact kok1 ko r h.2.2 (.bl _)

/-! ### subscripts -/
theorem RpAll.atI {K : PySem.W.Frag} {F : Hp} {vs : List V} {ds : List D} {i : Int} {d : D} (r : RpAll K F vs ds) (h : atI ds i = some d) : ∃ v, L2.atI vs i = some v ∧ Rp K F v d := by
  unfold L2.atI at h ⊢
  rw [r.len]
  cases q : ixN ds.length i with
  | none => rw [q] at h; cases h
  | some j =>
    rw [q] at h
    exact r.get (i := j) (d := d) h
def ixD : DOp := fun x y q G => match x, y with
  | .tup xs, .int i => ∃ d, atI xs i = some d ∧ q d G
  | .lst xs, .int i => ∃ d, atI xs i = some d ∧ q d G
  | .seq xs, .int i => ∃ d, atI xs i = some d ∧ q d G
  | .adr p, .int i => ∃ xs, G p = some (.lst xs) ∧ ∃ d, atI xs i = some d ∧ q d G
  | .str s, .int i => s.length ≤ 16777216 ∧ ∃ c, atI s i = some c ∧ q (.str [c]) G
  | _, _ => False
theorem ix_D : IxR X (rdR2 X.K ixD) := by
  intro value slice pins s σ H x y v u Q I rx ry ⟨F, G, dx, dy, q, r, hx, hy, h, ko⟩ hp
  cases hx <;> cases hy <;> first | exact (h : False).elim | skip
  · obtain ⟨hz, c, h1, h2⟩ := h
    exact ix_str value slice pins s σ H _ _ v u Q I rx ry ⟨_, _, c, rfl, rfl, by rw [st_len]; exact szk hz, h1, kok1 ko r h2 (.str _)⟩ hp
  · obtain ⟨xs, h0, d, h1, h2⟩ := h
    obtain ⟨_, vs, hv, r1⟩ := r.mo _ _ h0
    obtain ⟨w, e1, e2⟩ := r1.atI h1
    exact ix_list value slice pins s σ H _ _ v u Q I rx ry ⟨_, vs, _, w, rfl, rfl, SqL.of hv, e1, kok1 ko r h2 e2⟩ hp
  · rename_i a vs ds hh r1 i
    obtain ⟨d, h1, h2⟩ := h
    obtain ⟨w, e1, e2⟩ := r1.atI h1
    exact ix_tup value slice pins s σ H _ _ v u Q I rx ry ⟨_, vs, _, w, rfl, rfl, r.ex.sq hh, e1, kok1 ko r h2 e2⟩ hp
  · rename_i a vs ds hh r1 i
    obtain ⟨d, h1, h2⟩ := h
    obtain ⟨w, e1, e2⟩ := r1.atI h1
    exact ix_list value slice pins s σ H _ _ v u Q I rx ry ⟨_, vs, _, w, rfl, rfl, r.ex.sl (SqL.of hh), e1, kok1 ko r h2 e2⟩ hp
  · rename_i a vs ds hh r1 i
    obtain ⟨d, h1, h2⟩ := h
    obtain ⟨w, e1, e2⟩ := r1.atI h1
    exact ix_list value slice pins s σ H _ _ v u Q I rx ry ⟨_, vs, _, w, rfl, rfl, r.ex.sl hh, e1, kok1 ko r h2 e2⟩ hp
theorem de_ix (ha : PE X a (rdE X.K W ca)) (hb : PE X b (rdE X.K W cb)) (hs : PlainIx b := by intro _ _; rfl) : PE X (.Subscript a b pos) (rdE X.K W (cOp ixD ca cb)) :=
  PE.conv (pe_ix ix_D ha hb hs) fun _ _ _ h => rd_two h

/-! ### slices -/
abbrev CO := Cd (Option Int)
abbrev rdO (K : PySem.W.Frag) (W : WX) (c : CO) : TO := rd K RO W c
def cNoP : CO := fun k _ G => k.ok none G
def cP (ca : CE) : CO := fun k env G => ca ⟨fun d G1 => ∃ i, d = .int i ∧ k.ok (some i) G1, k.ex⟩ env G
variable {eo eo2 : Option Expr} {co co2 : CO} {p2 : Pos}
theorem do_none : PO X none (rdO X.K W cNoP) := PO.conv po_none fun σ H Q ⟨F, G, env, k, r0, s, hc, ko, kx⟩ => ko none G hc none F H (Ex.rf F) r0 rfl
theorem do_some (h : PE X e (rdE X.K W ca)) : PO X (some e) (rdO X.K W (cP ca)) :=
  PO.conv (po_some h) fun σ H Q ⟨F, G, env, k, r0, s, hc, ko, kx⟩ => by
    refine rd_mono (rd_bind (f := fun (d : D) (k : Kn (Option Int)) (env : Env) (G1 : Gm) => ∃ i, d = D.int i ∧ k.ok (some i) G1) r0 s hc ko kx) fun x H1 ⟨F1, G1, d, r1, s1, hd, e1, ⟨i, ei, h1⟩, ko1, kx1⟩ => ?_
    subst ei
    cases hd
    exact ⟨i, rfl, ko1 _ G1 h1 _ F1 H1 (Ex.rf F1) r1 rfl⟩
def cutL {α : Type} (xs : List α) (lo hi : Option Int) : List α := (xs.drop (HT.sIx xs.length 0 lo)).take (HT.sIx xs.length xs.length hi - HT.sIx xs.length 0 lo)
abbrev DSl := D → Option Int → Option Int → (D → Gm → Prop) → Gm → Prop
def slD : DSl := fun x lo hi q G => match x with
  | .str s => s.length ≤ 16777216 ∧ q (.str (cutL s lo hi)) G
  | .tup xs => q (.tup (cutL xs lo hi)) G
  | .lst xs => q (.lst (cutL xs lo hi)) G
  | .seq xs => q (.lst (cutL xs lo hi)) G
  | .adr p => ∃ xs, G p = some (.lst xs) ∧ q (.lst (cutL xs lo hi)) G
  | _ => False
/-- a list's slice, mutable -/
def slM : DSl := fun x lo hi q G => match x with
  | .lst xs => ∀ p, G p = none → q (.adr p) (ug G p (.lst (cutL xs lo hi)))
  | .seq xs => ∀ p, G p = none → q (.adr p) (ug G p (.lst (cutL xs lo hi)))
  | .adr a => ∃ xs, G a = some (.lst xs) ∧ ∀ p, G p = none → q (.adr p) (ug G p (.lst (cutL xs lo hi)))
  | _ => False
def rdSl (K : PySem.W.Frag) (f : DSl) : V → Option Int → Option Int → Hp → VK → Prop := fun x lo hi H Q => ∃ F G dx q, RG K F G H ∧ Rp K F x dx ∧ f dx lo hi q G ∧ Kok K (Rp K) F q Q
theorem RpAll.cut {K : PySem.W.Frag} {F : Hp} {vs : List V} {ds : List D} (r : RpAll K F vs ds) (lo hi : Option Int) : RpAll K F (cutV vs lo hi) (cutL ds lo hi) := by
  unfold cutV cutL
  rw [r.len]
  exact (r.drop _).take _
theorem cutV_whole (vs : List V) (lo hi : Option Int) (h : HT.sIx vs.length 0 lo = 0 ∧ HT.sIx vs.length vs.length hi = vs.length) : cutV vs lo hi = vs := by
  unfold cutV
  rw [h.1, h.2]
  simp
theorem cutL_whole {α : Type} (vs : List α) (lo hi : Option Int) (h : HT.sIx vs.length 0 lo = 0 ∧ HT.sIx vs.length vs.length hi = vs.length) : cutL vs lo hi = vs := by
  unfold cutL
  rw [h.1, h.2]
  simp
theorem cutS_st (s : List Nat) (lo hi : Option Int) : cutS (st s) lo hi = st (cutL s lo hi) := by
  unfold cutS cutL
  rw [st_len]
theorem sl_D : SlR X (rdSl X.K slD) := by
  intro pins s σ H x v vl vu lo hi sl Q I rx hs pl pu ⟨F, G, dx, q, r, hx, h, ko⟩
  cases hx <;> first | exact (h : False).elim | skip
  · refine sl_str pins s σ H _ v vl vu lo hi sl Q I rx hs pl pu ⟨_, rfl, by rw [st_len]; exact szk h.1, ?_⟩
    rw [cutS_st]
    exact kok1 ko r h.2 (.str _)
  · obtain ⟨xs, h0, h1⟩ := h
    obtain ⟨_, vs, hv, r1⟩ := r.mo _ _ h0
    exact sl_list pins s σ H _ v vl vu lo hi sl Q I rx hs pl pu ⟨_, vs, rfl, SqL.of hv, kokL ko r h1 (r1.cut lo hi)⟩
  · rename_i a vs ds hh r1
    refine sl_tupA pins s σ H _ v vl vu lo hi sl Q I rx hs pl pu ⟨a, vs, rfl, r.ex.sq hh, fun hw => ?_, fun _ => kokT ko r h (r1.cut lo hi)⟩
    have hw' := hw
    rw [r1.len] at hw'
    have h' : q (.tup ds) G := by
      have z : q (.tup (cutL ds lo hi)) G := h
      rw [cutL_whole ds lo hi hw'] at z
      exact z
    exact kok1 ko r h' (.tup hh r1)
  · rename_i a vs ds hh r1
    exact sl_list pins s σ H _ v vl vu lo hi sl Q I rx hs pl pu ⟨a, vs, rfl, r.ex.sl (SqL.of hh), kokL ko r h (r1.cut lo hi)⟩
  · rename_i a vs ds hh r1
    exact sl_list pins s σ H _ v vl vu lo hi sl Q I rx hs pl pu ⟨a, vs, rfl, r.ex.sl hh, kokL ko r h (r1.cut lo hi)⟩
theorem sl_M : SlR X (rdSl X.K slM) := by
  intro pins s σ H x v vl vu lo hi sl Q I rx hs pl pu ⟨F, G, dx, q, r, hx, h, ko⟩
  cases hx <;> first | exact (h : False).elim | skip
  · obtain ⟨xs, h0, h1⟩ := h
    obtain ⟨_, vs, hv, r1⟩ := r.mo _ _ h0
    exact sl_list pins s σ H _ v vl vu lo hi sl Q I rx hs pl pu ⟨_, vs, rfl, SqL.of hv, kokM ko r h1 (r1.cut lo hi)⟩
  · rename_i a vs ds hh r1
    exact sl_list pins s σ H _ v vl vu lo hi sl Q I rx hs pl pu ⟨a, vs, rfl, r.ex.sl (SqL.of hh), kokM ko r h (r1.cut lo hi)⟩
  · rename_i a vs ds hh r1
    exact sl_list pins s σ H _ v vl vu lo hi sl Q I rx hs pl pu ⟨a, vs, rfl, r.ex.sl hh, kokM ko r h (r1.cut lo hi)⟩
def cSl (f : DSl) (ca : CE) (co co2 : CO) : CE := fun k env G => ca ⟨fun x G1 => co ⟨fun lo G2 => co2 ⟨fun hi G3 => f x lo hi k.ok G3, k.ex⟩ env G2, k.ex⟩ env G1, k.ex⟩ env G
theorem de_slice {f : DSl} (hf : SlR X (rdSl X.K f)) (ha : PE X e (rdE X.K W ca)) (hl : PO X eo (rdO X.K W co)) (hu : PO X eo2 (rdO X.K W co2)) : PE X (.Subscript e (.Slice eo eo2 none p2) pos) (rdE X.K W (cSl f ca co co2)) :=
  PE.conv (pe_slice hf ha hl hu) fun σ H Q ⟨F, G, env, k, r0, s, hc, ko, kx⟩ => by
    refine rd_mono (rd_bind (f := fun (x : D) (k : Kn D) (env : Env) (G1 : Gm) => co ⟨fun lo G2 => co2 ⟨fun hi G3 => f x lo hi k.ok G3, k.ex⟩ env G2, k.ex⟩ env G1) r0 s hc ko kx) fun x H1 ⟨F1, G1, d, r1, s1, hd, e1, h1, ko1, kx1⟩ => ?_
    refine rd_mono (rd_bind (f := fun (lo : Option Int) (k : Kn D) (env : Env) (G2 : Gm) => co2 ⟨fun hi G3 => f d lo hi k.ok G3, k.ex⟩ env G2) r1 s1 h1 ko1 kx1) fun lo H2 ⟨F2, G2, d2, r2, s2, hd2, e2, h2, ko2, kx2⟩ => ?_
    cases hd2
    refine rd_mono (rd_bind (f := fun (hi : Option Int) (k : Kn D) (env : Env) (G3 : Gm) => f d lo hi k.ok G3) r2 s2 h2 ko2 kx2) fun hi H3 ⟨F3, G3, d3, r3, s3, hd3, e3, h3, ko3, kx3⟩ => ?_
    cases hd3
    exact ⟨F3, G3, d, k.ok, r3, (hd.mono e2).mono e3, h3, ko3⟩

/-! ### calls of built-ins -/
abbrev DC := List D → (D → Gm → Prop) → Gm → Prop
def rdC (K : PySem.W.Frag) (f : DC) : List V → Hp → VK → Prop := fun vs H Q => ∃ F G ds q, RG K F G H ∧ RpAll K F vs ds ∧ f ds q G ∧ Kok K (Rp K) F q Q
def cCB (f : DC) (cr : CA) : CE := fun k env G => cr ⟨fun ds G1 => f ds k.ok G1, k.ex⟩ env G
theorem rd_cb {f : DC} {K : PySem.W.Frag} {σ : L2.St} {H : Hp} {Q : VK} (h : rdE K W (cCB f cr) σ H Q) : tCB (rdC K f) (rdA K W cr) σ H Q := by
  obtain ⟨F, G, env, k, r0, s, hc, ko, kx⟩ := h
  refine rd_mono (rd_bind (f := fun (ds : List D) (k : Kn D) (env : Env) (G1 : Gm) => f ds k.ok G1) r0 s hc ko kx) fun x H1 ⟨F1, G1, d, r1, s1, hd, e1, h1, ko1, kx1⟩ => ?_
  exact ⟨F1, G1, d, k.ok, r1, hd, h1, ko1⟩
variable {x : Str} {p : Pos} {id T : String}
theorem de_callB {f : DC} (hc : CallR X (.builtin id) (rdC X.K f)) (hm : X.mg x = none) (ha : PA X (e :: es) (rdA X.K W cr)) (hv : bootBuiltins x = some (.builtin id) := by decide +kernel) (hg : Gl X x := by rfl) (hn : x ≠ "__name__" := by decide) (hdb : (x == ("__debug__" : Str)) = false := by decide)
    (he : starEach (e :: es) X.env = (false, eval e X.env) :: starEach es X.env := by rfl) (hpl : (backTo pos (starEach es X.env)).any (·.1) = false := by rfl) : PE X (.Call (.Name x p) (e :: es) [] pos) (rdE X.K W (cCB f cr)) :=
  PE.conv (pe_callB hc hg hm hv ha hn hdb he hpl) fun _ _ _ h => rd_cb h
theorem de_callTy {f : DC} (hc : CallR X (.type T) (rdC X.K f)) (hm : X.mg x = none) (ha : PA X (e :: es) (rdA X.K W cr)) (hv : bootBuiltins x = some (.type T) := by decide +kernel) (hg : Gl X x := by rfl) (hn : x ≠ "__name__" := by decide) (hdb : (x == ("__debug__" : Str)) = false := by decide)
    (he : starEach (e :: es) X.env = (false, eval e X.env) :: starEach es X.env := by rfl) (hpl : (backTo pos (starEach es X.env)).any (·.1) = false := by rfl) : PE X (.Call (.Name x p) (e :: es) [] pos) (rdE X.K W (cCB f cr)) :=
  PE.conv (pe_callTy hc hg hm hv ha hn hdb he hpl) fun _ _ _ h => rd_cb h
def lenD : DC := fun xs q G => match xs with
  | [.str s] => s.length ≤ 16777216 ∧ q (.int s.length) G
  | [.tup ys] => q (.int ys.length) G
  | [.lst ys] => q (.int ys.length) G
  | [.seq ys] => q (.int ys.length) G
  | [.adr a] => ∃ ys, G a = some (.lst ys) ∧ q (.int ys.length) G
  | _ => False
theorem call_lenD : CallR X (.builtin "len") (rdC X.K lenD) := by
  intro pins s σ H vs us Q I rx ⟨F, G, ds, q, r, hx, h, ko⟩
  cases hx with
  | nil => exact (h : False).elim
  | cons hd tl =>
    cases tl with
    | cons hd2 tl2 => cases hd <;> exact (h : False).elim
    | nil =>
      cases hd <;> first | exact (h : False).elim | skip
      · refine call_len pins s σ H _ us Q I rx ⟨_, _, rfl, ⟨by rw [st_len]; exact szk h.1, rfl⟩, ?_⟩
        rw [st_len]
        exact kok1 ko r h.2 (.int _)
      · obtain ⟨ys, h0, h1⟩ := h
        obtain ⟨_, vs, hv, r1⟩ := r.mo _ _ h0
        refine call_len pins s σ H _ us Q I rx ⟨_, _, rfl, .inl ⟨vs, SqL.of hv, rfl⟩, ?_⟩
        rw [r1.len]
        exact kok1 ko r h1 (.int _)
      · rename_i a vs ds hh r1
        refine call_len pins s σ H _ us Q I rx ⟨_, _, rfl, .inr ⟨vs, r.ex.sq hh, rfl⟩, ?_⟩
        rw [r1.len]
        exact kok1 ko r h (.int _)
      · rename_i a vs ds hh r1
        refine call_len pins s σ H _ us Q I rx ⟨_, _, rfl, .inl ⟨vs, r.ex.sl (SqL.of hh), rfl⟩, ?_⟩
        rw [r1.len]
        exact kok1 ko r h (.int _)
      · rename_i a vs ds hh r1
        refine call_len pins s σ H _ us Q I rx ⟨_, _, rfl, .inl ⟨vs, r.ex.sl hh, rfl⟩, ?_⟩
        rw [r1.len]
        exact kok1 ko r h (.int _)
/-- the items of what list(), tuple() take -/
def itemsOf : D → Gm → Option (List D)
  | .tup ys, _ => some ys
  | .lst ys, _ => some ys
  | .seq ys, _ => some ys
  | .adr a, G => match G a with
    | some (.lst ys) => some ys
    | _ => none
  | _, _ => none
theorem items_sq {K : PySem.W.Frag} {F H : Hp} {G : Gm} (r : RG K F G H) {v : V} {d : D} (hd : Rp K F v d) {ys : List D} (h : itemsOf d G = some ys) : ∃ a vs, v = .ref a ∧ (SqL K H a vs ∨ (SqT K H a vs ∧ d = .tup ys)) ∧ RpAll K F vs ys := by
  cases hd <;> simp only [itemsOf] at h <;> first | cases h | skip
  · rename_i a
    split at h
    · rename_i zs hz
      cases h
      obtain ⟨_, vs, hv, r1⟩ := r.mo _ _ hz
      exact ⟨a, vs, rfl, .inl (SqL.of hv), r1⟩
    · cases h
  · rename_i a vs hh r1
    exact ⟨a, vs, rfl, .inr ⟨r.ex.sq hh, rfl⟩, r1⟩
  · rename_i a vs hh r1
    exact ⟨a, vs, rfl, .inl (r.ex.sl (SqL.of hh)), r1⟩
  · rename_i a vs hh r1
    exact ⟨a, vs, rfl, .inl (r.ex.sl hh), r1⟩
def listD : DC := fun xs q G => ∃ x ys, xs = [x] ∧ itemsOf x G = some ys ∧ q (.lst ys) G
def listM : DC := fun xs q G => ∃ x ys, xs = [x] ∧ itemsOf x G = some ys ∧ ∀ p, G p = none → q (.adr p) (ug G p (.lst ys))
def tupleD : DC := fun xs q G => ∃ x ys, xs = [x] ∧ itemsOf x G = some ys ∧ q (.tup ys) G
theorem RpAll.one {K : PySem.W.Frag} {F : Hp} {vs : List V} {d : D} : RpAll K F vs [d] → ∃ v, vs = [v] ∧ Rp K F v d
  | .cons h .nil => ⟨_, rfl, h⟩
theorem RpAll.two {K : PySem.W.Frag} {F : Hp} {vs : List V} {d e : D} : RpAll K F vs [d, e] → ∃ v w, vs = [v, w] ∧ Rp K F v d ∧ Rp K F w e
  | .cons h (.cons h2 .nil) => ⟨_, _, rfl, h, h2⟩
theorem call_listD : CallR X (.type "list") (rdC X.K listD) := by
  intro pins s σ H vs us Q I rx ⟨F, G, ds, q, r, hx, ⟨x, ys, e, hi, h⟩, ko⟩
  subst e
  obtain ⟨v, rfl, hv⟩ := hx.one
  obtain ⟨a, ws, rfl, hs, r1⟩ := items_sq r hv hi
  exact call_list_of pins s σ H _ us Q I rx ⟨a, ws, rfl, hs.imp id And.left, kokL ko r h r1⟩
theorem call_listM : CallR X (.type "list") (rdC X.K listM) := by
  intro pins s σ H vs us Q I rx ⟨F, G, ds, q, r, hx, ⟨x, ys, e, hi, h⟩, ko⟩
  subst e
  obtain ⟨v, rfl, hv⟩ := hx.one
  obtain ⟨a, ws, rfl, hs, r1⟩ := items_sq r hv hi
  exact call_list_of pins s σ H _ us Q I rx ⟨a, ws, rfl, hs.imp id And.left, kokM ko r h r1⟩
theorem call_tupleD : CallR X (.type "tuple") (rdC X.K tupleD) := by
  intro pins s σ H vs us Q I rx ⟨F, G, ds, q, r, hx, ⟨x, ys, e, hi, h⟩, ko⟩
  subst e
  obtain ⟨v, rfl, hv⟩ := hx.one
  obtain ⟨a, ws, rfl, hs, r1⟩ := items_sq r hv hi
  rcases hs with hs | hs
  · exact call_tuple_of pins s σ H _ us Q I rx ⟨a, ws, rfl, .inl ⟨hs, kokT ko r h r1⟩⟩
  · obtain ⟨hs, e2⟩ := hs
    subst e2
    exact call_tuple_of pins s σ H _ us Q I rx ⟨a, ws, rfl, .inr ⟨hs, kok1 ko r h hv⟩⟩
end Dl
set_option maxHeartbeats 4000000
/-! DL5: attributes, calls of defs, methods, instances made. -/
namespace Dl
open PySem PySem.Spec PyProof.Rows L2
variable {X : Cx} {W : WX} {a b c e o : Expr} {es : List Expr} {ca cb cc ce : CE} {cr : CA} {pos p apos : Pos} {x m : Str}

/-! ### attributes -/
def insOf : D → Gm → Option (Str × List (Str × D))
  | .ins c fs, _ => some (c, fs)
  | .adr a, G => match G a with
    | some (.ins c fs) => some (c, fs)
    | _ => none
  | _, _ => none
theorem ins_at {K : PySem.W.Frag} {F H : Hp} {G : Gm} (r : RG K F G H) {v : V} {d : D} (hd : Rp K F v d) {cl : Str} {fs : List (Str × D)} (h : insOf d G = some (cl, fs)) :
    ∃ a dx vfs, v = .ref a ∧ H a = some (.ins (He.ga K cl) dx vfs) ∧ RpF K F vfs fs := by
  cases hd <;> simp only [insOf] at h <;> first | cases h | skip
  · rename_i a
    split at h
    · rename_i cl' fs' hz
      cases h
      obtain ⟨_, dx, vs, hv, r1⟩ := r.mo _ _ hz
      exact ⟨a, dx, vs, rfl, hv, r1⟩
    · cases h
  · rename_i a dx vs hh r1
    exact ⟨a, dx, vs, rfl, r.ex _ _ hh, r1⟩
def cFld (cl f : Str) (ca : CE) : CE := fun k env G => ca ⟨fun d G1 => ∃ fs y, insOf d G1 = some (cl, fs) ∧ fs.lookup f = some y ∧ k.ok y G1, k.ex⟩ env G
theorem de_fld {cl f : Str} (hc : Cls X.K (He.ga X.K cl)) (hn : NoAttr X.K (He.ga X.K cl) f) (he : PE X e (rdE X.K W ca)) (hb : attributeBase e f X.env (eval e X.env) = eval e X.env := by rfl) : PE X (.Attribute e f pos) (rdE X.K W (cFld cl f ca)) :=
  PE.conv (pe_fld he hb) fun σ H Q ⟨F, G, env, k, r0, s, hh, ko, kx⟩ => by
    refine rd_mono (rd_bind (f := fun (d : D) (k : Kn D) (env : Env) (G1 : Gm) => ∃ fs y, insOf d G1 = some (cl, fs) ∧ fs.lookup f = some y ∧ k.ok y G1) r0 s hh ko kx) fun x H1 ⟨F1, G1, d, r1, s1, hd, e1, ⟨fs, y, h1, h2, h3⟩, ko1, kx1⟩ => ?_
    obtain ⟨a, dx, vfs, ex, hH, rf⟩ := ins_at r1 hd h1
    obtain ⟨v, hv, rv⟩ := rf.lk h2
    exact ⟨a, _, dx, vfs, v, ex, hH, hc, hn, hv, ko1 _ G1 h3 _ F1 H1 (Ex.rf F1) r1 rv⟩

/-! ### promises -/
abbrev SpD := List D → Gm → Kn D → Prop
def KexE (K : PySem.W.Frag) (F : Hp) (e : XD → Gm → Prop) (E : XK) : Prop := ∀ x G', e x G' → ∀ cls dd F' H', Ex F F' → RG K F' G' H' → RX K F' cls dd x → E cls dd H'
def sp2 (K : PySem.W.Frag) (sp : SpD) : Sp := fun vs H Q E => ∃ F G ds k, RG K F G H ∧ RpAll K F vs ds ∧ sp ds G k ∧ Kok K (Rp K) F k.ok Q ∧ KexE K F k.ex E
/-- a def, by its address -/
structure FnA (P : Program) (w : World) (K : PySem.W.Frag) (mg : Str → Option Value) (base : Heap) (f : Addr) (k : Nat) (sp : SpD) : Prop where
  ex : ∃ fd ps, FnOk P w K mg base (L2.CX P w) k f fd ps (sp2 K sp) ∧ PySem.W.keepIn K (.ref f) = true ∧ Binds K fd ps []
/-- a def of the module, by its name -/
structure FnG (P : Program) (w : World) (K : PySem.W.Frag) (mg : Str → Option Value) (base : Heap) (x : Str) (k : Nat) (sp : SpD) : Prop where
  ex : ∃ f, mg x = some (.ref f) ∧ FnA P w K mg base f k sp
def cCall (sp : SpD) (cr : CA) : CE := fun k env G => cr ⟨fun ds G1 => sp ds G1 k, k.ex⟩ env G
theorem sp_of {K : PySem.W.Frag} {sp : SpD} {F : Hp} {G : Gm} {H : Hp} {vs : List V} {ds : List D} {k : Kn D} {Q : VK} {σ : L2.St} (r : RG K F G H) (hd : RpAll K F vs ds) (h : sp ds G k) (ko : Kok K (Rp K) F k.ok Q) (kx : Kex K W F σ k.ex) : sp2 K sp vs H Q (WE W σ) :=
  ⟨F, G, ds, k, r, hd, h, ko, kx⟩
theorem de_call {sp : SpD} {k : Nat} (Fn : FnG X.prog X.w X.K X.mg X.base x k sp) (hr : Room k X.A) (tk : Takes X W) (ha : PA X (e :: es) (rdA X.K W cr)) (hg : Gl X x := by rfl) (hdb : (x == ("__debug__" : Str)) = false := by decide)
    (he : starEach (e :: es) X.env = (false, eval e X.env) :: starEach es X.env := by rfl) (hpl : (backTo pos (starEach es X.env)).any (·.1) = false := by rfl) : PE X (.Call (.Name x p) (e :: es) [] pos) (rdE X.K W (cCall sp cr)) := by
  obtain ⟨f, hm, fd, ps, F, kp, b⟩ := Fn
  refine PE.conv (pe_callS F hr hg hm kp b (fun σ => passAt tk σ) ha hdb he hpl) fun σ H Q ⟨F0, G, env, k, r0, s, hc, ko, kx⟩ => ?_
  refine rd_mono (rd_bind (f := fun (ds : List D) (k : Kn D) (env : Env) (G1 : Gm) => sp ds G1 k) r0 s hc ko kx) fun vs H1 ⟨F1, G1, d, r1, s1, hd, e1, h1, ko1, kx1⟩ => ?_
  exact sp_of r1 hd h1 ko1 kx1
theorem de_call0 {sp : SpD} {k : Nat} (Fn : FnG X.prog X.w X.K X.mg X.base x k sp) (hr : Room k X.A) (tk : Takes X W) (hg : Gl X x := by rfl) (hdb : (x == ("__debug__" : Str)) = false := by decide) : PE X (.Call (.Name x p) [] [] pos) (rdE X.K W (cCall sp cNil)) := by
  obtain ⟨f, hm, fd, ps, F, kp, b⟩ := Fn
  refine ⟨fun pins s σ H Q I ⟨F0, G, env, k, r0, sl, hc, ko, kx⟩ => ?_⟩
  refine wpAny_Call_Name_kw (ld_glob I hg hm ?_ hdb)
  refine PySem.W.callWith_K0 I.kIn kp (run_fnS (us := []) F hr b (passAt tk σ) I .nil (sp_of r0 .nil hc ko kx))
/-! ### methods -/
structure FnM (P : Program) (w : World) (K : PySem.W.Frag) (mg : Str → Option Value) (base : Heap) (cl m : Str) (k : Nat) (sp : SpD) : Prop where
  cls : Cls K (He.ga K cl)
  ex : ∃ f, Meth K (He.ga K cl) m f ∧ FnA P w K mg base f k sp
def cMeth (cl m : Str) (sp : SpD) (co : CE) (cr : CA) : CE := fun k env G => co ⟨fun o G1 => (∃ fs, insOf o G1 = some (cl, fs) ∧ fs.lookup m = none) ∧ cr ⟨fun ds G2 => sp (o :: ds) G2 k, k.ex⟩ env G1, k.ex⟩ env G
theorem de_meth {pl : Sem Bool} {sp : SpD} {k : Nat} {cl : Str} (Fn : FnM X.prog X.w X.K X.mg X.base cl m k sp) (hr : Room k X.A) (tk : Takes X W) (ho : PE X o (rdE X.K W ca)) (ha : PA X (e :: es) (rdA X.K W cr))
    (hst : starEach (e :: es) X.env = (false, eval e X.env) :: starEach es X.env := by rfl) (hpl : (backTo pos (starEach es X.env)).any (·.1) = false := by rfl)
    (ht : eval (.Call (.Attribute o m apos) (e :: es) [] pos) X.env = (do
      let ov ← eval o X.env
      standAt apos.atName
      let (f, first) ← holding [ov] (getMethod ov m pl)
      callWith pos f first (backTo pos (starEach (e :: es) X.env)) (backToKw pos (keywordEach [] X.env))) := by rfl) :
    PE X (.Call (.Attribute o m apos) (e :: es) [] pos) (rdE X.K W (cMeth cl m sp ca cr)) := by
  obtain ⟨hc, f, hm, fd, ps, F, kp, b⟩ := Fn
  refine ⟨fun pins s σ H Q I ⟨F0, G, env, k, r0, sl, hh, ko, kx⟩ => ?_⟩
  have h1 := rd_bind (R := Rp X.K) (f := fun (o : D) (k : Kn D) (env : Env) (G1 : Gm) => (∃ fs, insOf o G1 = some (cl, fs) ∧ fs.lookup m = none) ∧ cr ⟨fun ds G2 => sp (o :: ds) G2 k, k.ex⟩ env G1) r0 sl hh ko kx
  refine PySem.W.methodCall_KW (pl := pl) (thn (ho.run pins s σ H _ I h1) fun u s1 hq => ?_) ht
  obtain ⟨x, H1, I1, rx, F1, G1, d, r1, sl1, hd, e1, ⟨⟨fs, hi, hl⟩, h2⟩, ko1, kx1⟩ := hq
  obtain ⟨a, dx, vfs, ex, hH, rf⟩ := ins_at r1 hd hi
  subst ex
  obtain rfl : u = Value.ref a := rx
  refine getmeth_ok I1 hH hc hm (rf.lkn hl) ?_
  have h3 := rd_bind (R := RpAll X.K) (f := fun (ds : List D) (k : Kn D) (env : Env) (G2 : Gm) => sp (d :: ds) G2 k) r1 sl1 h2 ko1 kx1
  refine PySem.W.callWith_K (first := [.ref a]) (h₀ := X.base) I1.ok.mod.kin hm.kp (thn (ha.run pos pins s1 σ H1 _ I1 h3) fun us s2 hq2 => ?_) hst hpl
  obtain ⟨vs, H2, I2, r, F2, G2, ds, r2, sl2, hds, e2, h4, ko2, kx2⟩ := hq2
  exact ⟨I2.kIn, run_fnS (us := .ref a :: us) (vs := .ref a :: vs) F hr b (passAt tk σ) I2 (.cons rfl r) (sp_of r2 (.cons (hd.mono e2) hds) h4 ko2 kx2)⟩
theorem de_meth0 {pl : Sem Bool} {sp : SpD} {k : Nat} {cl : Str} (Fn : FnM X.prog X.w X.K X.mg X.base cl m k sp) (hr : Room k X.A) (tk : Takes X W) (ho : PE X o (rdE X.K W ca))
    (ht : eval (.Call (.Attribute o m apos) [] [] pos) X.env = (do
      let ov ← eval o X.env
      standAt apos.atName
      let (f, first) ← holding [ov] (getMethod ov m pl)
      callWith pos f first (backTo pos (starEach [] X.env)) (backToKw pos (keywordEach [] X.env))) := by rfl) :
    PE X (.Call (.Attribute o m apos) [] [] pos) (rdE X.K W (cMeth cl m sp ca cNil)) := by
  obtain ⟨hc, f, hm, fd, ps, F, kp, b⟩ := Fn
  refine ⟨fun pins s σ H Q I ⟨F0, G, env, k, r0, sl, hh, ko, kx⟩ => ?_⟩
  have h1 := rd_bind (R := Rp X.K) (f := fun (o : D) (k : Kn D) (env : Env) (G1 : Gm) => (∃ fs, insOf o G1 = some (cl, fs) ∧ fs.lookup m = none) ∧ cNil ⟨fun ds G2 => sp (o :: ds) G2 k, k.ex⟩ env G1) r0 sl hh ko kx
  refine PySem.W.methodCall_KW (pl := pl) (thn (ho.run pins s σ H _ I h1) fun u s1 hq => ?_) ht
  obtain ⟨x, H1, I1, rx, F1, G1, d, r1, sl1, hd, e1, ⟨⟨fs, hi, hl⟩, h2⟩, ko1, kx1⟩ := hq
  obtain ⟨a, dx, vfs, ex, hH, rf⟩ := ins_at r1 hd hi
  subst ex
  obtain rfl : u = Value.ref a := rx
  refine getmeth_ok I1 hH hc hm (rf.lkn hl) ?_
  exact PySem.W.callWith_K0 (first := [.ref a]) I1.kIn hm.kp (run_fnS (us := [.ref a]) (vs := [.ref a]) F hr b (passAt tk σ) I1 (.cons rfl .nil) (sp_of r1 (.cons hd .nil) h2 ko1 kx1))
/-! ### C(..) -/
structure FnC (P : Program) (w : World) (K : PySem.W.Frag) (mg : Str → Option Value) (base : Heap) (cl : Str) (k : Nat) (sp : SpD) : Prop where
  mg_ : mg cl = some (.ref (He.ga K cl))
  ex : ∃ f, Mk K (He.ga K cl) f ∧ FnA P w K mg base f k sp
/-- the new instance is mutable -/
def cMake (cl : Str) (sp : SpD) (cr : CA) : CE := fun k env G => cr ⟨fun ds G1 => ∀ a, G1 a = none → sp (.adr a :: ds) (ug G1 a (.ins cl [])) ⟨fun d G2 => d = .non ∧ k.ok (.adr a) G2, k.ex⟩, k.ex⟩ env G
theorem run_mk {CX : CXT} {k : Nat} {f C : Addr} {fd : FuncData} {ps : List Str} {sp : Sp} {E : XK} {pins : List (Addr × Obj)} {σ : L2.St} {H : Hp} {s : Shared} {Q : VK} {us : List Value} {vs : List V} (M : Mk X.K C f) (F : FnOk X.prog X.w X.K X.mg X.base CX k f fd ps sp)
    (hr : Room (k + 1) X.A) (hb : Binds X.K fd ps []) (hx : PassesAt CX X σ E) (I : L2.Inv X pins σ H s) (r : Vals vs us)
    (h : ∀ x dx, H x = none → H dx = none → dx ≠ x → sp (.ref x :: vs) (upd (upd H dx (.own x)) x (.ins C dx [])) (fun v H2 => v = .non ∧ Q (.ref x) H2) E) :
    wpAny (model X.prog X.w) X.A (call (.ref C) us) (EP X pins σ Q) X.xe s := by
  have n1 : H (s.heap.objs.size + 1) = none := I.hok.fresh (Nat.le_succ _)
  have n0 : H s.heap.objs.size = none := I.hok.fresh (Nat.le_refl _)
  have hq := h (s.heap.objs.size + 1) s.heap.objs.size n1 n0 (Nat.ne_of_lt (Nat.lt_succ_self _))
  have I2 := Inv.made (C := C) I
  have r2 : Vals (V.ref (s.heap.objs.size + 1) :: vs) (Value.ref (s.heap.objs.size + 1) :: us) := .cons rfl r
  have hl : ((Value.ref (s.heap.objs.size + 1) :: us) ++ []).length = ps.length := by
    rw [List.append_nil, ← r2.length, F.len _ _ _ _ hq]
  have bd := hb _ (Value.ref (s.heap.objs.size + 1) :: us) I2.kIn hl
  rw [List.append_nil] at bd
  have run := F.run _ X.stack _ _ ⟨Value.ref (s.heap.objs.size + 1) :: us, []⟩ (Value.ref (s.heap.objs.size + 1) :: us) _ _ E (hr.make C us []) (I2.env0.make C us []) bd r2 hq
  refine wpAny_call (make_map (f := f) I.kIn M.makes M.init (beq_iff_eq.mp M.fn) (codeAny_mono run fun z s' hz => ?_))
  cases z with
  | error er => exact hx pins _ _ er s' I2 hz
  | ok fl =>
    cases fl with
    | ret u =>
      have af := I2.after hz
      obtain ⟨v, H', I3, rv, ev, q3⟩ := af
      subst ev
      exact And.intro rv ⟨V.ref (s.heap.objs.size + 1), H', I3, rfl, q3⟩
    | next => exact hz.elim
    | brk => exact hz.elim
    | cont => exact hz.elim
theorem mk_sp {K : PySem.W.Frag} {sp : SpD} {F : Hp} {G : Gm} {H : Hp} {vs : List V} {ds : List D} {k : Kn D} {Q : VK} {σ : L2.St} {cl : Str} (r : RG K F G H) (hd : RpAll K F vs ds)
    (h : ∀ a, G a = none → sp (.adr a :: ds) (ug G a (.ins cl [])) ⟨fun d G2 => d = .non ∧ k.ok (.adr a) G2, k.ex⟩) (ko : Kok K (Rp K) F k.ok Q) (kx : Kex K W F σ k.ex) :
    ∀ x dx, H x = none → H dx = none → dx ≠ x → sp2 K sp (.ref x :: vs) (upd (upd H dx (.own x)) x (.ins (He.ga K cl) dx [])) (fun v H2 => v = .non ∧ Q (.ref x) H2) (WE W σ) := fun x dx hx hdx ne => by
  have r1 : RG K F G (upd H dx (.own x)) := by
    refine ⟨fun a u q => ?_, fun a u q => ?_⟩
    · rw [upd_ne (fun z => by subst z; rw [r.freeF hdx] at q; cases q)]; exact r.ex a u q
    · have w := r.mo a u q
      exact w.mono (Ex.rf F) w.live.1 (upd_ne fun z => w.live.2 (z ▸ hdx))
  have hx1 : (upd H dx (.own x)) x = none := by rw [upd_ne ne.symm]; exact hx
  have r2 := r1.lay2 (o := .ins (He.ga K cl) dx []) (m := .ins cl []) hx1 ⟨r.freeF hx, dx, [], upd_same, .nil⟩
  refine ⟨F, _, .adr x :: ds, _, r2, .cons (.adr x) hd, h x (r.freeG hx), fun d G' ⟨e, hk⟩ v F' H' e' r' hv => ?_, kx⟩
  subst e
  cases hv
  exact ⟨rfl, ko _ G' hk _ F' H' e' r' (.adr x)⟩
theorem de_make {sp : SpD} {k : Nat} (Fn : FnC X.prog X.w X.K X.mg X.base x k sp) (hr : Room (k + 1) X.A) (tk : Takes X W) (ha : PA X (e :: es) (rdA X.K W cr)) (hg : Gl X x := by rfl) (hdb : (x == ("__debug__" : Str)) = false := by decide)
    (he : starEach (e :: es) X.env = (false, eval e X.env) :: starEach es X.env := by rfl) (hpl : (backTo pos (starEach es X.env)).any (·.1) = false := by rfl) : PE X (.Call (.Name x p) (e :: es) [] pos) (rdE X.K W (cMake x sp cr)) := by
  obtain ⟨hm, f, M, fd, ps, F, kp, b⟩ := Fn
  refine ⟨fun pins s σ H Q I ⟨F0, G, env, k, r0, sl, hh, ko, kx⟩ => ?_⟩
  have h1 := rd_bind (R := RpAll X.K) (f := fun (ds : List D) (k : Kn D) (env : Env) (G1 : Gm) => ∀ a, G1 a = none → sp (.adr a :: ds) (ug G1 a (.ins x [])) ⟨fun d G2 => d = .non ∧ k.ok (.adr a) G2, k.ex⟩) r0 sl hh ko kx
  refine wpAny_Call_Name_kw (ld_glob I hg hm ?_ hdb)
  refine PySem.W.callWith_K (h₀ := X.base) I.ok.mod.kin M.kp (thn (ha.run pos pins s σ H _ I h1) fun us s1 hq => ?_) he hpl
  obtain ⟨vs, H1, I1, r, F1, G1, ds, r1, sl1, hds, e1, h2, ko1, kx1⟩ := hq
  exact ⟨I1.kIn, run_mk M F hr b (passAt tk σ) I1 r (mk_sp r1 hds h2 ko1 kx1)⟩
theorem de_make0 {sp : SpD} {k : Nat} (Fn : FnC X.prog X.w X.K X.mg X.base x k sp) (hr : Room (k + 1) X.A) (tk : Takes X W) (hg : Gl X x := by rfl) (hdb : (x == ("__debug__" : Str)) = false := by decide) : PE X (.Call (.Name x p) [] [] pos) (rdE X.K W (cMake x sp cNil)) := by
  obtain ⟨hm, f, M, fd, ps, F, kp, b⟩ := Fn
  refine ⟨fun pins s σ H Q I ⟨F0, G, env, k, r0, sl, hh, ko, kx⟩ => ?_⟩
  refine wpAny_Call_Name_kw (ld_glob I hg hm ?_ hdb)
  exact PySem.W.callWith_K0 I.kIn M.kp (run_mk (us := []) M F hr b (passAt tk σ) I .nil (mk_sp r0 .nil hh ko kx))
/-- a mutable thing becomes one for good -/
def cFrz (ca : CE) : CE := fun k env G => ca ⟨fun d G1 => ∃ a, d = .adr a ∧ ((∃ xs, G1 a = some (.lst xs) ∧ k.ok (.lst xs) (dg G1 a)) ∨ (∃ cl fs, G1 a = some (.ins cl fs) ∧ k.ok (.ins cl fs) (dg G1 a)) ∨ (∃ kv, G1 a = some (.dk kv) ∧ k.ok (.dk kv) (dg G1 a)) ∨ (∃ kv, G1 a = some (.dt kv) ∧ k.ok (.dt kv) (dg G1 a))), k.ex⟩ env G
theorem de_frz (h : PE X e (rdE X.K W ca)) : PE X e (rdE X.K W (cFrz ca)) :=
  PE.conv h fun σ H Q ⟨F, G, env, k, r0, s, hh, ko, kx⟩ => by
    refine rd_mono (rd_bind (f := fun (d : D) (k : Kn D) (env : Env) (G1 : Gm) => ∃ a, d = .adr a ∧ ((∃ xs, G1 a = some (.lst xs) ∧ k.ok (.lst xs) (dg G1 a)) ∨ (∃ cl fs, G1 a = some (.ins cl fs) ∧ k.ok (.ins cl fs) (dg G1 a)) ∨ (∃ kv, G1 a = some (.dk kv) ∧ k.ok (.dk kv) (dg G1 a)) ∨ (∃ kv, G1 a = some (.dt kv) ∧ k.ok (.dt kv) (dg G1 a)))) r0 s hh ko kx) fun x H1 ⟨F1, G1, d, r1, s1, hd, e1, ⟨a, ed, h1⟩, ko1, kx1⟩ => ?_
    subst ed
    cases hd
    rcases h1 with ⟨xs, h2, h3⟩ | ⟨cl, fs, h2, h3⟩ | ⟨xs, h2, h3⟩ | ⟨xs, h2, h3⟩
    · obtain ⟨hF, vs, hv, rv⟩ := r1.mo _ _ h2
      obtain ⟨e2, r2⟩ := r1.frz hF hv
      exact ko1 _ _ h3 _ _ _ e2 r2 (.lst upd_same (rv.mono e2))
    · obtain ⟨hF, dx, vs, hv, rv⟩ := r1.mo _ _ h2
      obtain ⟨e2, r2⟩ := r1.frz hF hv
      exact ko1 _ _ h3 _ _ _ e2 r2 (.ins upd_same (rv.mono e2))
    · obtain ⟨hF, vs, hv, rv⟩ := r1.mo _ _ h2
      obtain ⟨e2, r2⟩ := r1.frz hF hv
      exact ko1 _ _ h3 _ _ _ e2 r2 (.dk upd_same (rv.mono e2))
    · obtain ⟨hF, vs, hv, rv⟩ := r1.mo _ _ h2
      obtain ⟨e2, r2⟩ := r1.frz hF hv
      exact ko1 _ _ h3 _ _ _ e2 r2 (.dt upd_same (rv.mono e2))
end Dl
set_option maxHeartbeats 4000000
/-! DL6: statements over trees. -/
namespace Dl
open PySem PySem.Spec PyProof.Rows L2
variable {X : Cx} {W : WX} {a b c e o : Expr} {es : List Expr} {ca cb cc ce co ci cv : CE} {cr : CA} {ct : CT} {pos p apos : Pos} {x m : Str} {s1 s2 : Stmt} {ss ss2 : List Stmt} {c1 c2 : CS}

/-- what is wanted behind a statement below is wanted above -/
structure Sok (K : PySem.W.Frag) (W : WX) (F : Hp) (E : En) (Ds : Ends) : Prop where
  nx : ∀ env G, E.nx env G → ∀ σ F' H, Ex F F' → RG K F' G H → Sl K F' σ env → Ds.nx σ H
  rt : ∀ d G, E.rt d G → ∀ v F' H, Ex F F' → RG K F' G H → Rp K F' v d → Ds.rt v H
  bk : ∀ env G, E.bk env G → ∀ σ F' H, Ex F F' → RG K F' G H → Sl K F' σ env → Ds.bk σ H
  ct : ∀ env G, E.ct env G → ∀ σ F' H, Ex F F' → RG K F' G H → Sl K F' σ env → Ds.ct σ H
  ex : ∀ x env G, E.ex x env G → ∀ cls dd σ F' H, Ex F F' → RG K F' G H → Sl K F' σ env → RX K F' cls dd x → W cls dd σ H
theorem Sok.up {K : PySem.W.Frag} {F F1 : Hp} {E : En} {Ds : Ends} (h : Sok K W F E Ds) (e : Ex F F1) : Sok K W F1 E Ds :=
  ⟨fun env G q σ F' H e' => h.nx env G q σ F' H (e.tr e'), fun d G q v F' H e' => h.rt d G q v F' H (e.tr e'), fun env G q σ F' H e' => h.bk env G q σ F' H (e.tr e'),
    fun env G q σ F' H e' => h.ct env G q σ F' H (e.tr e'), fun x env G q cls dd σ F' H e' => h.ex x env G q cls dd σ F' H (e.tr e')⟩
def rdS (K : PySem.W.Frag) (W : WX) (c : CS) : TS := fun Ds σ H => ∃ F G env E, RG K F G H ∧ Sl K F σ env ∧ c E env G ∧ Sok K W F E Ds
theorem Sok.kex {K : PySem.W.Frag} {F : Hp} {E : En} {Ds : Ends} {σ : L2.St} {env : Env} (h : Sok K W F E Ds) (s : Sl K F σ env) : Kex K W F σ (fun x G => E.ex x env G) :=
  fun x G q cls dd F' H e r rx => h.ex x env G q cls dd σ F' H e r (s.mono e) rx
/-- an expression in a statement -/
theorem rds_bind {α β : Type} {K : PySem.W.Frag} {R : Hp → β → α → Prop} {c : Cd α} {f : α → En → Env → Gm → Prop} {σ : L2.St} {H : Hp} {Ds : Ends} {F : Hp} {G : Gm} {env : Env} {E : En}
    (r : RG K F G H) (s : Sl K F σ env) (h : c ⟨fun d G1 => f d E env G1, fun x G1 => E.ex x env G1⟩ env G) (so : Sok K W F E Ds) :
    rd K R W c σ H fun v H1 => ∃ F1 G1 d, RG K F1 G1 H1 ∧ Sl K F1 σ env ∧ R F1 v d ∧ Ex F F1 ∧ f d E env G1 ∧ Sok K W F1 E Ds :=
  ⟨F, G, env, _, r, s, h, fun d G' hd v F' H' e r' hR => ⟨F', G', d, r', s.mono e, hR, e, hd, so.up e⟩, so.kex s⟩

/-! ### blocks -/
def cNext : CS := fun E env G => E.nx env G
def cSeq (c1 c2 : CS) : CS := fun E env G => c1 { E with nx := fun env1 G1 => c2 E env1 G1 } env G
theorem dss_nil : PSs X [] (rdS X.K W cNext) := PSs.conv pss_nil fun Ds σ H ⟨F, G, env, E, r, s, h, so⟩ => so.nx env G h σ F H (Ex.rf F) r s
theorem dss_cons (h1 : PS X s1 (rdS X.K W c1)) (h2 : PSs X ss (rdS X.K W c2)) : PSs X (s1 :: ss) (rdS X.K W (cSeq c1 c2)) :=
  PSs.conv (pss_cons h1 h2) fun Ds σ H ⟨F, G, env, E, r, s, h, so⟩ =>
    ⟨F, G, env, { E with nx := fun env1 G1 => c2 E env1 G1 }, r, s, h, ⟨fun env1 G1 q σ1 F1 H1 e1 r1 s1 => ⟨F1, G1, env1, E, r1, s1, q, so.up e1⟩, so.rt, so.bk, so.ct, so.ex⟩⟩
theorem dss_one (h1 : PS X s1 (rdS X.K W c1)) : PSs X [s1] (rdS X.K W c1) := pss_one h1
theorem ds_pass : PS X (.Pass pos) (rdS X.K W cNext) := PS.conv ps_pass fun Ds σ H ⟨F, G, env, E, r, s, h, so⟩ => so.nx env G h σ F H (Ex.rf F) r s
def cBreak : CS := fun E env G => E.bk env G
def cCont : CS := fun E env G => E.ct env G
theorem ds_break : PS X (.Break pos) (rdS X.K W cBreak) := PS.conv ps_break fun Ds σ H ⟨F, G, env, E, r, s, h, so⟩ => so.bk env G h σ F H (Ex.rf F) r s
theorem ds_continue : PS X (.Continue pos) (rdS X.K W cCont) := PS.conv ps_continue fun Ds σ H ⟨F, G, env, E, r, s, h, so⟩ => so.ct env G h σ F H (Ex.rf F) r s
def cDrop (ca : CE) : CS := fun E env G => ca ⟨fun _ G1 => E.nx env G1, fun x G1 => E.ex x env G1⟩ env G
theorem ds_expr (he : PE X e (rdE X.K W ce)) (hs : swapsWith e none pos.line X.env = pure false := by rfl) : PS X (.Expr e pos) (rdS X.K W (cDrop ce)) :=
  PS.conv (ps_expr he hs) fun Ds σ H ⟨F, G, env, E, r, s, h, so⟩ =>
    rd_mono (rds_bind (f := fun _ E env G1 => E.nx env G1) r s h so) fun v H1 ⟨F1, G1, d, r1, s1, _, e1, h1, so1⟩ => so1.nx env G1 h1 σ F1 H1 (Ex.rf F1) r1 s1
def cRet (ca : CE) : CS := fun E env G => ca ⟨fun d G1 => E.rt d G1, fun x G1 => E.ex x env G1⟩ env G
theorem ds_ret (he : PE X e (rdE X.K W ce)) : PS X (.Return (some e) pos) (rdS X.K W (cRet ce)) :=
  PS.conv (ps_ret he) fun Ds σ H ⟨F, G, env, E, r, s, h, so⟩ =>
    rd_mono (rds_bind (f := fun d E env G1 => E.rt d G1) r s h so) fun v H1 ⟨F1, G1, d, r1, s1, hd, e1, h1, so1⟩ => so1.rt d G1 h1 v F1 H1 (Ex.rf F1) r1 hd
def cRetN : CS := fun E _ G => E.rt .non G
theorem ds_retN : PS X (.Return none pos) (rdS X.K W cRetN) := PS.conv ps_retN fun Ds σ H ⟨F, G, env, E, r, s, h, so⟩ => so.rt _ G h _ F H (Ex.rf F) r .non
def cIfS (t : CT) (c1 c2 : CS) : CS := fun E env G => t ⟨fun b G1 => (b = true → c1 E env G1) ∧ (b = false → c2 E env G1), fun x G1 => E.ex x env G1⟩ env G
theorem ds_if (ht : PT X c (rdT X.K W ct)) (h1 : PSs X ss (rdS X.K W c1)) (h2 : PSs X ss2 (rdS X.K W c2)) : PS X (.If c ss ss2 pos) (rdS X.K W (cIfS ct c1 c2)) :=
  PS.conv (ps_if ht h1 h2) fun Ds σ H ⟨F, G, env, E, r, s, h, so⟩ => by
    refine rd_mono (rds_bind (f := fun b E env G1 => (b = true → c1 E env G1) ∧ (b = false → c2 E env G1)) r s h so) fun v H1 ⟨F1, G1, d, r1, s1, hd, e1, ⟨k1, k2⟩, so1⟩ => ?_
    cases hd
    cases v with
    | true => rw [if_pos rfl]; exact ⟨F1, G1, env, E, r1, s1, k1 rfl, so1⟩
    | false => rw [if_neg Bool.false_ne_true]; exact ⟨F1, G1, env, E, r1, s1, k2 rfl, so1⟩

/-! ### targets -/
abbrev CG := D → (Env → Gm → Prop) → Env → Gm → Prop
abbrev CGs := List D → (Env → Gm → Prop) → Env → Gm → Prop
/-- J: the slots that may change -/
def rdG (K : PySem.W.Frag) (J : List Nat) (g : CG) : TG := fun v σ H Q => ∃ F G env d q, RG K F G H ∧ Sl K F σ env ∧ Rp K F v d ∧ g d q env G ∧
  ∀ env' G', q env' G' → ∀ σ' F' H', wipe σ' J = wipe σ J → Ex F F' → RG K F' G' H' → Sl K F' σ' env' → Q σ' H'
def rdGs (K : PySem.W.Frag) (J : List Nat) (g : CGs) : TGs := fun vs σ H Q => ∃ F G env ds q, RG K F G H ∧ Sl K F σ env ∧ RpAll K F vs ds ∧ g ds q env G ∧
  ∀ env' G', q env' G' → ∀ σ' F' H', wipe σ' J = wipe σ J → Ex F F' → RG K F' G' H' → Sl K F' σ' env' → Q σ' H'
theorem PG.conv {X : Cx} {e : Expr} {t t' : TG} (h : PG X e t) (c : ∀ v σ H Q, t' v σ H Q → t v σ H Q) : PG X e t' := ⟨fun pins s σ H v u Q I r q => h.run pins s σ H v u Q I r (c v σ H Q q)⟩
theorem PGs.conv {X : Cx} {e : List Expr} {t t' : TGs} (h : PGs X e t) (c : ∀ v σ H Q, t' v σ H Q → t v σ H Q) : PGs X e t' := ⟨fun pins s σ H v u Q I r q => h.run pins s σ H v u Q I r (c v σ H Q q)⟩
theorem wipe_get (σ : L2.St) : ∀ (J : List Nat) (i : Nat), (wipe σ J)[i]? = if i ∈ J then (σ[i]?).map (fun _ => (none : Option V)) else σ[i]?
  | [], i => by simp [wipe]
  | j :: J, i => by
    show ((wipe σ J).set j none)[i]? = _
    by_cases h : j = i
    · subst h
      rw [List.getElem?_set_self', wipe_get σ J j]
      by_cases hJ : j ∈ J
      · simp [hJ]; rfl
      · simp [hJ]; rfl
    · rw [List.getElem?_set_ne h, wipe_get σ J i]
      have h' : ¬ i = j := fun z => h z.symm
      by_cases hJ : i ∈ J
      · simp [hJ]
      · simp [hJ, h']
theorem wipe_set {σ : L2.St} {J : List Nat} {j : Nat} {v : Option V} (h : j ∈ J) : wipe (σ.set j v) J = wipe σ J := by
  apply List.ext_getElem?
  intro i
  rw [wipe_get, wipe_get]
  by_cases hi : j = i
  · subst hi
    rw [if_pos h, if_pos h, List.getElem?_set_self']
    cases σ[j]? <;> rfl
  · rw [List.getElem?_set_ne hi]
def gNm (i : Nat) : CG := fun d q env G => q (env.set i (some d)) G
theorem dg_name {J : List Nat} {i : Nat} (hN : X.N.Nodup) (hi : X.N[i]? = some x := by rfl) (hx : Loc X.env.scope x := by first | exact Or.inl rfl | exact Or.inr rfl) (hJ : i ∈ J := by decide) (hf : X.fn x = true ∨ X.env.scope.names.lookup x = some .local := by first | exact .inl rfl | exact .inr rfl) : PG X (.Name x pos) (rdG X.K J (gNm i)) :=
  PG.conv (pg_name hN hi hx hf) fun v σ H Q ⟨F, G, env, d, q, r, s, hd, h, k⟩ => k _ G h _ F H (wipe_set hJ) (Ex.rf F) r (s.put hd i)
def gNilD : CGs := fun ds q env G => ds = [] ∧ q env G
def gConsD (g : CG) (gs : CGs) : CGs := fun ds q env G => ∃ d r, ds = d :: r ∧ g d (fun env1 G1 => gs r q env1 G1) env G
theorem dgs_nil {J : List Nat} : PGs X [] (rdGs X.K J gNilD) := PGs.conv pgs_nil fun vs σ H Q ⟨F, G, env, ds, q, r, s, hd, ⟨e, h⟩, k⟩ => by
  subst e
  exact ⟨hd.nils, k env G h σ F H rfl (Ex.rf F) r s⟩
theorem dgs_cons {J : List Nat} {g : CG} {gs : CGs} (h1 : PG X e (rdG X.K J g)) (h2 : PGs X es (rdGs X.K J gs)) (hs : (assignEach (e :: es) X.env).map (·.2) = assign e X.env :: (assignEach es X.env).map (·.2) := by rfl) : PGs X (e :: es) (rdGs X.K J (gConsD g gs)) :=
  PGs.conv (pgs_cons h1 h2 hs) fun vs σ H Q ⟨F, G, env, ds, q, r, s, hd, ⟨d, ds', e, h⟩, k⟩ => by
    subst e
    cases hd with
    | cons hd0 hr =>
      exact ⟨_, _, rfl, F, G, env, d, _, r, s, hd0, h, fun env1 G1 hq σ1 F1 H1 w1 e1 r1 s1 => ⟨F1, G1, env1, ds', q, r1, s1, hr.mono e1, hq, fun env2 G2 hq2 σ2 F2 H2 w2 e2 r2 s2 => k env2 G2 hq2 σ2 F2 H2 (w2.trans w1) (e1.tr e2) r2 s2⟩⟩
def gTupD (n : Nat) (gs : CGs) : CG := fun d q env G => ∃ ds, d = .tup ds ∧ ds.length = n ∧ gs ds q env G
theorem dg_tup {J : List Nat} {k n : Nat} {gs : CGs} (hc : X.calm = true) (h : PGs X es (rdGs X.K J gs)) (hn : (assignEach es X.env).length = n := by rfl) (hst : (assignEach es X.env).findIdx? (·.1) = none := by rfl) : PG X (.Tuple es k pos) (rdG X.K J (gTupD n gs)) :=
  PG.conv (pg_tup hc h hn hst) fun v σ H Q ⟨F, G, env, d, q, r, s, hd, ⟨ds, e, hl, h⟩, k⟩ => by
    subst e
    cases hd with
    | tup hh rr => exact ⟨_, _, rfl, r.ex.sq hh, by rw [rr.len, hl], F, G, env, ds, q, r, s, rr, h, k⟩
/-- o[i] = .., o a mutable list -/
def gSubD (co ci : CE) : CG := fun d q env G => co ⟨fun o G1 => ci ⟨fun i G2 => ∃ a xs k j, o = .adr a ∧ i = .int k ∧ G2 a = some (.lst xs) ∧ ixN xs.length k = some j ∧ q env (ug G2 a (.lst (xs.set j d))), fun _ _ => False⟩ env G1, fun _ _ => False⟩ env G
theorem dg_sub {J : List Nat} {i : Expr} (ho : PE X o (rdE X.K W co)) (hi : PE X i (rdE X.K W ci))
    (ha : ∀ v, assign (.Subscript o i pos) X.env v = (do
      let ov ← holding [v] (eval o X.env)
      let iv ← holding [v, ov] (eval i X.env)
      standAt pos
      holding [v, ov, iv] (setItem ov iv v)
      release [v, ov, iv] []) := by intro _; rfl) : PG X (.Subscript o i pos) (rdG X.K J (gSubD co ci)) :=
  PG.conv (pg_sub ho hi set_list ha) fun v σ H Q ⟨F, G, env, d, q, r, s, hd, h, k⟩ => by
    have h1 := rd_bind (W := W) (R := Rp X.K) (R' := Rp X.K) (σ := σ) (H := H) (Q := fun _ _ => True) (k := (⟨fun _ _ => True, fun _ _ => False⟩ : Kn D)) (f := fun (o : D) (kk : Kn D) (env : Env) (G1 : Gm) => ci ⟨fun i G2 => ∃ a xs k j, o = .adr a ∧ i = .int k ∧ G2 a = some (.lst xs) ∧ ixN xs.length k = some j ∧ q env (ug G2 a (.lst (xs.set j d))), kk.ex⟩ env G1) r s h
      (fun _ _ _ _ _ _ _ _ _ => trivial) (fun x G z => z.elim)
    refine rd_mono h1 fun x H1 ⟨F1, G1, dx, r1, s1, hdx, e1, h2, _, kx1⟩ => ?_
    have h3 := rd_bind (W := W) (R := Rp X.K) (R' := Rp X.K) (σ := σ) (H := H1) (Q := fun _ _ => True) (k := (⟨fun _ _ => True, fun _ _ => False⟩ : Kn D)) (f := fun (i : D) (kk : Kn D) (env : Env) (G2 : Gm) => ∃ a xs k j, dx = .adr a ∧ i = .int k ∧ G2 a = some (.lst xs) ∧ ixN xs.length k = some j ∧ q env (ug G2 a (.lst (xs.set j d)))) r1 s1 h2
      (fun _ _ _ _ _ _ _ _ _ => trivial) (fun x G z => z.elim)
    refine rd_mono h3 fun y H2 ⟨F2, G2, dy, r2, s2, hdy, e2, ⟨a, xs, kk, j, ea, ei, hG, hj, hq⟩, _, _⟩ => ?_
    subst ea; subst ei
    cases hdx; cases hdy
    obtain ⟨hF, vs, hv, rv⟩ := r2.mo _ _ hG
    refine ⟨a, vs, kk, j, rfl, rfl, hv, by rw [rv.len]; exact hj, ?_⟩
    refine k env _ hq σ F2 _ rfl (e1.tr e2) ?_ s2
    have hd2 := (hd.mono (e1.tr e2))
    have := r2.chg (p := a) (o := .lst (vs.set j v)) (m := .lst (xs.set j d)) hF ⟨hF, _, upd_same, RpAll.set hd2 j rv⟩
    exact this
def cAsg (ce : CE) (g : CG) : CS := fun E env G => ce ⟨fun d G1 => g d E.nx env G1, fun x G1 => E.ex x env G1⟩ env G
theorem ds_asg {tg : Expr} {J : List Nat} {g : CG} (he : PE X e (rdE X.K W ce)) (hg : PG X tg (rdG X.K J g)) (hs : swapsWithSole [tg] e pos.line X.env = pure false := by rfl) (hw : swappedStores [tg] e X.env = pure none := by rfl)
    (h1 : (assignEach [tg] X.env).map (·.2) = [assign tg X.env] := by rfl) : PS X (.Assign [tg] e pos) (rdS X.K W (cAsg ce g)) :=
  PS.conv (ps_asg he hg hs hw h1) fun Ds σ H ⟨F, G, env, E, r, s, h, so⟩ =>
    rd_mono (rds_bind (f := fun d E env G1 => g d E.nx env G1) r s h so) fun v H1 ⟨F1, G1, d, r1, s1, hd, e1, h1, so1⟩ =>
      ⟨F1, G1, env, d, E.nx, r1, s1, hd, h1, fun env2 G2 hq σ2 F2 H2 _ e2 r2 s2 => so1.nx env2 G2 hq σ2 F2 H2 e2 r2 s2⟩
def cSet (i : Nat) (ce : CE) : CS := fun E env G => ce ⟨fun d G1 => E.nx (env.set i (some d)) G1, fun x G1 => E.ex x env G1⟩ env G
theorem ds_set {i : Nat} {pos' : Pos} (hN : X.N.Nodup) (he : PE X e (rdE X.K W ce)) (hi : X.N[i]? = some x := by rfl) (hx : Loc X.env.scope x := by first | exact Or.inl rfl | exact Or.inr rfl) (hs : swapsWith e (some (.Name x pos')) pos.line X.env = pure false := by rfl)
    (hf : X.fn x = true ∨ X.env.scope.names.lookup x = some .local := by first | exact .inl rfl | exact .inr rfl) : PS X (.Assign [.Name x pos'] e pos) (rdS X.K W (cSet i ce)) :=
  PS.conv (ps_set hN hi hx he hs hf) fun Ds σ H ⟨F, G, env, E, r, s, h, so⟩ =>
    rd_mono (rds_bind (f := fun d E env G1 => E.nx (env.set i (some d)) G1) r s h so) fun v H1 ⟨F1, G1, d, r1, s1, hd, e1, h1, so1⟩ => so1.nx _ G1 h1 _ F1 H1 (Ex.rf F1) r1 (s1.put hd i)
/-- a, b = x, y with plain local names -/
def cPar (i j : Nat) (cr : CA) : CS := fun E env G => cr ⟨fun ds G1 => ∃ d d2, ds = [d, d2] ∧ E.nx ((env.set i (some d)).set j (some d2)) G1, fun x G1 => E.ex x env G1⟩ env G
theorem ds_par {i j : Nat} {y : Str} {px py pt : Pos} {kt k2 pt2} (hc : X.calm = true) (hN : X.N.Nodup) (ha : PA X [a, b] (rdA X.K W cr)) (hi : X.N[i]? = some x := by rfl) (hj : X.N[j]? = some y := by rfl) (hij : i ≠ j := by decide)
    (hx : X.env.scope.names.lookup x = some .local := by rfl) (hy : X.env.scope.names.lookup y = some .local := by rfl)
    (hw : swappedStores [.Tuple [.Name x px, .Name y py] kt pt] (.Tuple [a, b] k2 pt2) X.env = pure (some [x, y]) := by rfl)
    (hs : swapsWithSole [.Tuple [.Name x px, .Name y py] kt pt] (.Tuple [a, b] k2 pt2) pos.line X.env = pure false := by rfl) :
    PS X (.Assign [.Tuple [.Name x px, .Name y py] kt pt] (.Tuple [a, b] k2 pt2) pos) (rdS X.K W (cPar i j cr)) :=
  PS.conv (ps_par hc hN hi hj hij hx hy ha hw hs) fun Ds σ H ⟨F, G, env, E, r, s, h, so⟩ => by
    refine rd_mono (rds_bind (f := fun (ds : List D) E env G1 => ∃ d d2, ds = [d, d2] ∧ E.nx ((env.set i (some d)).set j (some d2)) G1) r s h so) fun v H1 ⟨F1, G1, d, r1, s1, hd, e1, ⟨d1, d2, ed, h1⟩, so1⟩ => ?_
    subst ed
    obtain ⟨v1, v2, ev, q1, q2⟩ := hd.two
    exact ⟨v1, v2, ev, so1.nx _ G1 h1 _ F1 H1 (Ex.rf F1) r1 ((s1.put q1 i).put q2 j)⟩
/-- name op= e -/
def cAug (r : DOp) (i : Nat) (ce : CE) : CS := fun E env G => ∃ d0, env[i]? = some (some d0) ∧ ce ⟨fun d G1 => r d0 d (fun z G2 => E.nx (env.set i (some z)) G2) G1, fun x G1 => E.ex x env G1⟩ env G
theorem ds_aug {i : Nat} {op : Operator} {r : DOp} {pos' : Pos} (hN : X.N.Nodup) (ho : OpR X (inplaceOp op) (rdR2 X.K r)) (he : PE X e (rdE X.K W ce)) (hi : X.N[i]? = some x := by rfl) (hx : Loc X.env.scope x := by first | exact Or.inl rfl | exact Or.inr rfl)
    (hf : X.fn x = true ∨ X.env.scope.names.lookup x = some .local := by first | exact .inl rfl | exact .inr rfl) : PS X (.AugAssign (.Name x pos') op e pos) (rdS X.K W (cAug r i ce)) :=
  PS.conv (ps_aug hN hi hx he (fun pins s σ H x y v u Q I rx ry h => ho pins s σ H x y v u Q I rx ry h) hf) fun Ds σ H ⟨F, G, env, E, r0, s, ⟨d0, h0, h⟩, so⟩ => by
    obtain ⟨v0, hv0, rv0⟩ := s.at_ i d0 h0
    refine ⟨v0, hv0, ?_⟩
    refine rd_mono (rds_bind (f := fun d E env G1 => r d0 d (fun z G2 => E.nx (env.set i (some z)) G2) G1) r0 s h so) fun v H1 ⟨F1, G1, d, r1, s1, hd, e1, h1, so1⟩ => ?_
    exact ⟨F1, G1, d0, d, _, r1, rv0.mono e1, hd, h1, fun z G2 hz w F2 H2 e2 r2 hw => so1.nx _ G2 hz _ F2 H2 e2 r2 ((s1.mono e2).put hw i)⟩
/-- self.f = e -/
def cFldS (cl f : Str) (co cv : CE) : CS := fun E env G => cv ⟨fun d G1 => co ⟨fun o G2 => ∃ a fs, o = .adr a ∧ G2 a = some (.ins cl fs) ∧ fs.length < 1000 ∧ E.nx env (ug G2 a (.ins cl (pf f d fs))), fun x G2 => E.ex x env G2⟩ env G1, fun x G1 => E.ex x env G1⟩ env G
theorem ds_fld {cl f : Str} {pos' : Pos} (hc : Cls X.K (He.ga X.K cl)) (hn : NoAttr X.K (He.ga X.K cl) f) (ho : PE X o (rdE X.K W co)) (hv : PE X e (rdE X.K W cv)) (hs : swapsWith e (some (.Attribute o f pos')) pos.line X.env = pure false := by rfl) :
    PS X (.Assign [.Attribute o f pos'] e pos) (rdS X.K W (cFldS cl f co cv)) :=
  PS.conv (ps_fld ho hv hs) fun Ds σ H ⟨F, G, env, E, r, s, h, so⟩ => by
    refine rd_mono (rds_bind (f := fun d E env G1 => co ⟨fun o G2 => ∃ a fs, o = .adr a ∧ G2 a = some (.ins cl fs) ∧ fs.length < 1000 ∧ E.nx env (ug G2 a (.ins cl (pf f d fs))), fun x G2 => E.ex x env G2⟩ env G1) r s h so) fun v H1 ⟨F1, G1, d, r1, s1, hd, e1, h1, so1⟩ => ?_
    refine rd_mono (rds_bind (f := fun o E env G2 => ∃ a fs, o = .adr a ∧ G2 a = some (.ins cl fs) ∧ fs.length < 1000 ∧ E.nx env (ug G2 a (.ins cl (pf f d fs)))) r1 s1 h1 so1) fun w H2 ⟨F2, G2, d2, r2, s2, hd2, e2, ⟨a, fs, ea, hG, hl, h2⟩, so2⟩ => ?_
    subst ea
    cases hd2
    obtain ⟨hF, dx, vfs, hv, rv⟩ := r2.mo _ _ hG
    refine ⟨a, _, dx, vfs, rfl, hv, hc, hn, by rw [rv.len]; exact hl, ?_⟩
    exact so2.nx env _ h2 σ F2 _ (Ex.rf F2) (r2.chg (m := .ins cl (pf f d fs)) hF ⟨hF, dx, _, upd_same, RpF.put (hd.mono e2) rv⟩) s2

/-! ### while -/
def cWhile (t : CT) (cb : CS) : CS := fun E env G => ∃ P : Nat → Env → Gm → Prop, (∃ m, P m env G) ∧ ∀ m env1 G1, P m env1 G1 →
  t ⟨fun b G2 => (b = true → ∃ N : Env → Gm → Prop, (∀ e g, N e g → ∃ m', m' < m ∧ P m' e g) ∧ cb { E with nx := N, ct := N, bk := E.nx } env1 G2) ∧ (b = false → E.nx env1 G2), fun x G2 => E.ex x env1 G2⟩ env1 G1
theorem ds_while {cbody : CS} (hp : PassesOwn (model X.prog X.w) X.A X.env X.xe) (ht : PT X c (rdT X.K W ct)) (hb : PSs X ss (rdS X.K W cbody)) : PS X (.While c ss [] pos) (rdS X.K W (cWhile ct cbody)) :=
  PS.conv (ps_while hp ht hb) fun Ds σ H ⟨F, G, env, E, r, s, ⟨P, ⟨m, h0⟩, hs⟩, so⟩ => by
    refine ⟨fun m σ H => ∃ F1 G1 env1, Ex F F1 ∧ RG X.K F1 G1 H ∧ Sl X.K F1 σ env1 ∧ P m env1 G1, ⟨m, F, G, env, Ex.rf F, r, s, h0⟩, ?_⟩
    rintro m σ1 H1 ⟨F1, G1, env1, e1, r1, s1, hP⟩
    have h := hs m env1 G1 hP
    refine rd_mono (rds_bind (f := fun b E env1 G2 => (b = true → ∃ N : Env → Gm → Prop, (∀ e g, N e g → ∃ m', m' < m ∧ P m' e g) ∧ cbody { E with nx := N, ct := N, bk := E.nx } env1 G2) ∧ (b = false → E.nx env1 G2)) r1 s1 h (so.up e1)) fun v H2 ⟨F2, G2, d, r2, s2, hd, e2, ⟨k1, k2⟩, so2⟩ => ?_
    cases hd
    cases v with
    | false => rw [if_neg Bool.false_ne_true]; exact so2.nx env1 G2 (k2 rfl) σ1 F2 H2 (Ex.rf F2) r2 s2
    | true =>
      rw [if_pos rfl]
      obtain ⟨N, hN, hb⟩ := k1 rfl
      refine ⟨fun σ' H' => ∃ F3 G3 env3, Ex F F3 ∧ RG X.K F3 G3 H' ∧ Sl X.K F3 σ' env3 ∧ N env3 G3, ?_, F2, G2, env1, _, r2, s2, hb, ?_⟩
      · rintro σ' H' ⟨F3, G3, env3, e3, r3, s3, hn⟩
        obtain ⟨m', hm, hP'⟩ := hN _ _ hn
        exact ⟨m', hm, F3, G3, env3, e3, r3, s3, hP'⟩
      · have e12 := e1.tr e2
        exact ⟨fun env3 G3 q σ3 F3 H3 e3 r3 s3 => ⟨F3, G3, env3, e12.tr e3, r3, s3, q⟩, so2.rt, so2.nx, fun env3 G3 q σ3 F3 H3 e3 r3 s3 => ⟨F3, G3, env3, e12.tr e3, r3, s3, q⟩, so2.ex⟩
end Dl
set_option maxHeartbeats 4000000
/-! DL7: what is walked; for; list comprehensions. -/
namespace Dl
open PySem PySem.Spec PyProof.Rows L2
variable {X : Cx} {W : WX} {a b c e o tg elt : Expr} {es ifs : List Expr} {ca cb cc ce co cv : CE} {cr : CA} {ct : CT} {pos p apos : Pos} {x m : Str} {ss : List Stmt} {c1 c2 : CS}

/-- what is walked: the items, and what must stand while it is walked -/
structure DI where
  items : List D
  keep : Gm → Prop
structure RelI (K : PySem.W.Frag) (F0 : Hp) (J : It) (it : DI) : Prop where
  go : ∀ i F G H, Ex F0 F → RG K F G H → it.keep G → i < it.items.length → J.go i H
  yld : ∀ i d F G H y H', Ex F0 F → RG K F G H → it.keep G → it.items[i]? = some d → J.yld i H y H' → ∃ F', Ex F F' ∧ RG K F' G H' ∧ Rp K F' y d
  stop : ∀ i F G H, Ex F0 F → RG K F G H → it.keep G → it.items.length ≤ i → i ≤ it.items.length → J.stop i H
theorem RelI.up {K : PySem.W.Frag} {F F1 : Hp} {J : It} {it : DI} (h : RelI K F J it) (e : Ex F F1) : RelI K F1 J it :=
  ⟨fun i F' G H e' => h.go i F' G H (e.tr e'), fun i d F' G H y H' e' => h.yld i d F' G H y H' (e.tr e'), fun i F' G H e' => h.stop i F' G H (e.tr e')⟩
abbrev CI := Cd DI
abbrev rdI (K : PySem.W.Frag) (W : WX) (ci : CI) : TI := rd K (fun F J it => RelI K F J it) W ci
theorem PI.conv {X : Cx} {tg e : Expr} {t t' : TI} (h : PI X tg e t) (c : ∀ σ H Q, t' σ H Q → t σ H Q) : PI X tg e t' := ⟨fun pins s σ H Q I q => h.run pins s σ H Q I (c σ H Q q)⟩

/-! ### a list, a tuple -/
def keepOf (d : D) : Gm → Prop := fun G => match d with
  | .adr a => ∃ ys, G a = some (.lst ys)
  | _ => True
theorem relI_l {K : PySem.W.Frag} {F : Hp} {a : Addr} {vs : List V} {ds : List D} (h : SqL K F a vs) (r : RpAll K F vs ds) : RelI K F (Itl K a) ⟨ds, fun _ => True⟩ := by
  refine ⟨fun i F' G H e' r' _ hi => ?_, fun i d F' G H y H' e' r' _ hd hy => ?_, fun i F' G H e' r' _ hi _ => ?_⟩
  · obtain ⟨v, hv, _⟩ := r.get (i := i) (d := ds[i]) (List.getElem?_eq_getElem hi)
    exact ⟨vs, v, r'.ex.sl (e'.sl h), hv⟩
  · obtain ⟨v, hv, rv⟩ := r.get hd
    obtain ⟨e1, e2⟩ := hy
    subst e1
    have e3 := e2 vs (r'.ex.sl (e'.sl h))
    rw [hv] at e3
    cases e3
    exact ⟨F', Ex.rf F', r', rv.mono e'⟩
  · exact ⟨vs, r'.ex.sl (e'.sl h), by rw [r.len]; exact hi⟩
theorem relI_t {K : PySem.W.Frag} {F : Hp} {a : Addr} {vs : List V} {ds : List D} (h : SqT K F a vs) (r : RpAll K F vs ds) : RelI K F (Itt K a) ⟨ds, fun _ => True⟩ := by
  refine ⟨fun i F' G H e' r' _ hi => ?_, fun i d F' G H y H' e' r' _ hd hy => ?_, fun i F' G H e' r' _ hi _ => ?_⟩
  · obtain ⟨v, hv, _⟩ := r.get (i := i) (d := ds[i]) (List.getElem?_eq_getElem hi)
    exact ⟨vs, v, r'.ex.sq (e'.sq h), hv⟩
  · obtain ⟨v, hv, rv⟩ := r.get hd
    obtain ⟨e1, e2⟩ := hy
    subst e1
    have e3 := e2 vs (r'.ex.sq (e'.sq h))
    rw [hv] at e3
    cases e3
    exact ⟨F', Ex.rf F', r', rv.mono e'⟩
  · exact ⟨vs, r'.ex.sq (e'.sq h), by rw [r.len]; exact hi⟩
/-- a mutable list that stays -/
theorem relI_m {K : PySem.W.Frag} {F : Hp} {a : Addr} {ds : List D} : RelI K F (Itl K a) ⟨ds, fun G => G a = some (.lst ds)⟩ := by
  refine ⟨fun i F' G H e' r' hk hi => ?_, fun i d F' G H y H' e' r' hk hd hy => ?_, fun i F' G H e' r' hk hi _ => ?_⟩
  · obtain ⟨_, vs, hv, r⟩ := r'.mo _ _ hk
    obtain ⟨v, hw, _⟩ := r.get (i := i) (d := ds[i]) (List.getElem?_eq_getElem hi)
    exact ⟨vs, v, SqL.of hv, hw⟩
  · obtain ⟨_, vs, hv, r⟩ := r'.mo _ _ hk
    obtain ⟨v, hw, rv⟩ := r.get hd
    obtain ⟨e1, e2⟩ := hy
    subst e1
    have e3 := e2 vs (SqL.of hv)
    rw [hw] at e3
    cases e3
    exact ⟨F', Ex.rf F', r', rv⟩
  · obtain ⟨_, vs, hv, r⟩ := r'.mo _ _ hk
    exact ⟨vs, SqL.of hv, by rw [r.len]; exact hi⟩
def cItL (ca : CE) : CI := fun k env G => ca ⟨fun d G1 => (∃ xs, (d = .lst xs ∨ d = .seq xs) ∧ k.ok ⟨xs, fun _ => True⟩ G1) ∨ ∃ a xs, d = .adr a ∧ G1 a = some (.lst xs) ∧ k.ok ⟨xs, fun G => G a = some (.lst xs)⟩ G1, k.ex⟩ env G
def cItT (ca : CE) : CI := fun k env G => ca ⟨fun d G1 => ∃ xs, d = .tup xs ∧ k.ok ⟨xs, fun _ => True⟩ G1, k.ex⟩ env G
theorem di_list (h : PE X e (rdE X.K W ca)) : PI X tg e (rdI X.K W (cItL ca)) :=
  PI.conv (pi_list h) fun σ H Q ⟨F, G, env, k, r, s, hc, ko, kx⟩ => by
    refine rd_mono (rd_bind (f := fun (d : D) (k : Kn DI) (env : Env) (G1 : Gm) => (∃ xs, (d = D.lst xs ∨ d = D.seq xs) ∧ k.ok ⟨xs, fun _ => True⟩ G1) ∨ ∃ a xs, d = D.adr a ∧ G1 a = some (MO.lst xs) ∧ k.ok ⟨xs, fun G => G a = some (MO.lst xs)⟩ G1) r s hc ko kx) fun x H1 ⟨F1, G1, d, r1, s1, hd, e1, h1, ko1, kx1⟩ => ?_
    rcases h1 with ⟨xs, ed | ed, h2⟩ | ⟨a, xs, ed, hG, h2⟩
    · subst ed
      cases hd with
      | lst hh rr => exact ⟨_, rfl, ⟨_, r1.ex.sl (SqL.of hh)⟩, ko1 _ G1 h2 _ F1 H1 (Ex.rf F1) r1 (relI_l (SqL.of hh) rr)⟩
    · subst ed
      cases hd with
      | seq hh rr => exact ⟨_, rfl, ⟨_, r1.ex.sl hh⟩, ko1 _ G1 h2 _ F1 H1 (Ex.rf F1) r1 (relI_l hh rr)⟩
    · subst ed
      cases hd
      obtain ⟨_, vs, hv, rv⟩ := r1.mo _ _ hG
      exact ⟨_, rfl, ⟨_, SqL.of hv⟩, ko1 _ G1 h2 _ F1 H1 (Ex.rf F1) r1 relI_m⟩
theorem di_tup (h : PE X e (rdE X.K W ca)) : PI X tg e (rdI X.K W (cItT ca)) :=
  PI.conv (pi_tup h) fun σ H Q ⟨F, G, env, k, r, s, hc, ko, kx⟩ => by
    refine rd_mono (rd_bind (f := fun (d : D) (k : Kn DI) (env : Env) (G1 : Gm) => ∃ xs, d = D.tup xs ∧ k.ok ⟨xs, fun _ => True⟩ G1) r s hc ko kx) fun x H1 ⟨F1, G1, d, r1, s1, hd, e1, ⟨xs, ed, h2⟩, ko1, kx1⟩ => ?_
    subst ed
    cases hd with
    | tup hh rr => exact ⟨_, rfl, ⟨_, r1.ex.sq hh⟩, ko1 _ G1 h2 _ F1 H1 (Ex.rf F1) r1 (relI_t hh rr)⟩
/-! ### a text -/
theorem relI_s {K : PySem.W.Frag} {F : Hp} (s : List Nat) : RelI K F (Its (st s)) ⟨s.map fun c => D.str [c], fun _ => True⟩ := by
  refine ⟨fun i F' G H e' r' _ hi => ?_, fun i d F' G H y H' e' r' _ hd hy => ?_, fun i F' G H e' r' _ hi _ => ?_⟩
  · rw [List.length_map] at hi
    show i < s.toArray.size
    simpa using hi
  · obtain ⟨e1, c, hc, ey⟩ := hy
    subst e1
    rw [List.getElem?_map] at hd
    have hc' : s[i]? = some c := by simpa using hc
    rw [hc'] at hd
    cases hd
    subst ey
    exact ⟨F', Ex.rf F', r', .str [c]⟩
  · rw [List.length_map] at hi
    show s.toArray.size ≤ i
    simpa using hi
def cItS (ca : CE) : CI := fun k env G => ca ⟨fun d G1 => ∃ s, d = .str s ∧ k.ok ⟨s.map fun c => D.str [c], fun _ => True⟩ G1, k.ex⟩ env G
theorem di_str (h : PE X e (rdE X.K W ca)) : PI X tg e (rdI X.K W (cItS ca)) :=
  PI.conv (pi_str h) fun σ H Q ⟨F, G, env, k, r, s, hc, ko, kx⟩ => by
    refine rd_mono (rd_bind (f := fun (d : D) (k : Kn DI) (env : Env) (G1 : Gm) => ∃ s, d = D.str s ∧ k.ok ⟨s.map fun c => D.str [c], fun _ => True⟩ G1) r s hc ko kx) fun x H1 ⟨F1, G1, d, r1, s1, hd, e1, ⟨xs, ed, h2⟩, ko1, kx1⟩ => ?_
    subst ed
    cases hd
    exact ⟨_, rfl, ko1 _ G1 h2 _ F1 H1 (Ex.rf F1) r1 (relI_s xs)⟩
/-! ### range -/
def rngD (lo : Int) (n : Nat) : List D := (List.range n).map fun i => D.int (lo + (i : Nat))
theorem rngD_len (lo : Int) (n : Nat) : (rngD lo n).length = n := by simp [rngD]
theorem rngD_get {lo : Int} {n i : Nat} {d : D} (h : (rngD lo n)[i]? = some d) : i < n ∧ d = .int (lo + (i : Nat)) := by
  have hi : i < n := by
    have := (List.getElem?_eq_some_iff.mp h).1
    rwa [rngD_len] at this
  refine ⟨hi, ?_⟩
  unfold rngD at h
  rw [List.getElem?_map, List.getElem?_range hi] at h
  exact (Option.some.inj h).symm
theorem relI_r {K : PySem.W.Frag} {F : Hp} (lo : Int) (n : Nat) : RelI K F (Itr lo n) ⟨rngD lo n, fun _ => True⟩ := by
  refine ⟨fun i F' G H e' r' _ hi => ?_, fun i d F' G H y H' e' r' _ hd hy => ?_, fun i F' G H e' r' _ hi _ => ?_⟩
  · rwa [rngD_len] at hi
  · obtain ⟨_, ed⟩ := rngD_get hd
    obtain ⟨e1, e2⟩ := hy
    subst e1; subst e2; subst ed
    exact ⟨F', Ex.rf F', r', .int _⟩
  · rwa [rngD_len] at hi
def smallI (i : Int) : Prop := -(2 ^ 62) ≤ i ∧ i < 2 ^ 62
def cItR1 (cr : CA) : CI := fun k env G => cr ⟨fun ds G1 => ∃ j, ds = [.int j] ∧ smallI j ∧ k.ok ⟨rngD 0 j.toNat, fun _ => True⟩ G1, k.ex⟩ env G
def cItR2 (cr : CA) : CI := fun k env G => cr ⟨fun ds G1 => ∃ i j, ds = [.int i, .int j] ∧ smallI i ∧ smallI j ∧ k.ok ⟨rngD i (j - i).toNat, fun _ => True⟩ G1, k.ex⟩ env G
theorem di_range1 (hm : X.mg "range" = none) (ha : PA X [a] (rdA X.K W cr)) (hg : Gl X "range" := by rfl) (hs : starEach [a] X.env = [(false, eval a X.env)] := by rfl) : PI X tg (.Call (.Name "range" p) [a] [] pos) (rdI X.K W (cItR1 cr)) :=
  PI.conv (pi_range1 hg hm ha hs) fun σ H Q ⟨F, G, env, k, r, s, hc, ko, kx⟩ => by
    refine rd_mono (rd_bind (f := fun (ds : List D) (k : Kn DI) (env : Env) (G1 : Gm) => ∃ j, ds = [D.int j] ∧ smallI j ∧ k.ok ⟨rngD 0 j.toNat, fun _ => True⟩ G1) r s hc ko kx) fun x H1 ⟨F1, G1, d, r1, s1, hd, e1, ⟨j, ed, hj, h2⟩, ko1, kx1⟩ => ?_
    subst ed
    obtain ⟨v, rfl, hv⟩ := hd.one
    cases hv
    exact ⟨j, rfl, hj.1, hj.2, ko1 _ G1 h2 _ F1 H1 (Ex.rf F1) r1 (relI_r 0 _)⟩
theorem di_range2 (hm : X.mg "range" = none) (ha : PA X [a, b] (rdA X.K W cr)) (hg : Gl X "range" := by rfl) (hs : starEach [a, b] X.env = [(false, eval a X.env), (false, eval b X.env)] := by rfl) (hs2 : starEach [b] X.env = [(false, eval b X.env)] := by rfl) :
    PI X tg (.Call (.Name "range" p) [a, b] [] pos) (rdI X.K W (cItR2 cr)) :=
  PI.conv (pi_range2 hg hm ha hs hs2) fun σ H Q ⟨F, G, env, k, r, s, hc, ko, kx⟩ => by
    refine rd_mono (rd_bind (f := fun (ds : List D) (k : Kn DI) (env : Env) (G1 : Gm) => ∃ i j, ds = [D.int i, D.int j] ∧ smallI i ∧ smallI j ∧ k.ok ⟨rngD i (j - i).toNat, fun _ => True⟩ G1) r s hc ko kx) fun x H1 ⟨F1, G1, d, r1, s1, hd, e1, ⟨i, j, ed, hi, hj, h2⟩, ko1, kx1⟩ => ?_
    subst ed
    obtain ⟨v, w, rfl, hv, hw⟩ := hd.two
    cases hv; cases hw
    exact ⟨i, j, rfl, ⟨hi.1, hi.2, hj.1, hj.2⟩, ko1 _ G1 h2 _ F1 H1 (Ex.rf F1) r1 (relI_r i _)⟩
/-! ### zip of two lists, of two tuples -/
def zipD (xs ys : List D) : List D := (xs.zip ys).map fun q => D.tup [q.1, q.2]
theorem zipD_len (xs ys : List D) : (zipD xs ys).length = min xs.length ys.length := by simp [zipD, List.length_zip]
theorem zipD_get {xs ys : List D} {i : Nat} {d : D} (h : (zipD xs ys)[i]? = some d) : ∃ u v, xs[i]? = some u ∧ ys[i]? = some v ∧ d = .tup [u, v] := by
  unfold zipD at h
  rw [List.getElem?_map] at h
  cases q : (xs.zip ys)[i]? with
  | none => rw [q] at h; cases h
  | some z =>
    rw [q] at h
    obtain ⟨u, v⟩ := z
    have := List.getElem?_zip_eq_some.mp q
    exact ⟨u, v, this.1, this.2, (Option.some.inj h).symm⟩
theorem relI_zl {K : PySem.W.Frag} {F : Hp} {a b : Addr} {vs ws : List V} {ds es : List D} (h : SqL K F a vs) (h2 : SqL K F b ws) (r : RpAll K F vs ds) (r2 : RpAll K F ws es) : RelI K F (Itz K a b) ⟨zipD ds es, fun _ => True⟩ := by
  refine ⟨fun i F' G H e' r' _ hi => ?_, fun i d F' G H y H' e' r' _ hd hy => ?_, fun i F' G H e' r' _ hi _ => ?_⟩
  · have hi' : i < min ds.length es.length := by rwa [← zipD_len]
    obtain ⟨v, hv, _⟩ := r.get (i := i) (d := ds[i]'(by omega)) (List.getElem?_eq_getElem _)
    obtain ⟨w, hw, _⟩ := r2.get (i := i) (d := es[i]'(by omega)) (List.getElem?_eq_getElem _)
    exact ⟨vs, ws, v, w, r'.ex.sl (e'.sl h), r'.ex.sl (e'.sl h2), hv, hw⟩
  · obtain ⟨u, w, hu, hw, ed⟩ := zipD_get hd
    obtain ⟨v1, hv1, rv1⟩ := r.get hu
    obtain ⟨v2, hv2, rv2⟩ := r2.get hw
    obtain ⟨T, x1, x2, ey, hT, eH, hx1, hx2⟩ := hy
    have e3 := hx1 vs (r'.ex.sl (e'.sl h))
    have e4 := hx2 ws (r'.ex.sl (e'.sl h2))
    rw [hv1] at e3; rw [hv2] at e4
    cases e3; cases e4
    subst ey; subst eH; subst ed
    obtain ⟨e5, r5⟩ := r'.lay (o := .tup [v1, v2]) hT
    exact ⟨_, e5, r5, .tup (SqT.of upd_same) (.cons ((rv1.mono e').mono e5) (.cons ((rv2.mono e').mono e5) .nil))⟩
  · have hi' : min ds.length es.length ≤ i := by rwa [← zipD_len]
    refine ⟨vs, ws, r'.ex.sl (e'.sl h), r'.ex.sl (e'.sl h2), ?_⟩
    rw [r.len, r2.len]; omega
theorem relI_zt {K : PySem.W.Frag} {F : Hp} {a b : Addr} {vs ws : List V} {ds es : List D} (h : SqT K F a vs) (h2 : SqT K F b ws) (r : RpAll K F vs ds) (r2 : RpAll K F ws es) : RelI K F (RZ.ItzT K a b) ⟨zipD ds es, fun _ => True⟩ := by
  refine ⟨fun i F' G H e' r' _ hi => ?_, fun i d F' G H y H' e' r' _ hd hy => ?_, fun i F' G H e' r' _ hi _ => ?_⟩
  · have hi' : i < min ds.length es.length := by rwa [← zipD_len]
    obtain ⟨v, hv, _⟩ := r.get (i := i) (d := ds[i]'(by omega)) (List.getElem?_eq_getElem _)
    obtain ⟨w, hw, _⟩ := r2.get (i := i) (d := es[i]'(by omega)) (List.getElem?_eq_getElem _)
    exact ⟨vs, ws, v, w, r'.ex.sq (e'.sq h), r'.ex.sq (e'.sq h2), hv, hw⟩
  · obtain ⟨u, w, hu, hw, ed⟩ := zipD_get hd
    obtain ⟨v1, hv1, rv1⟩ := r.get hu
    obtain ⟨v2, hv2, rv2⟩ := r2.get hw
    obtain ⟨T, x1, x2, ey, hT, eH, hx1, hx2⟩ := hy
    have e3 := hx1 vs (r'.ex.sq (e'.sq h))
    have e4 := hx2 ws (r'.ex.sq (e'.sq h2))
    rw [hv1] at e3; rw [hv2] at e4
    cases e3; cases e4
    subst ey; subst eH; subst ed
    obtain ⟨e5, r5⟩ := r'.lay (o := .tup [v1, v2]) hT
    exact ⟨_, e5, r5, .tup (SqT.of upd_same) (.cons ((rv1.mono e').mono e5) (.cons ((rv2.mono e').mono e5) .nil))⟩
  · have hi' : min ds.length es.length ≤ i := by rwa [← zipD_len]
    refine ⟨vs, ws, r'.ex.sq (e'.sq h), r'.ex.sq (e'.sq h2), ?_⟩
    rw [r.len, r2.len]; omega
/-- both lists for good, or both tuples -/
def zipA : D → D → Option (List D)
  | .lst xs, .lst ys => some (zipD xs ys)
  | .seq xs, .lst ys => some (zipD xs ys)
  | .lst xs, .seq ys => some (zipD xs ys)
  | .tup xs, .tup ys => some (zipD xs ys)
  | _, _ => none
theorem zip_c {K : PySem.W.Frag} {F : Hp} {v1 v2 : V} {u v : D} {zs : List D} (hz : zipA u v = some zs) (q1 : Rp K F v1 u) (q2 : Rp K F v2 v) :
    ∃ a b vs ws ds es, v1 = .ref a ∧ v2 = .ref b ∧ zs = zipD ds es ∧ RpAll K F vs ds ∧ RpAll K F ws es ∧ ((SqL K F a vs ∧ SqL K F b ws) ∨ (SqT K F a vs ∧ SqT K F b ws)) := by
  cases q1 with
  | tup h1 r1 =>
    cases q2 with
    | tup h2 r2 => cases hz; exact ⟨_, _, _, _, _, _, rfl, rfl, rfl, r1, r2, .inr ⟨h1, h2⟩⟩
    | _ => cases hz
  | lst h1 r1 =>
    cases q2 with
    | lst h2 r2 => cases hz; exact ⟨_, _, _, _, _, _, rfl, rfl, rfl, r1, r2, .inl ⟨SqL.of h1, SqL.of h2⟩⟩
    | seq h2 r2 => cases hz; exact ⟨_, _, _, _, _, _, rfl, rfl, rfl, r1, r2, .inl ⟨SqL.of h1, h2⟩⟩
    | _ => cases hz
  | seq h1 r1 =>
    cases q2 with
    | lst h2 r2 => cases hz; exact ⟨_, _, _, _, _, _, rfl, rfl, rfl, r1, r2, .inl ⟨h1, SqL.of h2⟩⟩
    | _ => cases hz
  | _ => cases hz
def cItZ (cr : CA) : CI := fun k env G => cr ⟨fun ds G1 => ∃ u v zs, ds = [u, v] ∧ zipA u v = some zs ∧ k.ok ⟨zs, fun _ => True⟩ G1, k.ex⟩ env G
variable {elts : List Expr} {kk : Nat} {tpos : Pos}
theorem di_zip (hm : X.mg "zip" = none) (ha : PA X [a, b] (rdA X.K W cr)) (hg : Gl X "zip" := by rfl)
    (hs : starEach [a, b] X.env = (false, eval a X.env) :: starEach [b] X.env := by rfl) (hpl : (backTo pos (starEach [b] X.env)).any (·.1) = false := by rfl) :
    PI X (.Tuple elts kk tpos) (.Call (.Name "zip" p) [a, b] [] pos) (rdI X.K W (cItZ cr)) :=
  PI.conv (RZ.pi_zipA hg hm ha hs hpl) fun σ H Q ⟨F, G, env, k, r, s, hc, ko, kx⟩ => by
    refine rd_mono (rd_bind (f := fun (ds : List D) (k : Kn DI) (env : Env) (G1 : Gm) => ∃ u v zs, ds = [u, v] ∧ zipA u v = some zs ∧ k.ok ⟨zs, fun _ => True⟩ G1) r s hc ko kx) fun x H1 ⟨F1, G1, d, r1, s1, hd, e1, ⟨u, v, zs, ed, hz, h2⟩, ko1, kx1⟩ => ?_
    subst ed
    obtain ⟨v1, v2, rfl, q1, q2⟩ := hd.two
    obtain ⟨a1, a2, vs1, vs2, ds1, ds2, e1', e2', e3', rr1, rr2, hh⟩ := zip_c hz q1 q2
    subst e1'; subst e2'; subst e3'
    rcases hh with ⟨h1, h3⟩ | ⟨h1, h3⟩
    · exact ⟨_, _, vs1, vs2, rfl, .inl ⟨r1.ex.sl h1, r1.ex.sl h3, ko1 _ G1 h2 _ F1 H1 (Ex.rf F1) r1 (relI_zl h1 h3 rr1 rr2)⟩⟩
    · exact ⟨_, _, vs1, vs2, rfl, .inr ⟨r1.ex.sq h1, r1.ex.sq h3, ko1 _ G1 h2 _ F1 H1 (Ex.rf F1) r1 (relI_zt h1 h3 rr1 rr2)⟩⟩

/-! ### for -/
def cFor (ci : CI) (g : CG) (cb : CS) : CS := fun E env G => ci ⟨fun it G1 => ∃ P : Nat → Env → Gm → Prop, P 0 env G1 ∧ (∀ i env1 G1, i ≤ it.items.length → P i env1 G1 → it.keep G1) ∧
  (∀ i d env1 G1, it.items[i]? = some d → P i env1 G1 → g d (fun env2 G2 => cb { E with nx := P (i + 1), ct := P (i + 1), bk := E.nx } env2 G2) env1 G1) ∧ (∀ env1 G1, P it.items.length env1 G1 → E.nx env1 G1), fun x G1 => E.ex x env G1⟩ env G
theorem ds_for {J : List Nat} {ci : CI} {g : CG} {cbody : CS} (hp : PassesOwn (model X.prog X.w) X.A X.env X.xe) (hc : X.calm = true) (hi : PI X tg e (rdI X.K W ci)) (hg : PG X tg (rdG X.K J g)) (hb : PSs X ss (rdS X.K W cbody))
    (hs : ∀ x, foldedSetIterable e X.env x = pure x := by intro _; rfl) : PS X (.For tg e ss [] pos) (rdS X.K W (cFor ci g cbody)) :=
  PS.conv (ps_for hp hc hi hg hb hs) fun Ds σ H ⟨F, G, env, E, r, s, h, so⟩ => by
    refine rd_mono (rds_bind (f := fun (it : DI) (E : En) (env : Env) (G1 : Gm) => ∃ P : Nat → Env → Gm → Prop, P 0 env G1 ∧ (∀ i env1 G1, i ≤ it.items.length → P i env1 G1 → it.keep G1) ∧
      (∀ i d env1 G1, it.items[i]? = some d → P i env1 G1 → g d (fun env2 G2 => cbody { E with nx := P (i + 1), ct := P (i + 1), bk := E.nx } env2 G2) env1 G1) ∧ (∀ env1 G1, P it.items.length env1 G1 → E.nx env1 G1)) r s h so) fun J0 H1 ⟨F1, G1, it, r1, s1, hrel, e1, ⟨P, h0, hk, hs, hd⟩, so1⟩ => ?_
    refine ⟨fun i m σ' H' => i ≤ it.items.length ∧ m = it.items.length - i ∧ ∃ F2 G2 env2, Ex F1 F2 ∧ RG X.K F2 G2 H' ∧ Sl X.K F2 σ' env2 ∧ P i env2 G2, ⟨_, Nat.zero_le _, rfl, F1, G1, env, Ex.rf F1, r1, s1, h0⟩, ?_⟩
    rintro i m σ' H' ⟨hi, hm, F2, G2, env2, e2, r2, s2, hP⟩
    have hkeep := hk i env2 G2 hi hP
    by_cases hlt : i < it.items.length
    · refine Or.inr ⟨hrel.go i F2 G2 H' e2 r2 hkeep hlt, fun σ3 H3 => ∃ F3 G3 env3, Ex F1 F3 ∧ RG X.K F3 G3 H3 ∧ Sl X.K F3 σ3 env3 ∧ P (i + 1) env3 G3, ?_, ?_⟩
      · rintro σ3 H3 ⟨F3, G3, env3, e3, r3, s3, hP3⟩
        exact ⟨it.items.length - (i + 1), by omega, hlt, rfl, F3, G3, env3, e3, r3, s3, hP3⟩
      · intro y H3 hy
        obtain ⟨F3, e3, r3, hy3⟩ := hrel.yld i it.items[i] F2 G2 H' y H3 e2 r2 hkeep (List.getElem?_eq_getElem hlt) hy
        refine ⟨F3, G2, env2, it.items[i], _, r3, s2.mono e3, hy3, hs i it.items[i] env2 G2 (List.getElem?_eq_getElem hlt) hP, ?_⟩
        intro env4 G4 hq σ4 F4 H4 _ e4 r4 s4
        have e14 := (e2.tr e3).tr e4
        refine ⟨F4, G4, env4, _, r4, s4, hq, ?_⟩
        exact ⟨fun env5 G5 q σ5 F5 H5 e5 r5 s5 => ⟨F5, G5, env5, e14.tr e5, r5, s5, q⟩, (so1.up e14).rt, (so1.up e14).nx, fun env5 G5 q σ5 F5 H5 e5 r5 s5 => ⟨F5, G5, env5, e14.tr e5, r5, s5, q⟩, (so1.up e14).ex⟩
    · have hle : it.items.length ≤ i := by omega
      have hie : i = it.items.length := by omega
      refine Or.inl ⟨hrel.stop i F2 G2 H' e2 r2 hkeep hle hi, ?_⟩
      subst hie
      exact (so1.up e2).nx env2 G2 (hd env2 G2 hP) σ' F2 H' (Ex.rf F2) r2 s2

/-! ### list comprehensions -/
def wipeD (env : Env) : List Nat → Env
  | [] => env
  | v :: vs => (wipeD env vs).set v none
theorem Sl.wipe {K : PySem.W.Frag} {F : Hp} {σ : L2.St} {env : Env} (s : Sl K F σ env) : ∀ vs : List Nat, Sl K F (L2.wipe σ vs) (wipeD env vs)
  | [] => s
  | v :: vs => (Sl.wipe s vs).none v
/-- the tests of a clause -/
abbrev W0 : WX := fun _ _ _ _ => False
def cYes : CT := fun k _ G => k.ok true G
theorem dts_nil : PTs X [] (rdT X.K W cYes) := ⟨fun pins s σ H Q I ⟨F, G, env, k, r, sl, h, ko, kx⟩ => pts_nil.run pins s σ H Q I (ko true G h true F H (Ex.rf F) r rfl)⟩
theorem dts_one {t : CT} (h : PT X c (rdT X.K W t)) : PTs X [c] (rdT X.K W t) := pts_one h
def cLc (ci : CI) (g : CG) (t : CT) (ce : CE) (vs : List Nat) : CE := fun k env G => ci ⟨fun it G1 => it.items.length ≤ 16777216 ∧ ∀ p, G1 p = none → ∃ P : Nat → List D → Gm → Prop, P 0 [] (ug G1 p (.lst [])) ∧
  (∀ i acc G', i ≤ it.items.length → P i acc G' → it.keep G' ∧ acc.length ≤ i) ∧
  (∀ i d acc G', it.items[i]? = some d → P i acc G' → g d (fun env2 G2 => t ⟨fun b G3 => (b = true → ce ⟨fun y G4 => G4 p = some (.lst acc) ∧ P (i + 1) (acc ++ [y]) (ug G4 p (.lst (acc ++ [y]))), fun _ _ => False⟩ env2 G3) ∧ (b = false → P (i + 1) acc G3), fun _ _ => False⟩ env2 G2) (wipeD env vs) G') ∧
  (∀ acc G', P it.items.length acc G' → G' p = some (.lst acc) ∧ k.ok (.lst acc) (dg G' p)), k.ex⟩ env G
theorem rd_lc {J : List Nat} {ci : CI} {g : CG} {t : CT} {K : PySem.W.Frag} {σ : L2.St} {H : Hp} {Q : VK} (h : rdE K W (cLc ci g t ce J) σ H Q) : tLc (rdI K W ci) (rdG K J g) (rdT K W0 t) (rdE K W0 ce) J σ H Q := by
  obtain ⟨F, G, env, k, r, s, hc, ko, kx⟩ := h
  refine rd_mono (rd_bind (f := fun (it : DI) (k : Kn D) (env : Env) (G1 : Gm) => it.items.length ≤ 16777216 ∧ ∀ p, G1 p = none → ∃ P : Nat → List D → Gm → Prop, P 0 [] (ug G1 p (.lst [])) ∧
    (∀ i acc G', i ≤ it.items.length → P i acc G' → it.keep G' ∧ acc.length ≤ i) ∧
    (∀ i d acc G', it.items[i]? = some d → P i acc G' → g d (fun env2 G2 => t ⟨fun b G3 => (b = true → ce ⟨fun y G4 => G4 p = some (.lst acc) ∧ P (i + 1) (acc ++ [y]) (ug G4 p (.lst (acc ++ [y]))), fun _ _ => False⟩ env2 G3) ∧ (b = false → P (i + 1) acc G3), fun _ _ => False⟩ env2 G2) (wipeD env J) G') ∧
    (∀ acc G', P it.items.length acc G' → G' p = some (.lst acc) ∧ k.ok (.lst acc) (dg G' p))) r s hc ko kx) fun J0 H1 ⟨F1, G1, it, r1, s1, hrel, e1, ⟨hz, hp⟩, ko1, kx1⟩ => ?_
  intro p hpN
  obtain ⟨P, h0, hk, hs, hd⟩ := hp p (r1.freeG hpN)
  have hF1 : F1 p = none := r1.freeF hpN
  refine ⟨fun i m H' => i ≤ it.items.length ∧ m = it.items.length - i ∧ ∃ F2 G2 acc, Ex F1 F2 ∧ RG K F2 G2 H' ∧ P i acc G2, ⟨_, Nat.zero_le _, rfl, F1, _, [], Ex.rf F1, r1.lay2 (m := .lst []) hpN ⟨hF1, [], upd_same, .nil⟩, h0⟩, ?_⟩
  rintro i m H' ⟨hi, hm, F2, G2, acc, e2, r2, hP⟩
  obtain ⟨hkeep, hal⟩ := hk i acc G2 hi hP
  by_cases hlt : i < it.items.length
  · refine Or.inr ⟨hrel.go i F2 G2 H' e2 r2 hkeep hlt, fun H3 => ∃ F3 G3 acc3, Ex F1 F3 ∧ RG K F3 G3 H3 ∧ P (i + 1) acc3 G3, ?_, ?_⟩
    · rintro H3 ⟨F3, G3, acc3, e3, r3, hP3⟩
      exact ⟨it.items.length - (i + 1), by omega, hlt, rfl, F3, G3, acc3, e3, r3, hP3⟩
    · intro y H3 hy
      obtain ⟨F3, e3, r3, hy3⟩ := hrel.yld i it.items[i] F2 G2 H' y H3 e2 r2 hkeep (List.getElem?_eq_getElem hlt) hy
      have s3 : Sl K F3 (wipe σ J) (wipeD env J) := ((s1.mono e2).mono e3).wipe J
      refine ⟨F3, G2, wipeD env J, it.items[i], _, r3, s3, hy3, hs i it.items[i] acc G2 (List.getElem?_eq_getElem hlt) hP, ?_⟩
      intro env4 G4 hq σ4 F4 H4 w4 e4 r4 s4
      refine ⟨by rw [w4]; exact wipe_wipe σ J, ?_⟩
      refine ⟨F4, G4, env4, _, r4, s4, hq, fun bb G5 hb v F5 H5 e5 r5 hv => ?_, fun x G z => z.elim⟩
      have hvb : v = bb := hv
      rw [hvb]
      obtain ⟨hbt, hbf⟩ := hb
      cases bb with
      | false =>
        refine iteF ?_
        exact ⟨F5, G5, acc, ((e2.tr e3).tr e4).tr e5, r5, hbf rfl⟩
      | true =>
        refine iteT ?_
        refine ⟨F5, G5, env4, _, r5, s4.mono e5, hbt rfl, fun d6 G6 hd6 v6 F6 H6 e6 r6 hv6 => ?_, fun x G z => z.elim⟩
        obtain ⟨hG6, hP6⟩ := hd6
        obtain ⟨hF6, vs6, hv7, rv7⟩ := r6.mo _ _ hG6
        refine ⟨vs6, hv7, by rw [rv7.len]; exact Nat.lt_of_lt_of_le (Nat.lt_of_le_of_lt hal hlt) (szk hz), ?_⟩
        exact ⟨F6, _, acc ++ [d6], (((e2.tr e3).tr e4).tr e5).tr e6, r6.chg (m := .lst (acc ++ [d6])) hF6 ⟨hF6, _, upd_same, rv7.app (.cons hv6 .nil)⟩, hP6⟩
  · have hle : it.items.length ≤ i := by omega
    have hie : i = it.items.length := by omega
    refine Or.inl ⟨hrel.stop i F2 G2 H' e2 r2 hkeep hle hi, ?_⟩
    subst hie
    obtain ⟨hG, hok⟩ := hd acc G2 hP
    obtain ⟨hF2, vs2, hv2, rv2⟩ := r2.mo _ _ hG
    obtain ⟨e3, r3⟩ := r2.frz hF2 hv2
    exact ko1 _ _ hok _ _ _ (e2.tr e3) r3 (.lst upd_same (rv2.mono e3))
where
  wipe_wipe (σ : L2.St) (J : List Nat) : wipe (wipe σ J) J = wipe σ J := by
    apply List.ext_getElem?
    intro i
    rw [wipe_get, wipe_get]
    by_cases h : i ∈ J
    · rw [if_pos h, if_pos h]
      cases σ[i]? <;> rfl
    · rw [if_neg h, if_neg h]
theorem de_lc {ci : CI} {g : CG} {t : CT} {scope : Scope} {own : List (Str × Nat)} (hc : X.calm = true) (hN : X.N.Nodup) (hi : PI X tg e (rdI X.K W ci)) (ok : BlkOk X.N X.env.scope scope own)
    (hg : ∀ (s : Shared) (H : Hp) (C : Addr) (cl : List (Str × Addr)) (fp : List Addr), PG (X.blk s H scope (compEnvC scope cl C X.env) fp) tg (rdG X.K (own.map (·.2)) g)) (ht : ∀ (s : Shared) (H : Hp) (C : Addr) (cl : List (Str × Addr)) (fp : List Addr), PTs (X.blk s H scope (compEnvC scope cl C X.env) fp) ifs (rdT X.K W0 t))
    (he : ∀ (s : Shared) (H : Hp) (C : Addr) (cl : List (Str × Addr)) (fp : List Addr), PE (X.blk s H scope (compEnvC scope cl C X.env) fp) elt (rdE X.K W0 ce)) (hs : ∀ x, foldedSetIterable e X.env x = pure x := by intro _; rfl) :
    PE X (.ListComp elt [⟨tg, e, ifs, 0⟩] scope pos) (rdE X.K W (cLc ci g t ce (own.map (·.2)))) :=
  PE.conv (pe_lc hc hN hi ok hg ht he hs) fun _ _ _ h => rd_lc h
theorem ds_setLc {i : Nat} {py spos : Pos} {ci : CI} {g : CG} {t : CT} {scope : Scope} {own : List (Str × Nat)} (hc : X.calm = true) (hN : X.N.Nodup) (hi : PI X tg e (rdI X.K W ci)) (ok : BlkOk X.N X.env.scope scope own)
    (hg : ∀ (s : Shared) (H : Hp) (C : Addr) (cl : List (Str × Addr)) (fp : List Addr), PG (X.blk s H scope (compEnvC scope cl C X.env) fp) tg (rdG X.K (own.map (·.2)) g)) (ht : ∀ (s : Shared) (H : Hp) (C : Addr) (cl : List (Str × Addr)) (fp : List Addr), PTs (X.blk s H scope (compEnvC scope cl C X.env) fp) ifs (rdT X.K W0 t))
    (he : ∀ (s : Shared) (H : Hp) (C : Addr) (cl : List (Str × Addr)) (fp : List Addr), PE (X.blk s H scope (compEnvC scope cl C X.env) fp) elt (rdE X.K W0 ce)) (hy : X.N[i]? = some x := by rfl) (hyl : X.env.scope.names.lookup x = some .local := by rfl)
    (hsw : swapsWith (.ListComp elt [⟨tg, e, ifs, 0⟩] scope pos) (some (.Name x py)) spos.line X.env = pure true := by exact sw_true rfl rfl rfl (by decide +kernel)) (hs : ∀ x, foldedSetIterable e X.env x = pure x := by intro _; rfl) :
    PS X (.Assign [.Name x py] (.ListComp elt [⟨tg, e, ifs, 0⟩] scope pos) spos) (rdS X.K W (cSet i (cLc ci g t ce (own.map (·.2))))) :=
  PS.conv (ps_setLc hc hN hy hyl hsw hi ok hg ht he hs) fun Ds σ H ⟨F, G, env, E, r, s, h, so⟩ =>
    rd_lc (rd_mono (rds_bind (f := fun d E env G1 => E.nx (env.set i (some d)) G1) r s h so) fun v H1 ⟨F1, G1, d, r1, s1, hd, e1, h1, so1⟩ => so1.nx _ G1 h1 _ F1 H1 (Ex.rf F1) r1 (s1.put hd i))
end Dl
set_option maxHeartbeats 4000000
/-! DL8: raise, try, a def by its body; further built-in calls; methods of texts and lists. -/
namespace Dl
open PySem PySem.Spec PyProof.Rows L2
variable {X : Cx} {W : WX} {a b c e o tg elt : Expr} {es ifs : List Expr} {ca cb cc ce co cv : CE} {cr : CA} {ct : CT} {pos p apos : Pos} {x m : Str} {ss body : List Stmt} {c1 c2 cbody : CS}

/-! ### raise -/
/-- an own error class over ValueError, without an own __init__ -/
structure ExcF (K : PySem.W.Frag) (mg : Str → Option Value) (x : Str) : Prop where
  gl : mg x = some (.ref (He.ga K x))
  ok : PySem.W.excIn K (He.ga K x) He.veBase "ValueError.__new__" = true
  kp : PySem.W.keepIn K (.ref (He.ga K x)) = true
  sb : PySem.W.subIn K (.ref (He.ga K x)) (.type "BaseException") = some true
  ty : PySem.W.typeIn K (.ref (He.ga K x)) = some (.type "type")
theorem pmk_own0 (E : ExcF X.K X.mg x) (hg : Gl X x) (hdb : (x == ("__debug__" : Str)) = false := by decide) : PMk X (.Call (.Name x p) [] [] pos) (fun _ H Q => Q (.ref (He.ga X.K x)) none H) := by
  intro pins s σ H Q I h
  refine wpAny_Call_Name_kw (ld_glob I hg E.gl ?_ hdb)
  refine PySem.W.callWith_K0 I.kIn E.kp ?_
  obtain ⟨bm, N, nm, qn, bs, hdct, sn, sub, ab, col, dd, k0, k1, k2, k3, k5, mN, hC, hN, hni, T⟩ := exc_obj I.kIn E.ok
  refine wpAny_call_exc_subT PySem.F.excBase_ValueError T hC hN hni (fun h' e hm => ?_) (by decide)
  exact mk_of I hm (raises_own E.sb E.ty) h (I.hok.gone hm.new)
def cRaise (x : Str) : CS := fun E env G => E.ex ⟨x, []⟩ env G
theorem ds_raise (E : ExcF X.K X.mg x) (hc : X.calm = true) (tk : Takes X W) (hg : Gl X x := by rfl) (hdb : (x == ("__debug__" : Str)) = false := by decide) : PS X (.Raise (some (.Call (.Name x p) [] [] apos)) none pos) (rdS X.K W (cRaise x)) :=
  PS.conv (ps_raise hc tk (pmk_own0 E hg hdb)) fun Ds σ H ⟨F, G, env, En, r, s, h, so⟩ => so.ex _ env G h _ none σ F H (Ex.rf F) r s ⟨rfl, rfl⟩

/-! ### try -/
def hdl (sub : Str → Str → Bool) (E : En) (x : XD) (env : Env) (G : Gm) : List (Str × CS) → Prop
  | [] => E.ex x env G
  | (c, s) :: r => (sub x.c c = true → s { E with ex := fun _ _ _ => False } env G) ∧ (sub x.c c = false → hdl sub E x env G r)
def cTry (tb : List Str) (sub : Str → Str → Bool) (cb : CS) (hs : List (Str × CS)) : CS := fun E env G => cb { E with ex := fun x env1 G1 => x.c ∈ tb ∧ hdl sub E x env1 G1 hs } env G
inductive DHs (X : Cx) : List ExceptHandler → List (Str × CS) → Prop
  | nil : DHs X [] []
  | cons {c : Str} {s : CS} {b₀ : Stmt} {suite : List Stmt} {np pos' : Pos} {hds : List ExceptHandler} {l : List (Str × CS)} (hg : Gl X c) (hdb : (c == ("__debug__" : Str)) = false) (hm : X.mg c = some (.ref (He.ga X.K c)))
      (hsu : ∀ (a : Addr) (oe : Obj) (cls : Value) (d : Option Addr) (pn : List (Addr × Obj)), Zc cls d oe → (∃ vs, oe.data = .fields vs) → PSs (X.suite a ((a, oe) :: pn)) (b₀ :: suite) (rdS X.K W0 s)) (r : DHs X hds l) :
      DHs X (.ExceptHandler (some (.Name c np)) none (b₀ :: suite) pos' :: hds) ((c, s) :: l)
def wl (K : PySem.W.Frag) (l : List (Str × CS)) : List (Value × (Addr → Value → Option Addr → TS)) := l.map fun q => (.ref (He.ga K q.1), fun _ _ _ => rdS K W0 q.2)
theorem DHs.ok : ∀ {hds : List ExceptHandler} {l : List (Str × CS)}, DHs X hds l → HdsOk X hds (wl X.K l)
  | _, _, .nil => .nil
  | _, _, .cons hg hdb hm hsu r => .cons ⟨hg, hdb, .inl hm⟩ hsu r.ok
theorem ds_try {tb : List Str} {sub : Str → Str → Bool} {hds : List ExceptHandler} {h₀ : ExceptHandler} {l : List (Str × CS)} (tk : Takes X W)
    (hb : ∀ (W : WX) (pn : List (Addr × Obj)) (xe : Value → Shared → Prop), Takes (X.tr pn xe) W → PassesOwn (model X.prog X.w) X.A X.env xe → PSs (X.tr pn xe) body (rdS X.K W cbody))
    (hh : DHs X (h₀ :: hds) l) (hsub : ∀ y ∈ tb, ∀ q ∈ l, PySem.W.exmOne X.K (.ref (He.ga X.K y)) (.ref (He.ga X.K q.1)) = some (sub y q.1)) (hs : X.stack = X.env :: X.outer := by rfl) (hf : X.env.frame = some X.env.locals := by rfl) :
    PS X (.Try body (h₀ :: hds) [] [] pos) (rdS X.K W (cTry tb sub cbody l)) :=
  PS.conv (ps_try_many (tb := fun W => rdS X.K W cbody) hs hf tk hb hh.ok) fun Ds σ H ⟨F, G, env, E, r, s, h, so⟩ => by
    refine ⟨F, G, env, _, r, s, h, ⟨so.nx, so.rt, so.bk, so.ct, ?_⟩⟩
    intro x env1 G1 ⟨hx, hd⟩ cls dd σ1 F1 H1 e1 r1 s1 rx
    obtain ⟨ec, rx2⟩ := rx
    subst ec
    have main : ∀ l' : List (Str × CS), (∀ q ∈ l', q ∈ l) → hdl sub E x env1 G1 l' → wMany X.K W Ds (wl X.K l') (.ref (He.ga X.K x.c)) dd σ1 H1 := by
      intro l'
      induction l' with
      | nil => intro _ hd; exact so.ex x env1 G1 hd _ dd σ1 F1 H1 e1 r1 s1 ⟨rfl, rx2⟩
      | cons q l' ih =>
        intro hl hd
        obtain ⟨c, sc⟩ := q
        refine ⟨sub x.c c, hsub x.c hx (c, sc) (hl _ List.mem_cons_self), fun hb a _ => ?_, fun hb => ih (fun q hq => hl q (List.mem_cons_of_mem _ hq)) (hd.2 hb)⟩
        have so1 := so.up e1
        exact ⟨F1, G1, env1, _, r1, s1, hd.1 hb, ⟨so1.nx, so1.rt, so1.bk, so1.ct, fun _ _ _ z => z.elim⟩⟩
    exact main l (fun _ h => h) hd

/-! ### a def by its body -/
def startD (n : Nat) (ds : List D) : Env := ds.map some ++ List.replicate (n - ds.length) none
theorem sl_start {K : PySem.W.Frag} {F : Hp} {N : List Str} : ∀ {vs : List V} {ds : List D}, RpAll K F vs ds → Sl K F (start N vs) (startD N.length ds) := fun {vs ds} r => by
  refine ⟨by simp [L2.start, startD, r.len], fun i d h => ?_⟩
  unfold startD at h
  unfold L2.start
  by_cases hi : i < ds.length
  · rw [List.getElem?_append_left (by simpa using hi), List.getElem?_map] at h
    rw [List.getElem?_append_left (by rw [List.length_map, r.len]; exact hi), List.getElem?_map]
    cases q : ds[i]? with
    | none => rw [q] at h; cases h
    | some d' =>
      rw [q] at h
      have e := Option.some.inj (Option.some.inj h)
      subst e
      obtain ⟨v, hv, rv⟩ := r.get q
      exact ⟨v, by rw [hv]; rfl, rv⟩
  · rw [List.getElem?_append_right (by simpa using hi)] at h
    have := List.mem_of_getElem? h
    simp at this
def rW (k : Kn D) (d : D) (G : Gm) : Prop := ∃ G0, subG G0 G ∧ k.ok d G0
def xW (k : Kn D) (x : XD) (G : Gm) : Prop := ∃ G0, subG G0 G ∧ k.ex x G0
theorem rW.of {k : Kn D} {d : D} {G : Gm} (h : k.ok d G) : rW k d G := ⟨G, subG.rf G, h⟩
theorem xW.of {k : Kn D} {x : XD} {G : Gm} (h : k.ex x G) : xW k x G := ⟨G, subG.rf G, h⟩
def enOf (k : Kn D) : En := ⟨fun _ G => rW k .non G, rW k, fun _ _ => False, fun _ _ => False, fun x _ G => xW k x G⟩
/-- the body keeps the promise -/
def Keeps (n : Nat) (c : CS) (sp : SpD) : Prop := ∀ ds G k, sp ds G k → c (enOf k) (startD n ds) G
section
variable {P : Program} {w : World} {K : PySem.W.Frag} {mg : Str → Option Value} {base : Heap}
theorem fnA_ok {x qual : Str} {params : Arguments} {scope : Scope} {f : Addr} {fd : FuncData} {N ps : List Str} {k n : Nat} {sp : SpD} {c : CS} (F : FunD K x qual params body scope [] [] f fd) (S : FnScope N ps scope)
    (hbind : ∀ (kV doc pm : Value) (an : Option Addr) (cdv ct : Value) (us : List Value), us.length = ps.length → bindArgs (PySem.W.fnOf x qual params body scope .none kV doc pm an cdv ct) ⟨us, []⟩ = pure (ps.zip us))
    (hb : ∀ (cdv : Value) (A : Around) (outer : List PySem.Env) (s : Shared) (H : Hp) (E : XK), Room k (A.deeper (envOfC qual scope s.heap.objs.size f cdv)) →
      PSs (cxOf (L2.CX P w) P w K mg base N qual scope f cdv A outer s H E) body (rdS K (fun cls d _ H => E cls d H) c))
    (hl : ∀ ds G k, sp ds G k → ds.length = ps.length) (hk : Keeps n c sp) (hn : N.length = n := by rfl) : FnA P w K mg base f (k + 1) sp := by
  subst hn
  refine ⟨fd, ps, F.ok S (fun vs H Q E ⟨F0, G, ds, k, r, hd, h, _⟩ => by rw [hd.len]; exact hl _ _ _ h) (fun cdv A outer s H vs Q E hr h => ⟨_, hb cdv A outer s H E hr, ?_⟩), F.kp, F.bindsN hbind⟩
  obtain ⟨F0, G, ds, k, r, hd, h, ko, kx⟩ := h
  refine ⟨F0, G, startD N.length ds, enOf k, r, sl_start hd, hk ds G k h, ⟨?_, ?_, fun _ _ z => z.elim, fun _ _ z => z.elim, ?_⟩⟩
  · intro env G' ⟨G0, hs, hq⟩ σ F' H' e' r' _
    exact ko _ G0 hq _ F' H' e' (r'.sub hs) .non
  · intro d G' ⟨G0, hs, hq⟩ v F' H' e' r' hv
    exact ko _ G0 hq _ F' H' e' (r'.sub hs) hv
  · intro y env G' ⟨G0, hs, hq⟩ cls dd σ F' H' e' r' _ rx
    exact kx y G0 hq cls dd F' H' e' (r'.sub hs) rx
end
end Dl
set_option maxHeartbeats 4000000
/-! DL9: further built-in calls; isinstance; methods of texts and lists. -/
namespace Dl
open PySem PySem.Spec PyProof.Rows L2
variable {X : Cx} {W : WX} {a b c e o : Expr} {es : List Expr} {ca cb cc ce co cv : CE} {cr : CA} {pos p apos : Pos} {x m : Str}

/-! ### numbers, texts -/
def min2 : DC := fun xs q G => match xs with
  | [.int i, .int j] => q (.int (if j < i then j else i)) G
  | _ => False
def max2 : DC := fun xs q G => match xs with
  | [.int i, .int j] => q (.int (if j > i then j else i)) G
  | _ => False
theorem int2 {f : DC} {xs : List D} {q : D → Gm → Prop} {G : Gm} (h : (∀ i j, xs = [.int i, .int j] → False) → False) : ∃ i j, xs = [.int i, .int j] := by
  cases hh : xs with
  | nil => exact (h fun i j e => by rw [hh] at e; cases e).elim
  | cons u us =>
    cases us with
    | nil => exact (h fun i j e => by rw [hh] at e; cases e).elim
    | cons v vs =>
      cases vs with
      | cons z zs => exact (h fun i j e => by rw [hh] at e; cases e).elim
      | nil =>
        cases u <;> cases v <;> first | exact ⟨_, _, rfl⟩ | exact (h fun i j e => by rw [hh] at e; cases e).elim
theorem call_min2D (hc : X.calm = true) : CallR X (.builtin "min") (rdC X.K min2) := by
  intro pins s σ H vs us Q I rx ⟨F, G, ds, q, r, hx, h, ko⟩
  obtain ⟨i, j, e⟩ := int2 (f := min2) (xs := ds) (q := q) (G := G) fun hn => by
    unfold min2 at h
    split at h
    · exact hn _ _ rfl
    · exact h
  subst e
  obtain ⟨v, w, rfl, hv, hw⟩ := hx.two
  cases hv; cases hw
  exact call_min2 hc pins s σ H _ us Q I rx ⟨i, j, rfl, kok1 ko r h (.int _)⟩
theorem call_max2D (hc : X.calm = true) : CallR X (.builtin "max") (rdC X.K max2) := by
  intro pins s σ H vs us Q I rx ⟨F, G, ds, q, r, hx, h, ko⟩
  obtain ⟨i, j, e⟩ := int2 (f := max2) (xs := ds) (q := q) (G := G) fun hn => by
    unfold max2 at h
    split at h
    · exact hn _ _ rfl
    · exact h
  subst e
  obtain ⟨v, w, rfl, hv, hw⟩ := hx.two
  cases hv; cases hw
  exact call_max2 hc pins s σ H _ us Q I rx ⟨i, j, rfl, kok1 ko r h (.int _)⟩
/-- int(n), int(flag), int(figures) -/
def intC : DC := fun xs q G => (∃ i, xs = [.int i] ∧ q (.int i) G) ∨ (∃ k : Bool, xs = [.bl k] ∧ q (.int (if k then 1 else 0)) G) ∨
  ∃ s, xs = [.str s] ∧ s ≠ [] ∧ s.length ≤ 640 ∧ s.all (fun c => decide (48 ≤ c) && decide (c ≤ 57)) = true ∧ q (.int (NumText.digitsVal s : Nat)) G
theorem call_intC : CallR X (.type "int") (rdC X.K intC) := by
  intro pins s σ H vs us Q I rx ⟨F, G, ds, q, r, hx, h, ko⟩
  rcases h with ⟨i, e, h⟩ | ⟨k, e, h⟩ | ⟨t, e, hne, hl, hd, h⟩
  · subst e
    obtain ⟨v, rfl, hv⟩ := hx.one
    cases hv
    exact call_int1 pins s σ H _ us Q I rx (.inl ⟨i, rfl, kok1 ko r h (.int _)⟩)
  · subst e
    obtain ⟨v, rfl, hv⟩ := hx.one
    cases hv
    exact call_int1 pins s σ H _ us Q I rx (.inr ⟨k, rfl, kok1 ko r h (.int _)⟩)
  · subst e
    obtain ⟨v, rfl, hv⟩ := hx.one
    cases hv
    exact call_int_str pins s σ H _ us Q I rx ⟨st t, _, rfl, SX.int_S hd hne (by omega), by rw [st_len]; exact hl, kok1 ko r h (.int _)⟩
/-- str(n) of a number, str(text) -/
def strC : DC := fun xs q G => (∃ n : Nat, xs = [.int (n : Int)] ∧ n < 10 ^ 18 ∧ q (.str (TL.numL n)) G) ∨ ∃ s, xs = [.str s] ∧ q (.str s) G
theorem call_strC : CallR X (.type "str") (rdC X.K strC) := by
  intro pins s σ H vs us Q I rx ⟨F, G, ds, q, r, hx, h, ko⟩
  rcases h with ⟨n, e, hn, h⟩ | ⟨t, e, h⟩
  · subst e
    obtain ⟨v, rfl, hv⟩ := hx.one
    cases hv
    refine call_str_int pins s σ H _ us Q I rx ⟨n, rfl, ?_, ?_⟩
    · rw [Int.natAbs_natCast]
      by_cases h0 : n = 0
      · subst h0; decide
      · rw [Nat.log2_lt h0]
        exact Nat.lt_of_lt_of_le hn (by decide +kernel)
    · have e : (toString (n : Int) : String) = toString (n : Int) := rfl
      have e2 : (V.str (Str.ofString (toString (n : Int)))) = V.str (st (TL.numL n)) := congrArg V.str (SX.num_S n)
      exact e2 ▸ kok1 ko r h (.str _)
  · subst e
    obtain ⟨v, rfl, hv⟩ := hx.one
    cases hv
    exact SkE.call_str_str pins s σ H _ us Q I rx ⟨_, rfl, kok1 ko r h (.str _)⟩
def ordC : DC := fun xs q G => ∃ c, xs = [.str [c]] ∧ q (.int (c : Nat)) G
theorem call_ordC : CallR X (.builtin "ord") (rdC X.K ordC) := by
  intro pins s σ H vs us Q I rx ⟨F, G, ds, q, r, hx, ⟨c, e, h⟩, ko⟩
  subst e
  obtain ⟨v, rfl, hv⟩ := hx.one
  cases hv
  exact call_ord pins s σ H _ us Q I rx ⟨_, rfl, rfl, kok1 ko r h (.int _)⟩
def absC : DC := fun xs q G => ∃ i, xs = [.int i] ∧ q (.int (if i < 0 then -i else i)) G
theorem call_absC : CallR X (.builtin "abs") (rdC X.K absC) := by
  intro pins s σ H vs us Q I rx ⟨F, G, ds, q, r, hx, ⟨c, e, h⟩, ko⟩
  subst e
  obtain ⟨v, rfl, hv⟩ := hx.one
  cases hv
  exact call_abs pins s σ H _ us Q I rx ⟨_, rfl, kok1 ko r h (.int _)⟩
/-! ### all, any, sum of a list -/
def lstOf : D → Gm → Option (List D)
  | .lst ys, _ => some ys
  | .seq ys, _ => some ys
  | .adr a, G => match G a with
    | some (.lst ys) => some ys
    | _ => none
  | _, _ => none
theorem lst_at {K : PySem.W.Frag} {F H : Hp} {G : Gm} (r : RG K F G H) {v : V} {d : D} (hd : Rp K F v d) {ys : List D} (h : lstOf d G = some ys) : ∃ a vs, v = .ref a ∧ SqL K H a vs ∧ RpAll K F vs ys := by
  cases hd <;> simp only [lstOf] at h <;> first | cases h | skip
  · rename_i a
    split at h
    · rename_i zs hz
      cases h
      obtain ⟨_, vs, hv, r1⟩ := r.mo _ _ hz
      exact ⟨a, vs, rfl, SqL.of hv, r1⟩
    · cases h
  · rename_i a vs hh r1
    exact ⟨a, vs, rfl, SqL.of (r.ex _ _ hh), r1⟩
  · rename_i a vs hh r1
    exact ⟨a, vs, rfl, r.ex.sl hh, r1⟩
def allC : DC := fun xs q G => ∃ (d : D) (bs : List Bool), xs = [d] ∧ lstOf d G = some (bs.map D.bl) ∧ q (.bl (bs.all id)) G
def anyC : DC := fun xs q G => ∃ (d : D) (bs : List Bool), xs = [d] ∧ lstOf d G = some (bs.map D.bl) ∧ q (.bl (bs.any id)) G
def sumC : DC := fun xs q G => ∃ (d : D) (ns : List Int), xs = [d] ∧ lstOf d G = some (ns.map D.int) ∧ q (.int ns.sum) G
theorem call_allC (hc : X.calm = true) : CallR X (.builtin "all") (rdC X.K allC) := by
  intro pins s σ H vs us Q I rx ⟨F, G, ds, q, r, hx, ⟨d, bs, e, hl, h⟩, ko⟩
  subst e
  obtain ⟨v, rfl, hv⟩ := hx.one
  obtain ⟨a, ws, rfl, hs, rr⟩ := lst_at r hv hl
  have e := rr.bls
  subst e
  exact cr_all hc pins s σ H _ us Q I rx ⟨_, bs, rfl, hs, kok1 ko r h (.bl _)⟩
theorem call_anyC (hc : X.calm = true) : CallR X (.builtin "any") (rdC X.K anyC) := by
  intro pins s σ H vs us Q I rx ⟨F, G, ds, q, r, hx, ⟨d, bs, e, hl, h⟩, ko⟩
  subst e
  obtain ⟨v, rfl, hv⟩ := hx.one
  obtain ⟨a, ws, rfl, hs, rr⟩ := lst_at r hv hl
  have e := rr.bls
  subst e
  exact cr_any hc pins s σ H _ us Q I rx ⟨_, bs, rfl, hs, kok1 ko r h (.bl _)⟩
theorem call_sumC (hc : X.calm = true) : CallR X (.builtin "sum") (rdC X.K sumC) := by
  intro pins s σ H vs us Q I rx ⟨F, G, ds, q, r, hx, ⟨d, bs, e, hl, h⟩, ko⟩
  subst e
  obtain ⟨v, rfl, hv⟩ := hx.one
  obtain ⟨a, ws, rfl, hs, rr⟩ := lst_at r hv hl
  have e := rr.ints
  subst e
  exact cr_sum hc pins s σ H _ us Q I rx ⟨_, bs, rfl, hs, kok1 ko r h (.int _)⟩

/-! ### isinstance of built-in classes -/
def tyN : D → Gm → Option String
  | .non, _ => some "NoneType"
  | .bl _, _ => some "bool"
  | .int _, _ => some "int"
  | .str _, _ => some "str"
  | .tup _, _ => some "tuple"
  | .lst _, _ => some "list"
  | .seq _, _ => some "list"
  | .dk _, _ => some "dict"
  | .dt _, _ => some "dict"
  | .adr a, G => match G a with
    | some (.lst _) => some "list"
    | some (.dk _) => some "dict"
    | some (.dt _) => some "dict"
    | _ => none
  | .ins _ _, _ => none
def subT (T n : String) : Bool := T == n || (T == "bool" && n == "int")
def tyNs : List String := ["NoneType", "bool", "int", "str", "tuple", "list", "dict"]
def clNs : List String := ["bool", "int", "str", "tuple", "list", "dict"]
theorem kit_sub : ∀ T ∈ tyNs, ∀ n ∈ clNs, kitB T n = some (subT T n) := by decide +kernel
theorem tyN_in {d : D} {G : Gm} {T : String} (h : tyN d G = some T) : T ∈ tyNs := by
  cases d <;> simp only [tyN] at h <;> first | (cases h; done) | (cases h; decide) | skip
  split at h <;> first | (cases h; decide) | cases h
theorem tyX_of {K : PySem.W.Frag} {F H : Hp} {G : Gm} (r : RG K F G H) {v : V} {d : D} (hd : Rp K F v d) {T : String} (h : tyN d G = some T) : TyX K H v (.type T) := by
  cases hd <;> simp only [tyN] at h <;> first | (cases h; done) | (cases h; first | exact .base .non | exact .base (.bl _) | exact .base (.int _) | exact .base (.str _)) | skip
  · split at h
    · rename_i q; cases h; obtain ⟨_, vs, hv, _⟩ := r.mo _ _ q; exact .base (.lst hv)
    · rename_i q; cases h; obtain ⟨_, vs, hv, _⟩ := r.mo _ _ q; exact .base (.dK hv)
    · rename_i q; cases h; obtain ⟨_, vs, hv, _⟩ := r.mo _ _ q; exact .base (.dT hv)
    · cases h
  · rename_i hh rr
    cases h
    rcases r.ex.sq hh with (q | ⟨o, q⟩) | ⟨o, its, n, q, qc, _⟩
    · exact .base (.tup q)
    · exact .fTuple q
    · exact .kTuple q qc
  · rename_i hh rr
    cases h
    exact .base (.lst (r.ex _ _ hh))
  · rename_i hh rr
    cases h
    rcases r.ex.sl hh with (q | ⟨o, q⟩) | ⟨o, its, n, q, qc, _⟩
    · exact .base (.lst q)
    · exact .base (.frz q)
    · exact .kList q qc
  · rename_i hh rr
    cases h
    exact .base (.dK (r.ex _ _ hh))
  · rename_i hh rr
    cases h
    exact .base (.dT (r.ex _ _ hh))
def cIsi (n : String) (ca : CE) : CE := fun k env G => ca ⟨fun d G1 => ∃ T, tyN d G1 = some T ∧ k.ok (.bl (subT T n)) G1, k.ex⟩ env G
theorem rel_ty {n : String} : RelV (.ty n) (.type n) := rfl
variable {pn : Pos} {n n2 : String} {y z : Str}
theorem de_isi (hm : X.mg "isinstance" = none) (hmy : X.mg y = none) (ha : PE X a (rdE X.K W ca)) (hv : bootBuiltins y = some (.type n) := by decide +kernel) (hn : n ∈ clNs := by decide) (hg : Gl X "isinstance" := by rfl) (hgy : Gl X y := by rfl)
    (hne : y ≠ "__name__" := by decide) (hd : (y == ("__debug__" : Str)) = false := by decide)
    (he : starEach (a :: [.Name y pn]) X.env = (false, eval a X.env) :: starEach [.Name y pn] X.env := by rfl) (hpl : (backTo pos (starEach [.Name y pn] X.env)).any (·.1) = false := by rfl) :
    PE X (.Call (.Name "isinstance" p) [a, .Name y pn] [] pos) (rdE X.K W (cIsi n ca)) :=
  PE.conv (pe_callB call_isi hg hm PyProof.Rows.boot_isinstance (pa_cons ha (pa_cons (pe_bltn (v := .ty n) hgy hmy hv rfl hne hd) pa_nil) he) (by decide) (by decide) he hpl) fun σ H Q ⟨F, G, env, k, r, s, hc, ko, kx⟩ => by
    refine rd_mono (rd_bind (f := fun (d : D) (k : Kn D) (env : Env) (G1 : Gm) => ∃ T, tyN d G1 = some T ∧ k.ok (D.bl (subT T n)) G1) r s hc ko kx) fun x H1 ⟨F1, G1, d, r1, s1, hd, e1, ⟨T, hT, h1⟩, ko1, kx1⟩ => ?_
    exact ⟨x, .ty n, .type T, .type n, subT T n, rfl, .ty n, tyX_of r1 hd hT, kit_ty (kit_sub T (tyN_in hT) n hn), kok1 ko1 r1 h1 (.bl _)⟩
/-- isinstance(x, (T, U)) -/
def cIsi2 (n n2 : String) (ca : CE) : CE := fun k env G => ca ⟨fun d G1 => ∃ T, tyN d G1 = some T ∧ k.ok (.bl (subT T n || subT T n2)) G1, k.ex⟩ env G
theorem de_isi2 {pt pn2 : Pos} {kt} (hm : X.mg "isinstance" = none) (hmy : X.mg y = none) (hmz : X.mg z = none) (ha : PE X a (rdE X.K W ca)) (hv : bootBuiltins y = some (.type n) := by decide +kernel) (hv2 : bootBuiltins z = some (.type n2) := by decide +kernel) (hn : n ∈ clNs := by decide) (hn2 : n2 ∈ clNs := by decide)
    (hg : Gl X "isinstance" := by rfl) (hgy : Gl X y := by rfl) (hgz : Gl X z := by rfl)
    (hne : y ≠ "__name__" := by decide) (hd : (y == ("__debug__" : Str)) = false := by decide) (hne2 : z ≠ "__name__" := by decide) (hd2 : (z == ("__debug__" : Str)) = false := by decide)
    (he : starEach (a :: [.Tuple [.Name y pn, .Name z pn2] kt pt]) X.env = (false, eval a X.env) :: starEach [.Tuple [.Name y pn, .Name z pn2] kt pt] X.env := by rfl) (hpl : (backTo pos (starEach [.Tuple [.Name y pn, .Name z pn2] kt pt] X.env)).any (·.1) = false := by rfl) :
    PE X (.Call (.Name "isinstance" p) [a, .Tuple [.Name y pn, .Name z pn2] kt pt] [] pos) (rdE X.K W (cIsi2 n n2 ca)) :=
  PE.conv (pe_callB call_isiT hg hm PyProof.Rows.boot_isinstance (pa_cons ha (pa_cons (pe_tup (pa_cons (pe_bltn (v := .ty n) hgy hmy hv rfl hne hd) (pa_cons (pe_bltn (v := .ty n2) hgz hmz hv2 rfl hne2 hd2) pa_nil))) pa_nil) he) (by decide) (by decide) he hpl) fun σ H Q ⟨F, G, env, k, r, s, hc, ko, kx⟩ => by
    refine rd_mono (rd_bind (f := fun (d : D) (k : Kn D) (env : Env) (G1 : Gm) => ∃ T, tyN d G1 = some T ∧ k.ok (D.bl (subT T n || subT T n2)) G1) r s hc ko kx) fun x H1 ⟨F1, G1, d, r1, s1, hd, e1, ⟨T, hT, h1⟩, ko1, kx1⟩ => ?_
    refine ⟨by show 2 ≤ sizeLine; decide, fun tp htp => ?_⟩
    obtain ⟨e2, r2⟩ := r1.lay (o := .tup [.ty n, .ty n2]) htp
    have hT2 := tyX_of r2 (hd.mono e2) hT
    refine ⟨x, tp, [.ty n, .ty n2], .type T, [.type n, .type n2], _, rfl, upd_same, .cons (.ty n) (.cons (.ty n2) .nil), hT2, ?_, ko1 _ G1 h1 _ _ _ e2 r2 (.bl _)⟩
    refine kitAny_cons (kit_ty (kit_sub T (tyN_in hT) n hn)) (fun hb => ?_) (fun hb => by rw [hb]; rfl)
    refine kitAny_cons (kit_ty (kit_sub T (tyN_in hT) n2 hn2)) (fun hb2 => ?_) (fun hb2 => by rw [hb2, Bool.or_true])
    rw [hb, hb2]
    exact kitAny_nil

/-! ### methods of built-in types -/
abbrev DM := D → List D → (D → Gm → Prop) → Gm → Prop
def rdM (K : PySem.W.Frag) (f : DM) : V → List V → Hp → VK → Prop := fun x xs H Q => ∃ F G d ds q, RG K F G H ∧ Rp K F x d ∧ RpAll K F xs ds ∧ f d ds q G ∧ Kok K (Rp K) F q Q
def isT (T : String) (d : D) (G : Gm) : Prop := match d with
  | .str _ => T = "str"
  | .lst _ => T = "list"
  | .seq _ => T = "list"
  | .dk _ => T = "dict"
  | .dt _ => T = "dict"
  | .adr a => (T = "list" ∧ ∃ xs, G a = some (.lst xs)) ∨ (T = "dict" ∧ ((∃ kv, G a = some (.dk kv)) ∨ ∃ kv, G a = some (.dt kv)))
  | _ => False
theorem tyV_of {K : PySem.W.Frag} {F H : Hp} {G : Gm} (r : RG K F G H) {v : V} {d : D} (hd : Rp K F v d) {T : String} (h : isT T d G) : tyV K T v H := by
  cases hd <;> first | exact (h : False).elim | skip
  · exact h
  · rcases h with ⟨e, xs, q⟩ | ⟨e, ⟨kv, q⟩ | ⟨kv, q⟩⟩
    · obtain ⟨_, vs, hv, _⟩ := r.mo _ _ q; exact .inl ⟨e, vs, SqL.of hv⟩
    · obtain ⟨_, vs, hv, _⟩ := r.mo _ _ q; exact .inr (.inr (.inl ⟨e, .inl ⟨vs, hv⟩⟩))
    · obtain ⟨_, vs, hv, _⟩ := r.mo _ _ q; exact .inr (.inr (.inl ⟨e, .inr ⟨vs, hv⟩⟩))
  · rename_i hh rr; exact .inl ⟨h, _, SqL.of (r.ex _ _ hh)⟩
  · rename_i hh rr; exact .inl ⟨h, _, r.ex.sl hh⟩
  · rename_i hh rr; exact .inr (.inr (.inl ⟨h, .inl ⟨_, r.ex _ _ hh⟩⟩))
  · rename_i hh rr; exact .inr (.inr (.inl ⟨h, .inr ⟨_, r.ex _ _ hh⟩⟩))
def cBM (T : String) (f : DM) (co : CE) (cr : CA) : CE := fun k env G => co ⟨fun d G1 => isT T d G1 ∧ cr ⟨fun ds G2 => f d ds k.ok G2, k.ex⟩ env G1, k.ex⟩ env G
variable {T id : String}
theorem de_bm {f : DM} (pa : PlainAttrs T) (slot : Slot T m id) (hty : typeOf (.builtin id) = pure (.type "method_descriptor")) (hm : MtR X id (rdM X.K f)) (ho : PE X o (rdE X.K W co)) (ha : PA X (e :: es) (rdA X.K W cr))
    (hbase : attributeBase o m X.env (eval o X.env) = eval o X.env := by rfl)
    (hfew : ((backTo pos (starEach (e :: es) X.env)).all (fun x => !x.1) && (backToKw pos (keywordEach [] X.env)).all (fun x => x.1.isSome)
      && decide ((e :: es).length + ([] : List Keyword).length + (if ([] : List Keyword).isEmpty then 0 else 1) < 30)) = true := by rfl)
    (hline : (apos.endLine == pos.line) = true := by rfl) (hs : starEach (e :: es) X.env = (false, eval e X.env) :: starEach es X.env := by rfl) (hplain : (backTo pos (starEach es X.env)).any (·.1) = false := by rfl) :
    PE X (.Call (.Attribute o m apos) (e :: es) [] pos) (rdE X.K W (cBM T f co cr)) :=
  PE.conv (pe_bm pa slot hty hm ho ha hbase hfew hline hs hplain) fun σ H Q ⟨F, G, env, k, r, s, hc, ko, kx⟩ => by
    refine rd_mono (rd_bind (f := fun (d : D) (k : Kn D) (env : Env) (G1 : Gm) => isT T d G1 ∧ cr ⟨fun ds G2 => f d ds k.ok G2, k.ex⟩ env G1) r s hc ko kx) fun x H1 ⟨F1, G1, d, r1, s1, hd, e1, ⟨hT, h1⟩, ko1, kx1⟩ => ?_
    refine ⟨tyV_of r1 hd hT, ?_⟩
    refine rd_mono (rd_bind (f := fun (ds : List D) (k : Kn D) (env : Env) (G2 : Gm) => f d ds k.ok G2) r1 s1 h1 ko1 kx1) fun xs H2 ⟨F2, G2, ds, r2, s2, hds, e2, h2, ko2, kx2⟩ => ?_
    exact ⟨F2, G2, d, ds, k.ok, r2, hd.mono e2, hds, h2, ko2⟩
theorem de_bm0 {f : DM} (pa : PlainAttrs T) (slot : Slot T m id) (hty : typeOf (.builtin id) = pure (.type "method_descriptor")) (hm : MtR X id (rdM X.K f)) (ho : PE X o (rdE X.K W co))
    (hbase : attributeBase o m X.env (eval o X.env) = eval o X.env := by rfl) (hline : (apos.endLine == pos.line) = true := by rfl) :
    PE X (.Call (.Attribute o m apos) [] [] pos) (rdE X.K W (cBM T f co cNil)) :=
  PE.conv (pe_bm0 pa slot hty hm ho hbase hline) fun σ H Q ⟨F, G, env, k, r, s, hc, ko, kx⟩ => by
    refine rd_mono (rd_bind (f := fun (d : D) (k : Kn D) (env : Env) (G1 : Gm) => isT T d G1 ∧ cNil ⟨fun ds G2 => f d ds k.ok G2, k.ex⟩ env G1) r s hc ko kx) fun x H1 ⟨F1, G1, d, r1, s1, hd, e1, ⟨hT, h1⟩, ko1, kx1⟩ => ?_
    exact ⟨tyV_of r1 hd hT, F1, G1, d, [], k.ok, r1, hd, .nil, h1, ko1⟩
/-! lists -/
def appM : DM := fun o ds q G => ∃ a y xs, o = .adr a ∧ ds = [y] ∧ G a = some (.lst xs) ∧ xs.length < 16777216 ∧ q .non (ug G a (.lst (xs ++ [y])))
theorem szl {n : Nat} (h : n < 16777216) : n < sizeLine := by rw [sizeLine_eq]; exact h
theorem mt_appM : MtR X "list.append" (rdM X.K appM) := by
  intro pins s σ H x xs v us Q I rx rxs ⟨F, G, d, ds, q, r, hd, hds, ⟨a, y, zs, ed, eds, hG, hz, h⟩, ko⟩
  subst ed; subst eds
  cases hd
  obtain ⟨w, rfl, hw⟩ := hds.one
  obtain ⟨hF, vs, hv, rv⟩ := r.mo _ _ hG
  exact mt_append pins s σ H _ _ v us Q I rx rxs ⟨a, vs, w, rfl, rfl, hv, by rw [rv.len]; exact szl hz, ko _ _ h _ F _ (Ex.rf F) (r.chg (m := .lst (zs ++ [y])) hF ⟨hF, _, upd_same, rv.app (.cons hw .nil)⟩) .non⟩
/-- extend by a list for good -/
def extM : DM := fun o ds q G => ∃ a ys xs, o = .adr a ∧ ds = [.lst ys] ∧ G a = some (.lst xs) ∧ xs.length + ys.length ≤ 16777216 ∧ q .non (ug G a (.lst (xs ++ ys)))
theorem mt_extM : MtR X "list.extend" (rdM X.K extM) := by
  intro pins s σ H x xs v us Q I rx rxs ⟨F, G, d, ds, q, r, hd, hds, ⟨a, y, zs, ed, eds, hG, hz, h⟩, ko⟩
  subst ed; subst eds
  cases hd
  obtain ⟨w, rfl, hw⟩ := hds.one
  cases hw with
  | lst hh rr =>
    obtain ⟨hF, vs, hv, rv⟩ := r.mo _ _ hG
    exact mt_extend pins s σ H _ _ v us Q I rx rxs ⟨a, _, vs, _, rfl, rfl, hv, r.ex _ _ hh, by rw [rv.len, rr.len]; exact szk hz, ko _ _ h _ F _ (Ex.rf F) (r.chg (m := .lst (zs ++ y)) hF ⟨hF, _, upd_same, rv.app rr⟩) .non⟩
def popM : DM := fun o ds q G => ∃ a y xs, o = .adr a ∧ ds = [] ∧ G a = some (.lst xs) ∧ xs[xs.length - 1]? = some y ∧ q y (ug G a (.lst xs.dropLast))
theorem mt_popM : MtR X "list.pop" (rdM X.K popM) := by
  intro pins s σ H x xs v us Q I rx rxs ⟨F, G, d, ds, q, r, hd, hds, ⟨a, y, zs, ed, eds, hG, hz, h⟩, ko⟩
  subst ed; subst eds
  cases hd
  cases hds
  obtain ⟨hF, vs, hv, rv⟩ := r.mo _ _ hG
  obtain ⟨w, hw, rw_⟩ := rv.get hz
  exact mt_pop pins s σ H _ _ v us Q I rx rxs ⟨a, vs, w, rfl, rfl, hv, by rw [rv.len]; exact hw, ko _ _ h _ F _ (Ex.rf F) (r.chg (m := .lst zs.dropLast) hF ⟨hF, _, upd_same, rv.init⟩) rw_⟩
def popAtM : DM := fun o ds q G => ∃ a y xs i k, o = .adr a ∧ ds = [.int i] ∧ G a = some (.lst xs) ∧ -(2 ^ 63) ≤ i ∧ i < 2 ^ 63 ∧ seqIndex? i xs.length = some k ∧ xs[k]? = some y ∧ q y (ug G a (.lst (xs.eraseIdx k)))
theorem mt_popAtM : MtR X "list.pop" (rdM X.K popAtM) := by
  intro pins s σ H x xs v us Q I rx rxs ⟨F, G, d, ds, q, r, hd, hds, ⟨a, y, zs, i, k, ed, eds, hG, h1, h2, h3, hz, h⟩, ko⟩
  subst ed; subst eds
  cases hd
  obtain ⟨w0, rfl, hw0⟩ := hds.one
  cases hw0
  obtain ⟨hF, vs, hv, rv⟩ := r.mo _ _ hG
  obtain ⟨w, hw, rw_⟩ := rv.get hz
  exact mt_popAt pins s σ H _ _ v us Q I rx rxs ⟨a, vs, i, k, w, rfl, rfl, hv, h1, h2, by rw [rv.len]; exact h3, hw, ko _ _ h _ F _ (Ex.rf F) (r.chg (m := .lst (zs.eraseIdx k)) hF ⟨hF, _, upd_same, rv.erase k⟩) rw_⟩
/-! texts -/
def findAt (t : List Nat) : List Nat → Nat → Int
  | [], _ => -1
  | c :: r, i => if TL.pre t (c :: r) = true then (i : Int) else findAt t r (i + 1)
theorem findAt_none {t : List Nat} : ∀ (s : List Nat) (i : Nat), (∀ k, TL.pre t (s.drop k) = true → s.length ≤ k) → findAt t s i = -1
  | [], _, _ => rfl
  | c :: r, i, h => by
    unfold findAt
    rw [if_neg (fun z => by have := h 0 z; simp at this)]
    exact findAt_none r (i + 1) fun k hk => by
      have := h (k + 1) hk
      simpa using this
theorem findAt_some {t : List Nat} : ∀ (s : List Nat) (i a : Nat), a < s.length → TL.pre t (s.drop a) = true → (∀ k, k < a → ¬ TL.pre t (s.drop k) = true) → findAt t s i = ((i + a : Nat) : Int)
  | [], _, a, h, _, _ => by simp at h
  | c :: r, i, 0, _, h, _ => by
    unfold findAt
    rw [if_pos (show TL.pre t (c :: r) = true from h)]; rfl
  | c :: r, i, a + 1, hl, h, hn => by
    unfold findAt
    rw [if_neg (show ¬ TL.pre t (c :: r) = true from hn 0 (Nat.succ_pos a))]
    rw [findAt_some r (i + 1) a (by simpa using hl) h (fun k hk => hn (k + 1) (by omega))]
    congr 1
    omega
theorem find_st {s t : List Nat} (ht : t ≠ []) : Txt.find (st s) (st t) = findAt t s 0 := by
  have hy : TL.tl (st t) ≠ [] := ht
  unfold Txt.find
  rcases StrLaws.occ_head (st s) (st t) 1 (Nat.le_refl _) with ⟨h0, hn⟩ | ⟨i, rr, h0, ha, hn⟩
  · rw [h0]
    refine (findAt_none s 0 fun k hk => ?_).symm
    exact absurd ((TL.at_iff hy k).mpr hk) (hn k)
  · rw [h0]
    have hp := (TL.at_iff hy i).mp ha
    have hl : i < s.length := by
      refine Nat.lt_of_not_le fun hle => ?_
      have e : (TL.tl (st s)).drop i = [] := List.drop_eq_nil_of_le hle
      rw [e] at hp
      rw [TL.pre_nil hy] at hp
      cases hp
    rw [findAt_some s 0 i hl hp fun k hk z => hn k hk ((TL.at_iff hy k).mpr z)]
    simp
def findM : DM := fun o ds q G => ∃ s t, o = .str s ∧ ds = [.str t] ∧ t ≠ [] ∧ q (.int (findAt t s 0)) G
theorem mt_findM : MtR X "str.find" (rdM X.K findM) := by
  intro pins s σ H x xs v us Q I rx rxs ⟨F, G, d, ds, q, r, hd, hds, ⟨u, t, ed, eds, ht, h⟩, ko⟩
  subst ed; subst eds
  cases hd
  obtain ⟨w0, rfl, hw0⟩ := hds.one
  cases hw0
  refine mt_find pins s σ H _ _ v us Q I rx rxs ⟨_, _, rfl, rfl, ?_⟩
  rw [find_st ht]
  exact kok1 ko r h (.int _)
def joinM : DM := fun o ds q G => ∃ s d ys, o = .str s ∧ ds = [d] ∧ itemsOf d G = some (ys.map D.str) ∧ (ys.map (·.length)).sum + ys.length * s.length ≤ 16777216 ∧ q (.str (TL.joinL s ys)) G
theorem mt_joinM : MtR X "str.join" (rdM X.K joinM) := by
  intro pins s σ H x xs v us Q I rx rxs ⟨F, G, d, ds, q, r, hd, hds, ⟨u, d0, ys, ed, eds, hi, hz, h⟩, ko⟩
  subst ed; subst eds
  cases hd
  obtain ⟨w0, rfl, hw0⟩ := hds.one
  obtain ⟨a, ws, rfl, hs, rr⟩ := items_sq r hw0 hi
  have e := rr.strs
  subst e
  have hz' : (((ys.map st).map (·.length)).sum + (ys.map st).length * (st u).length) ≤ 16777216 := by
    rw [List.map_map, List.length_map, st_len]
    have e : ((fun z : Str => z.length) ∘ st) = fun z : List Nat => z.length := by funext z; exact st_len z
    rw [e]; exact hz
  refine mt_join pins s σ H _ _ v us Q I rx rxs ⟨_, _, ys.map st, rfl, rfl, hs.imp id And.left, hz', ?_⟩
  have e2 : Txt.join (st u) (ys.map st) = st (TL.joinL u ys) := SX.join_S u ys
  rw [e2]
  exact kok1 ko r h (.str _)
end Dl
set_option maxHeartbeats 4000000
/-! DL10: zip over any two of a list, a tuple, a text. -/
namespace Dl
open PySem PySem.Spec PyProof.Rows L2

/-- what zip goes through -/
inductive ZK where
  | l (a : Addr) | t (a : Addr) | s (x : Str)
def ZK.fp : ZK → List Addr
  | .l a => [a]
  | .t a => [a]
  | .s _ => []
def ZK.st (k : ZK) (it : Addr) (i : Nat) (h : Heap) : Prop := match k with
  | .l a => h.IsListIter it a i
  | .t a => h.IsTupleIter it a i
  | .s x => ∃ t, h.IsStrIter it (strIterType x) x t i
def ZK.has (K : PySem.W.Frag) (k : ZK) (H : Hp) (xs : List V) : Prop := match k with
  | .l a => SqL K H a xs
  | .t a => SqT K H a xs
  | .s x => xs = x.cps.toList.map fun c => V.str ⟨#[c]⟩
theorem ZK.at {k : ZK} {it : Addr} {i : Nat} {h h' : Heap} (s : k.st it i h) (e : ∀ o, h.get? it = some o → h'.get? it = some o) : k.st it i h' := by
  cases k with
  | l a => exact Heap.IsListIter.at s e
  | t a => exact Heap.IsTupleIter.at s e
  | s x =>
    obtain ⟨t, o, ho, r⟩ := s
    exact ⟨t, o, e o ho, r⟩
theorem ZK.obj {k : ZK} {it : Addr} {i : Nat} {h : Heap} (s : k.st it i h) : ∃ o, h.get? it = some o ∧ ∀ v, o.data ≠ .cell v := by
  cases k with
  | l a => obtain ⟨o1, e1, _, d1⟩ := s; exact ⟨o1, e1, fun v q => by rw [d1] at q; cases q⟩
  | t a => obtain ⟨o1, e1, _, d1⟩ := s; exact ⟨o1, e1, fun v q => by rw [d1] at q; cases q⟩
  | s x => obtain ⟨t, o1, e1, _, d1⟩ := s; exact ⟨o1, e1, fun v q => by rw [d1] at q; cases q⟩
section
variable {X : Cx} {pins : List (Addr × Obj)} {σ : L2.St} {H : Hp} {s : Shared} {xs ys : List V}
theorem ZK.inj {k : ZK} (I : Inv X pins σ H s) (h : k.has X.K H xs) (h' : k.has X.K H ys) : xs = ys := by
  cases k with
  | l a => exact I.list_inj h h'
  | t a => exact I.tuple_inj h h'
  | s x => exact Eq.trans h (Eq.symm h')
theorem ZK.draws {A : Around} {k : ZK} {it : Addr} {i : Nat} (I : Inv X pins σ H s) (hA : A.handled = none) (hne : it ∉ k.fp) (h : k.has X.K H xs) (st : k.st it i s.heap) :
    ∃ n P St, Draws X.prog X.w A it (it :: k.fp) n P St ∧ St i s.heap ∧ n = xs.length ∧ (∀ j v, P j v → ∃ x, xs[j]? = some x ∧ RelV x v) ∧ ∀ j h, St j h → k.st it j h := by
  cases k with
  | l a =>
    obtain ⟨its, rv, p, _⟩ := I.list h
    have ha : a ≠ it := fun z => hne (by subst z; exact List.mem_cons_self)
    refine ⟨_, _, _, Draws.list hA it a ha its.toArray, ⟨st, p.isList⟩, by rw [List.size_toArray, ← rv.length], fun j v hv => ?_, fun j h q => q.1⟩
    have hv' : its[j]? = some v := by simpa using hv
    have hj : j < xs.length := by rw [rv.length]; exact (List.getElem?_eq_some_iff.mp hv').1
    obtain ⟨u, hu, ru⟩ := rv.get (List.getElem?_eq_getElem hj)
    rw [hv'] at hu; cases hu
    exact ⟨_, List.getElem?_eq_getElem hj, ru⟩
  | t a =>
    obtain ⟨its, rv, p, _⟩ := I.tuple h
    have ha : a ≠ it := fun z => hne (by subst z; exact List.mem_cons_self)
    refine ⟨_, _, _, Draws.tuple hA it a ha its.toArray, ⟨st, p⟩, by rw [List.size_toArray, ← rv.length], fun j v hv => ?_, fun j h q => q.1⟩
    have hv' : its[j]? = some v := by simpa using hv
    have hj : j < xs.length := by rw [rv.length]; exact (List.getElem?_eq_some_iff.mp hv').1
    obtain ⟨u, hu, ru⟩ := rv.get (List.getElem?_eq_getElem hj)
    rw [hv'] at hu; cases hu
    exact ⟨_, List.getElem?_eq_getElem hj, ru⟩
  | s x =>
    obtain ⟨t, st⟩ := st
    have h' : xs = x.cps.toList.map fun c => V.str ⟨#[c]⟩ := h
    refine ⟨_, _, _, Draws.text hA it x t, st, by rw [h']; simp, fun j v hv => ?_, fun j h q => ⟨t, q⟩⟩
    obtain ⟨c, u, hc, ev⟩ := hv
    subst ev
    refine ⟨.str ⟨#[c]⟩, ?_, ⟨u, rfl⟩⟩
    rw [h', List.getElem?_map]
    have : x.cps.toList[j]? = some c := by simpa using hc
    rw [this]; rfl
end
/-- the items of both, in new pairs -/
def ItzK (K : PySem.W.Frag) (k1 k2 : ZK) : It :=
  ⟨fun i H => ∃ (xs ys : List V), k1.has K H xs ∧ k2.has K H ys ∧ i < xs.length ∧ i < ys.length,
    fun i H v H' => ∃ T x y, v = .ref T ∧ H T = none ∧ H' = upd H T (.tup [x, y]) ∧ (∀ xs, k1.has K H xs → xs[i]? = some x) ∧ ∀ ys, k2.has K H ys → ys[i]? = some y,
    fun i H => ∃ xs ys : List V, k1.has K H xs ∧ k2.has K H ys ∧ i ≤ xs.length ∧ i ≤ ys.length ∧ (i = xs.length ∨ i = ys.length)⟩
theorem turn_zipK {P : Program} {w : World} {K : PySem.W.Frag} {elts : List Expr} {kk : Nat} {tpos : Pos} {k1 k2 : ZK} {z TI TO i1 i2 : Addr} (S : ZipSep2 z TI TO i1 i2 (i1 :: k1.fp) (i2 :: k2.fp)) (n1 : i1 ∉ k1.fp) (n2 : i2 ∉ k2.fp) :
    Turn P w K (.Tuple elts kk tpos) (ItzK K k1 k2) [z, TI, TO, i1, i2] z (fun i h => IsZip h z TI TO .none ∧ IsTupOf2 h TI (.ref i1) (.ref i2) ∧ (∃ x y, IsTupOf2 h TO x y) ∧ k1.st i1 i h ∧ k2.st i2 i h) where
  mem := List.mem_cons_self
  obj := fun i h st c hc => by
    obtain ⟨hz, hTI, ⟨x, y, hTO⟩, h1, h2⟩ := st
    have e' : c = z ∨ c = TI ∨ c = TO ∨ c = i1 ∨ c = i2 := by simpa using hc
    rcases e' with q | q | q | q | q <;> rw [q]
    · exact ⟨_, hz, fun v q => nomatch q⟩
    · exact ⟨_, hTI, fun v q => nomatch q⟩
    · exact ⟨_, hTO, fun v q => nomatch q⟩
    · exact ZK.obj h1
    · exact ZK.obj h2
  keep := fun i h h' ⟨hz, hTI, ⟨x, y, hTO⟩, h1, h2⟩ k => ⟨k z (by simp) _ hz, k TI (by simp) _ hTI, ⟨x, y, k TO (by simp) _ hTO⟩, ZK.at h1 (k i1 (by simp)), ZK.at h2 (k i2 (by simp))⟩
  item := by
    intro X hP hw hK hc i pins s σ H E I hf ⟨hz, hTI, ⟨x0, y0, hTO⟩, h1, h2⟩ ⟨xs, ys, hx, hy, hl1, hl2⟩
    subst hP hw hK
    have hA : X.A.in1.handled = none := I.ok.hd hc
    obtain ⟨m1, P1, St1, D1, s1, e1, r1, t1⟩ := ZK.draws I hA n1 hx h1
    obtain ⟨m2, P2, St2, D2, s2, e2, r2, t2⟩ := ZK.draws I hA n2 hy h2
    have hzl : z < s.heap.objs.size := Heap.lt_size hz
    refine wpAny_pyNext_zipD2_item S D1 D2 hz hTI hTO s1 s2 (by omega) (by omega) fun u1 u2 h' tk p1 p2 z' TO' q1 q2 hT hsz hk => ?_
    obtain ⟨x, hx1, ru1⟩ := r1 _ _ p1
    obtain ⟨y, hy1, ru2⟩ := r2 _ _ p2
    refine ⟨_, rfl, wpAny_letOwnedTupleGo_zip (s := { s with heap := h', toks := tk }) z' fun h'' z'' sb => ?_⟩
    have hT2 : h''.get? s.heap.objs.size = some { cls := .type "tuple", data := .seq #[u1, u2] } := (sb.2 _ (Nat.ne_of_gt hzl)).trans hT
    have new : ObjOk X.prog X.w (upd H s.heap.objs.size (.tup [x, y])) h'' s.heap.objs.size (.tup [x, y]) :=
      ⟨by show 2 ≤ sizeLine; decide, [u1, u2], .cons ru1 (.cons ru2 .nil), ⟨_, hT2, rfl, _, rfl⟩⟩
    have I1 : Inv X pins σ (upd H s.heap.objs.size (.tup [x, y])) { s with heap := h'', toks := tk } :=
      I.turnedNew (t' := tk) (ch := [z, TI, TO, i1, i2]) (fun c o hb q => (sb.2 c (fun w => hb (by simp [w]))).trans (hk c o (fun w => hb (by simp [w])) (fun w => hb (by simp [w])) (fun w => hb (by simp [w])) (fun w => hb (by simp [w])) q)) hf (Nat.le_refl _) new
    refine ⟨.ref s.heap.objs.size, _, I1, rfl, ⟨_, x, y, rfl, I.hok.fresh (Nat.le_refl _), rfl, fun l hl => by rw [ZK.inj I hl hx]; exact hx1, fun l hl => by rw [ZK.inj I hl hy]; exact hy1⟩, ⟨z'', ?_, ⟨u1, u2, ?_⟩, ?_, ?_⟩, fun c hcm => ?_⟩
    · exact (sb.2 _ S.TIz).trans (hk _ _ S.TIz S.TITO S.TIi1 S.TIi2 hTI)
    · exact (sb.2 _ S.TOz).trans TO'
    · exact ZK.at (t1 _ _ q1) fun o q => (sb.2 _ (Ne.symm S.zi1)).trans q
    · exact ZK.at (t2 _ _ q2) fun o q => (sb.2 _ (Ne.symm S.zi2)).trans q
    · have e' : c = z ∨ c = TI ∨ c = TO ∨ c = i1 ∨ c = i2 := by simpa using hcm
      have hlt : c < s.heap.objs.size := by
        rcases e' with q | q | q | q | q <;> rw [q]
        · exact hzl
        · exact Heap.lt_size hTI
        · exact Heap.lt_size hTO
        · obtain ⟨_, e1, _⟩ := ZK.obj h1; exact Heap.lt_size e1
        · obtain ⟨_, e2, _⟩ := ZK.obj h2; exact Heap.lt_size e2
      rw [upd_ne (Nat.ne_of_lt hlt)]
      exact (hf c hcm).1
  done := by
    intro X hP hw hK hc i pins s σ H E I hf ⟨hz, hTI, ⟨x0, y0, hTO⟩, h1, h2⟩ ⟨xs, ys, hx, hy, hl1, hl2, he⟩
    subst hP hw hK
    have hA : X.A.in1.handled = none := I.ok.hd hc
    obtain ⟨m1, P1, St1, D1, s1, e1, r1, t1⟩ := ZK.draws I hA n1 hx h1
    obtain ⟨m2, P2, St2, D2, s2, e2, r2, t2⟩ := ZK.draws I hA n2 hy h2
    exact wpAny_pyNext_zipD2_end S D1 D2 hz hTI hTO s1 s2 (by omega) (by omega) (by omega) fun h' tk hk => ⟨rfl, I.turnedL (t' := tk) (ch := [z, TI, TO, i1, i2]) (fun c o hb q =>
      hk c o (fun w => hb (by simp [w])) (fun w => hb (by simp [w])) (fun w => hb (by simp [w])) (fun w => hb (by simp [w])) q) hf⟩
  self := fun A i s Q E st h => wpAny_pyIter_zip st.1 h

/-! ### the call -/
/-- the value that zip takes for k -/
def ZK.isV : ZK → V → Prop
  | .l a, v => v = .ref a
  | .t a, v => v = .ref a
  | .s x, v => v = .str x
section
variable {X : Cx} {pins : List (Addr × Obj)} {σ : L2.St} {H : Hp} {s : Shared} {xs ys : List V}
theorem ZK.begins {k : ZK} {v : V} {u : Value} (I : Inv X pins σ H s) (h : k.has X.K H xs) (hv : k.isV v) (r : RelV v u) :
    ∃ o Hq, Begins u o Hq ∧ Hq s.heap ∧ (∀ b ∈ k.fp, b < s.heap.objs.size) ∧ ∀ it h', h'.get? it = some o → k.st it 0 h' := by
  cases k with
  | l a =>
    have hv' : v = .ref a := hv
    subst hv'
    cases r
    obtain ⟨its, rv, p, _⟩ := I.list h
    refine ⟨_, _, begins_list a its.toArray, p.isList, fun b hb => ?_, fun it h' e => ⟨_, e, rfl, rfl⟩⟩
    have e : b = a := by simpa [ZK.fp] using hb
    subst e; exact p.lt
  | t a =>
    have hv' : v = .ref a := hv
    subst hv'
    cases r
    obtain ⟨its, rv, p, _⟩ := I.tuple h
    refine ⟨_, _, begins_tuple a its.toArray, p, fun b hb => ?_, fun it h' e => ⟨_, e, rfl, rfl⟩⟩
    have e : b = a := by simpa [ZK.fp] using hb
    subst e
    obtain ⟨o1, ho1, _⟩ := id p
    exact Heap.lt_size ho1
  | s x =>
    have hv' : v = .str x := hv
    subst hv'
    obtain ⟨t, rfl⟩ := r
    exact ⟨_, fun _ => True, begins_text x t, trivial, fun b hb => (by cases hb), fun it h' e => ⟨t, _, e, rfl, rfl⟩⟩
end
def iZipK (K : PySem.W.Frag) (ta : TA) : TI := fun σ H R => ta σ H fun vs H1 => ∃ k1 k2 v1 v2 xs ys, vs = [v1, v2] ∧ ZK.isV k1 v1 ∧ ZK.isV k2 v2 ∧ ZK.has K k1 H1 xs ∧ ZK.has K k2 H1 ys ∧ R (ItzK K k1 k2) H1
theorem pi_zipK {X : Cx} {e e2 : Expr} {ta : TA} {p pos tpos : Pos} {elts : List Expr} {kk : Nat} (hg : Gl X "zip") (hm : X.mg "zip" = none) (ha : PA X [e, e2] ta)
    (hs : starEach [e, e2] X.env = (false, eval e X.env) :: starEach [e2] X.env := by rfl) (hpl : (backTo pos (starEach [e2] X.env)).any (·.1) = false := by rfl) :
    PI X (.Tuple elts kk tpos) (.Call (.Name "zip" p) [e, e2] [] pos) (iZipK X.K ta) := by
  refine ⟨fun pins s σ H R I h => ?_⟩
  refine Call_ (ld_blt I hg hm PyProof.Rows.boot_zip (PyProof.Rows.callWith_type1 (thn (ha.run pos pins s σ H _ I h) fun us s1 hq => ?_) hs hpl))
  obtain ⟨vs, H1, I1, r1, k1, k2, v1, v2, xs, ys, ex, hv1, hv2, hx, hy, q⟩ := hq
  subst ex
  cases r1 with
  | cons r rr =>
    cases rr with
    | cons r' rr =>
      cases rr
      obtain ⟨o1, Q1, B1, q1, l1, t1⟩ := ZK.begins I1 hx hv1 r
      obtain ⟨o2, Q2, B2, q2, l2, t2⟩ := ZK.begins I1 hy hv2 r'
      refine zip_begins2 B1 B2 q1 q2 fun h' hz hTI hTO h1 h2 hsz hk => wpAny_pyIter_zip hz ?_
      have I2 : Inv X pins σ H1 { s1 with heap := h' } := I1.kept (t' := s1.toks) hk
      refine ⟨s1.heap.objs.size + 4, [s1.heap.objs.size + 4, s1.heap.objs.size + 2, s1.heap.objs.size + 3, s1.heap.objs.size, s1.heap.objs.size + 1], _, _, H1, rfl, I2,
        turn_zipK (zip_sep2 l1 l2) (fun z => Nat.lt_irrefl _ (l1 _ z)) (fun z => Nat.lt_irrefl _ (Nat.lt_of_succ_lt (l2 _ z))), ⟨hz, hTI, ⟨_, _, hTO⟩, t1 _ _ h1, t2 _ _ h2⟩, fun c hcm => ?_, q⟩
      have hle : s1.heap.objs.size ≤ c := by
        have e' : c = s1.heap.objs.size + 4 ∨ c = s1.heap.objs.size + 2 ∨ c = s1.heap.objs.size + 3 ∨ c = s1.heap.objs.size ∨ c = s1.heap.objs.size + 1 := by simpa using hcm
        rcases e' with z | z | z | z | z <;> rw [z] <;> first | exact Nat.le_add_right _ _ | exact Nat.le_refl _
      exact I1.fpOk hle (I1.hok.fresh hle)

/-! ### over trees -/
def zitems : D → Option (List D)
  | .lst xs => some xs
  | .seq xs => some xs
  | .tup xs => some xs
  | .str s => some (s.map fun c => D.str [c])
  | _ => none
theorem zk_of {K : PySem.W.Frag} {F H : Hp} {G : Gm} (r : RG K F G H) {v : V} {d : D} (hd : Rp K F v d) {ds : List D} (h : zitems d = some ds) : ∃ k vs, ZK.isV k v ∧ RpAll K F vs ds ∧ ∀ F' H', Ex F F' → Ex F' H' → ZK.has K k H' vs := by
  cases hd <;> simp only [zitems] at h <;> first | (cases h; done) | (cases h; skip)
  · rename_i s
    refine ⟨.s (st s), (s.map fun c => V.str ⟨#[c]⟩), rfl, ?_, fun _ _ _ _ => rfl⟩
    clear r
    induction s with
    | nil => exact .nil
    | cons c s ih => exact .cons (.str [c]) ih
  · rename_i a vs hh rr
    exact ⟨.t a, vs, rfl, rr, fun F' H' e e' => e'.sq (e.sq hh)⟩
  · rename_i a vs hh rr
    exact ⟨.l a, vs, rfl, rr, fun F' H' e e' => e'.sl (SqL.of (e _ _ hh))⟩
  · rename_i a vs hh rr
    exact ⟨.l a, vs, rfl, rr, fun F' H' e e' => e'.sl (e.sl hh)⟩
theorem relI_zk {K : PySem.W.Frag} {F : Hp} {k1 k2 : ZK} {vs ws : List V} {ds es : List D} (h : ∀ F' H', Ex F F' → Ex F' H' → ZK.has K k1 H' vs) (h2 : ∀ F' H', Ex F F' → Ex F' H' → ZK.has K k2 H' ws) (r : RpAll K F vs ds) (r2 : RpAll K F ws es) :
    RelI K F (ItzK K k1 k2) ⟨zipD ds es, fun _ => True⟩ := by
  refine ⟨fun i F' G H e' r' _ hi => ?_, fun i d F' G H y H' e' r' _ hd hy => ?_, fun i F' G H e' r' _ hi hi2 => ?_⟩
  · have hi' : i < min ds.length es.length := by rwa [← zipD_len]
    refine ⟨vs, ws, h _ _ e' r'.ex, h2 _ _ e' r'.ex, ?_, ?_⟩
    · rw [r.len]; omega
    · rw [r2.len]; omega
  · obtain ⟨u, w, hu, hw, ed⟩ := zipD_get hd
    obtain ⟨v1, hv1, rv1⟩ := r.get hu
    obtain ⟨v2, hv2, rv2⟩ := r2.get hw
    obtain ⟨T, x1, x2, ey, hT, eH, hx1, hx2⟩ := hy
    have e3 := hx1 vs (h _ _ e' r'.ex)
    have e4 := hx2 ws (h2 _ _ e' r'.ex)
    rw [hv1] at e3; rw [hv2] at e4
    cases e3; cases e4
    subst ey; subst eH; subst ed
    obtain ⟨e5, r5⟩ := r'.lay (o := .tup [v1, v2]) hT
    exact ⟨_, e5, r5, .tup (SqT.of upd_same) (.cons ((rv1.mono e').mono e5) (.cons ((rv2.mono e').mono e5) .nil))⟩
  · have hi' : min ds.length es.length ≤ i := by rwa [← zipD_len]
    have hi2' : i ≤ min ds.length es.length := by rwa [← zipD_len]
    have l1 := r.len
    have l2 := r2.len
    exact ⟨vs, ws, h _ _ e' r'.ex, h2 _ _ e' r'.ex, by omega, by omega, by omega⟩
def cItZK (cr : CA) : CI := fun k env G => cr ⟨fun ds G1 => ∃ u v xs ys, ds = [u, v] ∧ zitems u = some xs ∧ zitems v = some ys ∧ k.ok ⟨zipD xs ys, fun _ => True⟩ G1, k.ex⟩ env G
variable {X : Cx} {W : WX} {a b : Expr} {cr : CA} {p pos tpos : Pos} {elts : List Expr} {kk : Nat}
theorem di_zipK (hm : X.mg "zip" = none) (ha : PA X [a, b] (rdA X.K W cr)) (hg : Gl X "zip" := by rfl)
    (hs : starEach [a, b] X.env = (false, eval a X.env) :: starEach [b] X.env := by rfl) (hpl : (backTo pos (starEach [b] X.env)).any (·.1) = false := by rfl) :
    PI X (.Tuple elts kk tpos) (.Call (.Name "zip" p) [a, b] [] pos) (rdI X.K W (cItZK cr)) :=
  PI.conv (pi_zipK hg hm ha hs hpl) fun σ H Q ⟨F, G, env, k, r, s, hc, ko, kx⟩ => by
    refine rd_mono (rd_bind (f := fun (ds : List D) (k : Kn DI) (env : Env) (G1 : Gm) => ∃ u v xs ys, ds = [u, v] ∧ zitems u = some xs ∧ zitems v = some ys ∧ k.ok ⟨zipD xs ys, fun _ => True⟩ G1) r s hc ko kx) fun x H1 ⟨F1, G1, d, r1, s1, hd, e1, ⟨u, v, xs, ys, ed, hz1, hz2, h2⟩, ko1, kx1⟩ => ?_
    subst ed
    obtain ⟨v1, v2, rfl, q1, q2⟩ := hd.two
    obtain ⟨k1, vs1, i1, rr1, hh1⟩ := zk_of r1 q1 hz1
    obtain ⟨k2, vs2, i2, rr2, hh2⟩ := zk_of r1 q2 hz2
    exact ⟨k1, k2, v1, v2, vs1, vs2, rfl, i1, i2, hh1 _ _ (Ex.rf F1) r1.ex, hh2 _ _ (Ex.rf F1) r1.ex, ko1 _ G1 h2 _ F1 H1 (Ex.rf F1) r1 (relI_zk hh1 hh2 rr1 rr2)⟩
end Dl
set_option maxHeartbeats 4000000
/-! DL11: a walk over a list, a tuple or a text; levels; lists to be changed. -/
namespace Dl
open PySem PySem.Spec PyProof.Rows L2
variable {X : Cx} {W : WX} {a b c e o tg elt : Expr} {es ifs : List Expr} {ca cb cc ce co cv : CE} {cr : CA} {ct : CT} {pos p apos : Pos} {x m : Str}

/-! ### a walk over what is known only when it has come -/
def cItA (ca : CE) : CI := fun k env G => ca ⟨fun d G1 => (∃ xs, zitems d = some xs ∧ k.ok ⟨xs, fun _ => True⟩ G1) ∨ ∃ a xs, d = .adr a ∧ G1 a = some (.lst xs) ∧ k.ok ⟨xs, fun G => G a = some (.lst xs)⟩ G1, k.ex⟩ env G
theorem begin_l {pins : List (Addr × Obj)} {σ : L2.St} {H : Hp} {s : Shared} {R : It → Hp → Prop} {a : Addr} {xs : List V} (I : Inv X pins σ H s) (h : SqL X.K H a xs) (q : R (Itl X.K a) H) : wpAny (model X.prog X.w) X.A (pyIter (.ref a)) (PIE X pins σ tg R) X.xe s := by
  obtain ⟨_, _, pl, _⟩ := I.list h
  exact wpAny_pyIter_list pl.isList (pi_one (tk := s.toks) I _ (turn_list a _) ⟨_, Heap.get?_push_size _ rfl, rfl, rfl⟩ q)
theorem begin_t {pins : List (Addr × Obj)} {σ : L2.St} {H : Hp} {s : Shared} {R : It → Hp → Prop} {a : Addr} {xs : List V} (I : Inv X pins σ H s) (h : SqT X.K H a xs) (q : R (Itt X.K a) H) : wpAny (model X.prog X.w) X.A (pyIter (.ref a)) (PIE X pins σ tg R) X.xe s := by
  obtain ⟨its, _, pt, _⟩ := I.tuple h
  exact wpAny_pyIter_tuple (items := its.toArray) pt (pi_one (tk := s.toks) I _ (turn_tuple a _) ⟨_, Heap.get?_push_size _ rfl, rfl, rfl⟩ q)
theorem begin_s {pins : List (Addr × Obj)} {σ : L2.St} {H : Hp} {s : Shared} {R : It → Hp → Prop} {x : Str} {t : Tok} (I : Inv X pins σ H s) (q : R (Its x) H) : wpAny (model X.prog X.w) X.A (pyIter (.str x t)) (PIE X pins σ tg R) X.xe s := by
  cases hx : x.cps.all (· < 128) with
  | false => exact wpAny_pyIter_wide hx (pi_one (tk := s.toks) I _ (turn_str _ x t "str_iterator" (Or.inr rfl)) ⟨_, Heap.get?_push_size _ rfl, rfl, rfl⟩ q)
  | true => exact wpAny_pyIter_ascii hx (pi_one (tk := s.toks) I _ (turn_str _ x t "str_ascii_iterator" (Or.inl rfl)) ⟨_, Heap.get?_push_size _ rfl, rfl, rfl⟩ q)
theorem di_any (h : PE X e (rdE X.K W ca)) : PI X tg e (rdI X.K W (cItA ca)) := by
  refine ⟨fun pins s σ H Q I ⟨F, G, env, k, r, sl, hc, ko, kx⟩ => ?_⟩
  refine thn (h.run pins s σ H _ I (rd_bind (f := fun (d : D) (k : Kn DI) (env : Env) (G1 : Gm) => (∃ xs, zitems d = some xs ∧ k.ok ⟨xs, fun _ => True⟩ G1) ∨ ∃ a xs, d = D.adr a ∧ G1 a = some (MO.lst xs) ∧ k.ok ⟨xs, fun G => G a = some (MO.lst xs)⟩ G1) r sl hc ko kx)) fun u s1 hq => ?_
  obtain ⟨v, H1, I1, ru, F1, G1, d, r1, s1', hd, e1, h1, ko1, kx1⟩ := hq
  rcases h1 with ⟨xs, hz, h2⟩ | ⟨a, xs, ed, hG, h2⟩
  · cases hd <;> simp only [zitems] at hz <;> first | (cases hz; done) | (cases hz; skip)
    · rename_i z
      obtain ⟨t, rfl⟩ := ru
      exact begin_s I1 (ko1 _ G1 h2 _ F1 H1 (Ex.rf F1) r1 (relI_s z))
    · rename_i a vs hh rr
      cases ru
      exact begin_t I1 (r1.ex.sq hh) (ko1 _ G1 h2 _ F1 H1 (Ex.rf F1) r1 (relI_t hh rr))
    · rename_i a vs hh rr
      cases ru
      exact begin_l I1 (r1.ex.sl (SqL.of hh)) (ko1 _ G1 h2 _ F1 H1 (Ex.rf F1) r1 (relI_l (SqL.of hh) rr))
    · rename_i a vs hh rr
      cases ru
      exact begin_l I1 (r1.ex.sl hh) (ko1 _ G1 h2 _ F1 H1 (Ex.rf F1) r1 (relI_l hh rr))
  · subst ed
    cases hd
    cases ru
    obtain ⟨_, vs, hv, rv⟩ := r1.mo _ _ hG
    exact begin_l I1 (SqL.of hv) (ko1 _ G1 h2 _ F1 H1 (Ex.rf F1) r1 relI_m)

/-! ### enumerate -/
def enumD (xs : List D) : List D := xs.zipIdx.map fun q => D.tup [.int (q.2 : Nat), q.1]
theorem enumD_len (xs : List D) : (enumD xs).length = xs.length := by simp [enumD]
theorem enumD_get {xs : List D} {i : Nat} {d : D} (h : (enumD xs)[i]? = some d) : ∃ u, xs[i]? = some u ∧ d = .tup [.int (i : Nat), u] := by
  unfold enumD at h
  rw [List.getElem?_map] at h
  cases q : (xs.zipIdx)[i]? with
  | none => rw [q] at h; cases h
  | some z =>
    rw [q] at h
    rw [List.getElem?_zipIdx] at q
    cases w : xs[i]? with
    | none => rw [w] at q; cases q
    | some u =>
      rw [w] at q
      cases q
      exact ⟨u, rfl, by simpa using (Option.some.inj h).symm⟩

/-! ### levels -/
theorem FnA.mono {P : Program} {w : World} {K : PySem.W.Frag} {mg : Str → Option Value} {base : Heap} {f : Addr} {j k : Nat} {sp : SpD} (h : FnA P w K mg base f j sp) (l : j ≤ k) : FnA P w K mg base f k sp := by
  obtain ⟨fd, ps, F, kp, b⟩ := h
  exact ⟨fd, ps, F.mono l, kp, b⟩
theorem FnG.mono {P : Program} {w : World} {K : PySem.W.Frag} {mg : Str → Option Value} {base : Heap} {x : Str} {j k : Nat} {sp : SpD} (h : FnG P w K mg base x j sp) (l : j ≤ k) : FnG P w K mg base x k sp := by
  obtain ⟨f, hm, F⟩ := h
  exact ⟨f, hm, F.mono l⟩
theorem FnM.mono {P : Program} {w : World} {K : PySem.W.Frag} {mg : Str → Option Value} {base : Heap} {cl x : Str} {j k : Nat} {sp : SpD} (h : FnM P w K mg base cl x j sp) (l : j ≤ k) : FnM P w K mg base cl x k sp := by
  obtain ⟨hc, f, hm, F⟩ := h
  exact ⟨hc, f, hm, F.mono l⟩
theorem FnC.mono {P : Program} {w : World} {K : PySem.W.Frag} {mg : Str → Option Value} {base : Heap} {x : Str} {j k : Nat} {sp : SpD} (h : FnC P w K mg base x j sp) (l : j ≤ k) : FnC P w K mg base x k sp := by
  obtain ⟨hm, f, M, F⟩ := h
  exact ⟨hm, f, M, F.mono l⟩

/-! ### a comprehension's list, mutable -/
def cLcM (ci : CI) (g : CG) (t : CT) (ce : CE) (vs : List Nat) : CE := fun k env G => ci ⟨fun it G1 => it.items.length ≤ 16777216 ∧ ∀ p, G1 p = none → ∃ P : Nat → List D → Gm → Prop, P 0 [] (ug G1 p (.lst [])) ∧
  (∀ i acc G', i ≤ it.items.length → P i acc G' → it.keep G' ∧ acc.length ≤ i) ∧
  (∀ i d acc G', it.items[i]? = some d → P i acc G' → g d (fun env2 G2 => t ⟨fun b G3 => (b = true → ce ⟨fun y G4 => G4 p = some (.lst acc) ∧ P (i + 1) (acc ++ [y]) (ug G4 p (.lst (acc ++ [y]))), fun _ _ => False⟩ env2 G3) ∧ (b = false → P (i + 1) acc G3), fun _ _ => False⟩ env2 G2) (wipeD env vs) G') ∧
  (∀ acc G', P it.items.length acc G' → G' p = some (.lst acc) ∧ k.ok (.adr p) G'), k.ex⟩ env G
theorem rd_lcM {J : List Nat} {ci : CI} {g : CG} {t : CT} {K : PySem.W.Frag} {σ : L2.St} {H : Hp} {Q : VK} (h : rdE K W (cLcM ci g t ce J) σ H Q) : tLc (rdI K W ci) (rdG K J g) (rdT K W0 t) (rdE K W0 ce) J σ H Q := by
  obtain ⟨F, G, env, k, r, s, hc, ko, kx⟩ := h
  refine rd_mono (rd_bind (f := fun (it : DI) (k : Kn D) (env : Env) (G1 : Gm) => it.items.length ≤ 16777216 ∧ ∀ p, G1 p = none → ∃ P : Nat → List D → Gm → Prop, P 0 [] (ug G1 p (.lst [])) ∧
    (∀ i acc G', i ≤ it.items.length → P i acc G' → it.keep G' ∧ acc.length ≤ i) ∧
    (∀ i d acc G', it.items[i]? = some d → P i acc G' → g d (fun env2 G2 => t ⟨fun b G3 => (b = true → ce ⟨fun y G4 => G4 p = some (.lst acc) ∧ P (i + 1) (acc ++ [y]) (ug G4 p (.lst (acc ++ [y]))), fun _ _ => False⟩ env2 G3) ∧ (b = false → P (i + 1) acc G3), fun _ _ => False⟩ env2 G2) (wipeD env J) G') ∧
    (∀ acc G', P it.items.length acc G' → G' p = some (.lst acc) ∧ k.ok (.adr p) G')) r s hc ko kx) fun J0 H1 ⟨F1, G1, it, r1, s1, hrel, e1, ⟨hz, hp⟩, ko1, kx1⟩ => ?_
  intro p hpN
  obtain ⟨P, h0, hk, hs, hd⟩ := hp p (r1.freeG hpN)
  have hF1 : F1 p = none := r1.freeF hpN
  refine ⟨fun i m H' => i ≤ it.items.length ∧ m = it.items.length - i ∧ ∃ F2 G2 acc, Ex F1 F2 ∧ RG K F2 G2 H' ∧ P i acc G2, ⟨_, Nat.zero_le _, rfl, F1, _, [], Ex.rf F1, r1.lay2 (m := .lst []) hpN ⟨hF1, [], upd_same, .nil⟩, h0⟩, ?_⟩
  rintro i m H' ⟨hi, hm, F2, G2, acc, e2, r2, hP⟩
  obtain ⟨hkeep, hal⟩ := hk i acc G2 hi hP
  by_cases hlt : i < it.items.length
  · refine Or.inr ⟨hrel.go i F2 G2 H' e2 r2 hkeep hlt, fun H3 => ∃ F3 G3 acc3, Ex F1 F3 ∧ RG K F3 G3 H3 ∧ P (i + 1) acc3 G3, ?_, ?_⟩
    · rintro H3 ⟨F3, G3, acc3, e3, r3, hP3⟩
      exact ⟨it.items.length - (i + 1), by omega, hlt, rfl, F3, G3, acc3, e3, r3, hP3⟩
    · intro y H3 hy
      obtain ⟨F3, e3, r3, hy3⟩ := hrel.yld i it.items[i] F2 G2 H' y H3 e2 r2 hkeep (List.getElem?_eq_getElem hlt) hy
      have s3 : Sl K F3 (wipe σ J) (wipeD env J) := ((s1.mono e2).mono e3).wipe J
      refine ⟨F3, G2, wipeD env J, it.items[i], _, r3, s3, hy3, hs i it.items[i] acc G2 (List.getElem?_eq_getElem hlt) hP, ?_⟩
      intro env4 G4 hq σ4 F4 H4 w4 e4 r4 s4
      refine ⟨by rw [w4]; exact rd_lc.wipe_wipe σ J, ?_⟩
      refine ⟨F4, G4, env4, _, r4, s4, hq, fun bb G5 hb v F5 H5 e5 r5 hv => ?_, fun x G z => z.elim⟩
      have hvb : v = bb := hv
      rw [hvb]
      obtain ⟨hbt, hbf⟩ := hb
      cases bb with
      | false =>
        refine iteF ?_
        exact ⟨F5, G5, acc, ((e2.tr e3).tr e4).tr e5, r5, hbf rfl⟩
      | true =>
        refine iteT ?_
        refine ⟨F5, G5, env4, _, r5, s4.mono e5, hbt rfl, fun d6 G6 hd6 v6 F6 H6 e6 r6 hv6 => ?_, fun x G z => z.elim⟩
        obtain ⟨hG6, hP6⟩ := hd6
        obtain ⟨hF6, vs6, hv7, rv7⟩ := r6.mo _ _ hG6
        refine ⟨vs6, hv7, by rw [rv7.len]; exact Nat.lt_of_lt_of_le (Nat.lt_of_le_of_lt hal hlt) (szk hz), ?_⟩
        exact ⟨F6, _, acc ++ [d6], (((e2.tr e3).tr e4).tr e5).tr e6, r6.chg (m := .lst (acc ++ [d6])) hF6 ⟨hF6, _, upd_same, rv7.app (.cons hv6 .nil)⟩, hP6⟩
  · have hle : it.items.length ≤ i := by omega
    have hie : i = it.items.length := by omega
    refine Or.inl ⟨hrel.stop i F2 G2 H' e2 r2 hkeep hle hi, ?_⟩
    subst hie
    obtain ⟨hG, hok⟩ := hd acc G2 hP
    exact ko1 _ _ hok _ F2 _ e2 r2 (.adr p)
theorem de_lcM {ci : CI} {g : CG} {t : CT} {scope : Scope} {own : List (Str × Nat)} (hc : X.calm = true) (hN : X.N.Nodup) (hi : PI X tg e (rdI X.K W ci)) (ok : BlkOk X.N X.env.scope scope own)
    (hg : ∀ (s : Shared) (H : Hp) (C : Addr) (cl : List (Str × Addr)) (fp : List Addr), PG (X.blk s H scope (compEnvC scope cl C X.env) fp) tg (rdG X.K (own.map (·.2)) g)) (ht : ∀ (s : Shared) (H : Hp) (C : Addr) (cl : List (Str × Addr)) (fp : List Addr), PTs (X.blk s H scope (compEnvC scope cl C X.env) fp) ifs (rdT X.K W0 t))
    (he : ∀ (s : Shared) (H : Hp) (C : Addr) (cl : List (Str × Addr)) (fp : List Addr), PE (X.blk s H scope (compEnvC scope cl C X.env) fp) elt (rdE X.K W0 ce)) (hs : ∀ x, foldedSetIterable e X.env x = pure x := by intro _; rfl) :
    PE X (.ListComp elt [⟨tg, e, ifs, 0⟩] scope pos) (rdE X.K W (cLcM ci g t ce (own.map (·.2)))) :=
  PE.conv (pe_lc hc hN hi ok hg ht he hs) fun _ _ _ h => rd_lcM h
theorem ds_setLcM {i : Nat} {py spos : Pos} {ci : CI} {g : CG} {t : CT} {scope : Scope} {own : List (Str × Nat)} (hc : X.calm = true) (hN : X.N.Nodup) (hi : PI X tg e (rdI X.K W ci)) (ok : BlkOk X.N X.env.scope scope own)
    (hg : ∀ (s : Shared) (H : Hp) (C : Addr) (cl : List (Str × Addr)) (fp : List Addr), PG (X.blk s H scope (compEnvC scope cl C X.env) fp) tg (rdG X.K (own.map (·.2)) g)) (ht : ∀ (s : Shared) (H : Hp) (C : Addr) (cl : List (Str × Addr)) (fp : List Addr), PTs (X.blk s H scope (compEnvC scope cl C X.env) fp) ifs (rdT X.K W0 t))
    (he : ∀ (s : Shared) (H : Hp) (C : Addr) (cl : List (Str × Addr)) (fp : List Addr), PE (X.blk s H scope (compEnvC scope cl C X.env) fp) elt (rdE X.K W0 ce)) (hy : X.N[i]? = some x := by rfl) (hyl : X.env.scope.names.lookup x = some .local := by rfl)
    (hsw : swapsWith (.ListComp elt [⟨tg, e, ifs, 0⟩] scope pos) (some (.Name x py)) spos.line X.env = pure true := by exact sw_true rfl rfl rfl (by decide +kernel)) (hs : ∀ x, foldedSetIterable e X.env x = pure x := by intro _; rfl) :
    PS X (.Assign [.Name x py] (.ListComp elt [⟨tg, e, ifs, 0⟩] scope pos) spos) (rdS X.K W (cSet i (cLcM ci g t ce (own.map (·.2))))) :=
  PS.conv (ps_setLc hc hN hy hyl hsw hi ok hg ht he hs) fun Ds σ H ⟨F, G, env, E, r, s, h, so⟩ =>
    rd_lcM (rd_mono (rds_bind (f := fun d E env G1 => E.nx (env.set i (some d)) G1) r s h so) fun v H1 ⟨F1, G1, d, r1, s1, hd, e1, h1, so1⟩ => so1.nx _ G1 h1 _ F1 H1 (Ex.rf F1) r1 (s1.put hd i))
end Dl
set_option maxHeartbeats 4000000
/-! DL12: help for the plain part: codes told as what they ask; loops. -/
namespace Dl
open PySem PySem.Spec PyProof.Rows L2
/-- a test's two ways -/
def Bf (c : Bool) (A B : Prop) : Prop := (c = true → A) ∧ (c = false → B)
section
variable {A B : Prop} {c d : Bool} {p : Prop} [Decidable p]
theorem Bf.mk (h : c = true → A) (h2 : c = false → B) : Bf c A B := ⟨h, h2⟩
theorem Bf.dec (h : p → A) (h2 : ¬ p → B) : Bf (decide p) A B := ⟨fun e => h (of_decide_eq_true e), fun e => h2 (of_decide_eq_false e)⟩
@[simp] theorem Bf_t : Bf true A B = A := propext ⟨fun h => h.1 rfl, fun h => ⟨fun _ => h, fun z => nomatch z⟩⟩
@[simp] theorem Bf_f : Bf false A B = B := propext ⟨fun h => h.2 rfl, fun h => ⟨fun z => (nomatch z), fun _ => h⟩⟩
@[simp] theorem Bf_n : Bf (!c) A B = Bf c B A := by cases c <;> simp
@[simp] theorem Bf_dt {A B : Prop} : Bf (decide True) A B = A := Bf_t
@[simp] theorem Bf_df {A B : Prop} : Bf (decide False) A B = B := Bf_f
def asB (d : D) (P : Bool → Prop) : Prop := ∃ b, d = .bl b ∧ P b
def asI (d : D) (P : Int → Prop) : Prop := ∃ b, d = .int b ∧ P b
def asO (d : Option (Option D)) (P : D → Prop) : Prop := ∃ b, d = some (some b) ∧ P b
@[simp] theorem asB_e {b : Bool} {P : Bool → Prop} : asB (.bl b) P = P b := propext ⟨fun ⟨_, e, h⟩ => by cases e; exact h, fun h => ⟨_, rfl, h⟩⟩
@[simp] theorem asI_e {b : Int} {P : Int → Prop} : asI (.int b) P = P b := propext ⟨fun ⟨_, e, h⟩ => by cases e; exact h, fun h => ⟨_, rfl, h⟩⟩
@[simp] theorem asO_e {b : D} {P : D → Prop} : asO (some (some b)) P = P b := propext ⟨fun ⟨_, e, h⟩ => by cases e; exact h, fun h => ⟨_, rfl, h⟩⟩
def asS {α : Type} (d : Option α) (P : α → Prop) : Prop := ∃ b, d = some b ∧ P b
def as2 (ds : List D) (P : D → D → Prop) : Prop := ∃ u v, ds = [u, v] ∧ P u v
def as1 (ds : List D) (P : D → Prop) : Prop := ∃ u, ds = [u] ∧ P u
@[simp] theorem asS_e {α : Type} {b : α} {P : α → Prop} : asS (some b) P = P b := propext ⟨fun ⟨_, e, h⟩ => by cases e; exact h, fun h => ⟨_, rfl, h⟩⟩
@[simp] theorem as2_e {u v : D} {P : D → D → Prop} : as2 [u, v] P = P u v := propext ⟨fun ⟨_, _, e, h⟩ => by cases e; exact h, fun h => ⟨_, _, rfl, h⟩⟩
@[simp] theorem as1_e {u : D} {P : D → Prop} : as1 [u] P = P u := propext ⟨fun ⟨_, e, h⟩ => by cases e; exact h, fun h => ⟨_, rfl, h⟩⟩
def noF (o : Option (Str × List (Str × D))) (cl m : Str) : Prop := ∃ fs, o = some (cl, fs) ∧ fs.lookup m = none
def atF (o : Option (Str × List (Str × D))) (cl f : Str) (P : D → Prop) : Prop := ∃ fs y, o = some (cl, fs) ∧ fs.lookup f = some y ∧ P y
@[simp] theorem noF_e {cl m : Str} {fs : List (Str × D)} : noF (some (cl, fs)) cl m = (fs.lookup m = none) := propext ⟨fun ⟨_, e, h⟩ => by cases e; exact h, fun h => ⟨_, rfl, h⟩⟩
@[simp] theorem atF_e {cl m : Str} {fs : List (Str × D)} {P : D → Prop} : atF (some (cl, fs)) cl m P = asS (fs.lookup m) P := propext ⟨fun ⟨_, y, e, h⟩ => by cases e; exact ⟨y, h⟩, fun ⟨y, h⟩ => ⟨_, y, rfl, h⟩⟩
theorem Bf.same (h : A) : Bf c A A := ⟨fun _ => h, fun _ => h⟩
end
section
variable {k : Kn D} {kb : Kn Bool} {ka : Kn (List D)} {ki : Kn DI} {ko : Kn (Option Int)} {E : En} {env : Env} {G : Gm} {q : D → Gm → Prop} {d : D} {ca cb cc : CE} {cr : CA} {ta tb : CT} {c1 c2 : CS} {i j : Nat} {co co2 : CO}
@[simp] theorem x_var : cVar i k env G = asO env[i]? fun d => k.ok d G := Eq.trans rfl rfl
@[simp] theorem x_c : cC d k env G = k.ok d G := Eq.trans rfl rfl
@[simp] theorem x_op {r : DOp} : cOp r ca cb k env G = ca ⟨fun x G1 => cb ⟨fun y G2 => r x y k.ok G2, k.ex⟩ env G1, k.ex⟩ env G := Eq.trans rfl rfl
@[simp] theorem x_B : cB ca kb env G = ca ⟨fun d G1 => asB d fun b => kb.ok b G1, kb.ex⟩ env G := Eq.trans rfl rfl
@[simp] theorem x_U {r : D → (D → Gm → Prop) → Gm → Prop} : cU r ca k env G = ca ⟨fun x G1 => r x k.ok G1, k.ex⟩ env G := Eq.trans rfl rfl
@[simp] theorem x_andV : cAndV ca cb k env G = ca ⟨fun x G1 => asB x fun c => Bf c (cb k env G1) (k.ok (.bl false) G1), k.ex⟩ env G := Eq.trans rfl rfl
@[simp] theorem x_orV : cOrV ca cb k env G = ca ⟨fun x G1 => asB x fun c => Bf c (k.ok (.bl true) G1) (cb k env G1), k.ex⟩ env G := Eq.trans rfl rfl
@[simp] theorem x_notV : cNotV ca k env G = ca ⟨fun x G1 => asB x fun c => k.ok (.bl (!c)) G1, k.ex⟩ env G := Eq.trans rfl rfl
@[simp] theorem x_and : cAnd ta tb kb env G = ta ⟨fun c G1 => Bf c (tb kb env G1) (kb.ok false G1), kb.ex⟩ env G := Eq.trans rfl rfl
@[simp] theorem x_or : cOr ta tb kb env G = ta ⟨fun c G1 => Bf c (kb.ok true G1) (tb kb env G1), kb.ex⟩ env G := Eq.trans rfl rfl
@[simp] theorem x_not : cNot ta kb env G = ta ⟨fun c G1 => kb.ok (!c) G1, kb.ex⟩ env G := Eq.trans rfl rfl
@[simp] theorem x_if : cIf ta ca cb k env G = ta ⟨fun c G1 => Bf c (ca k env G1) (cb k env G1), k.ex⟩ env G := Eq.trans rfl rfl
@[simp] theorem x_chain {r r' : DOp} : cChain r r' ca cb cc k env G = ca ⟨fun x G1 => cb ⟨fun y G2 => r x y (fun z G3 => asB z fun c => Bf c (cc ⟨fun u G4 => r' y u k.ok G4, k.ex⟩ env G3) (k.ok (.bl false) G3)) G2, k.ex⟩ env G1, k.ex⟩ env G := Eq.trans rfl rfl
@[simp] theorem x_nil : cNil ka env G = ka.ok [] G := Eq.trans rfl rfl
@[simp] theorem x_cons : cCons ca cr ka env G = ca ⟨fun x G1 => cr ⟨fun xs G2 => ka.ok (x :: xs) G2, ka.ex⟩ env G1, ka.ex⟩ env G := Eq.trans rfl rfl
@[simp] theorem x_tup : cTup cr k env G = cr ⟨fun xs G1 => xs.length ≤ 16777216 ∧ k.ok (.tup xs) G1, k.ex⟩ env G := Eq.trans rfl rfl
@[simp] theorem x_lst : cLst cr k env G = cr ⟨fun xs G1 => xs.length ≤ 16777216 ∧ k.ok (.lst xs) G1, k.ex⟩ env G := Eq.trans rfl rfl
@[simp] theorem x_lstM : cLstM cr k env G = cr ⟨fun xs G1 => xs.length ≤ 16777216 ∧ ∀ p, G1 p = none → k.ok (.adr p) (ug G1 p (.lst xs)), k.ex⟩ env G := Eq.trans rfl rfl
@[simp] theorem x_noP : cNoP ko env G = ko.ok none G := Eq.trans rfl rfl
@[simp] theorem x_P : cP ca ko env G = ca ⟨fun d G1 => asI d fun i => ko.ok (some i) G1, ko.ex⟩ env G := Eq.trans rfl rfl
@[simp] theorem x_sl {f : DSl} : cSl f ca co co2 k env G = ca ⟨fun x G1 => co ⟨fun lo G2 => co2 ⟨fun hi G3 => f x lo hi k.ok G3, k.ex⟩ env G2, k.ex⟩ env G1, k.ex⟩ env G := Eq.trans rfl rfl
@[simp] theorem x_CB {f : DC} : cCB f cr k env G = cr ⟨fun ds G1 => f ds k.ok G1, k.ex⟩ env G := Eq.trans rfl rfl
@[simp] theorem x_fld {cl f : Str} : cFld cl f ca k env G = ca ⟨fun d G1 => atF (insOf d G1) cl f fun y => k.ok y G1, k.ex⟩ env G := Eq.trans rfl rfl
@[simp] theorem x_call {sp : SpD} : cCall sp cr k env G = cr ⟨fun ds G1 => sp ds G1 k, k.ex⟩ env G := Eq.trans rfl rfl
@[simp] theorem x_meth {cl m : Str} {sp : SpD} : cMeth cl m sp ca cr k env G = ca ⟨fun o G1 => noF (insOf o G1) cl m ∧ cr ⟨fun ds G2 => sp (o :: ds) G2 k, k.ex⟩ env G1, k.ex⟩ env G := Eq.trans rfl rfl
@[simp] theorem x_make {cl : Str} {sp : SpD} : cMake cl sp cr k env G = cr ⟨fun ds G1 => ∀ a, G1 a = none → sp (.adr a :: ds) (ug G1 a (.ins cl [])) ⟨fun d G2 => d = .non ∧ k.ok (.adr a) G2, k.ex⟩, k.ex⟩ env G := Eq.trans rfl rfl
@[simp] theorem x_frz : cFrz ca k env G = ca ⟨fun d G1 => ∃ a, d = .adr a ∧ ((∃ xs, G1 a = some (.lst xs) ∧ k.ok (.lst xs) (dg G1 a)) ∨ (∃ cl fs, G1 a = some (.ins cl fs) ∧ k.ok (.ins cl fs) (dg G1 a)) ∨ (∃ kv, G1 a = some (.dk kv) ∧ k.ok (.dk kv) (dg G1 a)) ∨ (∃ kv, G1 a = some (.dt kv) ∧ k.ok (.dt kv) (dg G1 a))), k.ex⟩ env G := Eq.trans rfl rfl
@[simp] theorem x_isi {n : String} : cIsi n ca k env G = ca ⟨fun d G1 => ∃ T, tyN d G1 = some T ∧ k.ok (.bl (subT T n)) G1, k.ex⟩ env G := Eq.trans rfl rfl
@[simp] theorem x_isi2 {n n2 : String} : cIsi2 n n2 ca k env G = ca ⟨fun d G1 => ∃ T, tyN d G1 = some T ∧ k.ok (.bl (subT T n || subT T n2)) G1, k.ex⟩ env G := Eq.trans rfl rfl
@[simp] theorem x_BM {T : String} {f : DM} : cBM T f ca cr k env G = ca ⟨fun d G1 => isT T d G1 ∧ cr ⟨fun ds G2 => f d ds k.ok G2, k.ex⟩ env G1, k.ex⟩ env G := Eq.trans rfl rfl
@[simp] theorem x_next : cNext E env G = E.nx env G := Eq.trans rfl rfl
@[simp] theorem x_seq : cSeq c1 c2 E env G = c1 { E with nx := fun env1 G1 => c2 E env1 G1 } env G := Eq.trans rfl rfl
@[simp] theorem x_break : cBreak E env G = E.bk env G := Eq.trans rfl rfl
@[simp] theorem x_cont : cCont E env G = E.ct env G := Eq.trans rfl rfl
@[simp] theorem x_drop : cDrop ca E env G = ca ⟨fun _ G1 => E.nx env G1, fun x G1 => E.ex x env G1⟩ env G := Eq.trans rfl rfl
@[simp] theorem x_ret : cRet ca E env G = ca ⟨fun d G1 => E.rt d G1, fun x G1 => E.ex x env G1⟩ env G := Eq.trans rfl rfl
@[simp] theorem x_retN : cRetN E env G = E.rt .non G := Eq.trans rfl rfl
@[simp] theorem x_ifS : cIfS ta c1 c2 E env G = ta ⟨fun b G1 => Bf b (c1 E env G1) (c2 E env G1), fun x G1 => E.ex x env G1⟩ env G := Eq.trans rfl rfl
@[simp] theorem x_set : cSet i ca E env G = ca ⟨fun d G1 => E.nx (env.set i (some d)) G1, fun x G1 => E.ex x env G1⟩ env G := Eq.trans rfl rfl
@[simp] theorem x_asg {g : CG} : cAsg ca g E env G = ca ⟨fun d G1 => g d E.nx env G1, fun x G1 => E.ex x env G1⟩ env G := Eq.trans rfl rfl
@[simp] theorem x_par : cPar i j cr E env G = cr ⟨fun ds G1 => as2 ds fun d d2 => E.nx ((env.set i (some d)).set j (some d2)) G1, fun x G1 => E.ex x env G1⟩ env G := Eq.trans rfl rfl
@[simp] theorem x_fldS {cl f : Str} : cFldS cl f ca cb E env G = cb ⟨fun d G1 => ca ⟨fun o G2 => ∃ a fs, o = .adr a ∧ G2 a = some (.ins cl fs) ∧ fs.length < 1000 ∧ E.nx env (ug G2 a (.ins cl (pf f d fs))), fun x G2 => E.ex x env G2⟩ env G1, fun x G1 => E.ex x env G1⟩ env G := Eq.trans rfl rfl
@[simp] theorem x_raise {x : Str} : cRaise x E env G = E.ex ⟨x, []⟩ env G := Eq.trans rfl rfl
@[simp] theorem x_try {l : List Str} {sub : Str → Str → Bool} {hs : List (Str × CS)} : cTry l sub c1 hs E env G = c1 { E with ex := fun x env1 G1 => x.c ∈ l ∧ hdl sub E x env1 G1 hs } env G := Eq.trans rfl rfl
@[simp] theorem x_hdl0 {sub : Str → Str → Bool} {x : XD} : hdl sub E x env G [] = E.ex x env G := Eq.trans rfl rfl
@[simp] theorem x_hdl1 {sub : Str → Str → Bool} {x : XD} {c : Str} {s : CS} {r : List (Str × CS)} : hdl sub E x env G ((c, s) :: r) = Bf (sub x.c c) (s { E with ex := fun _ _ _ => False } env G) (hdl sub E x env G r) := Eq.trans rfl rfl
@[simp] theorem x_gNm {qg : Env → Gm → Prop} : gNm i d qg env G = qg (env.set i (some d)) G := Eq.trans rfl rfl
@[simp] theorem x_gNil {qg : Env → Gm → Prop} {ds : List D} : gNilD ds qg env G = (ds = [] ∧ qg env G) := Eq.trans rfl rfl
@[simp] theorem x_gCons {qg : Env → Gm → Prop} {ds : List D} {g : CG} {gs : CGs} : gConsD g gs (d :: ds) qg env G = g d (fun env1 G1 => gs ds qg env1 G1) env G := by
  unfold gConsD
  apply propext
  exact ⟨fun ⟨a, r, e, h⟩ => by cases e; exact h, fun h => ⟨_, _, rfl, h⟩⟩
@[simp] theorem x_gTup {qg : Env → Gm → Prop} {ds : List D} {gs : CGs} : gTupD i gs (.tup ds) qg env G = (ds.length = i ∧ gs ds qg env G) := by
  simp [gTupD]
@[simp] theorem x_gSub {qg : Env → Gm → Prop} : gSubD ca cb d qg env G = ca ⟨fun o G1 => cb ⟨fun i G2 => ∃ a xs k j, o = .adr a ∧ i = .int k ∧ G2 a = some (.lst xs) ∧ ixN xs.length k = some j ∧ qg env (ug G2 a (.lst (xs.set j d))), fun _ _ => False⟩ env G1, fun _ _ => False⟩ env G := Eq.trans rfl rfl
@[simp] theorem x_yes : cYes kb env G = kb.ok true G := Eq.trans rfl rfl
@[simp] theorem x_itL : cItA ca ki env G = ca ⟨fun d G1 => (∃ xs, zitems d = some xs ∧ ki.ok ⟨xs, fun _ => True⟩ G1) ∨ ∃ a xs, d = .adr a ∧ G1 a = some (.lst xs) ∧ ki.ok ⟨xs, fun G => G a = some (.lst xs)⟩ G1, ki.ex⟩ env G := Eq.trans rfl rfl
@[simp] theorem x_itR1 : cItR1 cr ki env G = cr ⟨fun ds G1 => as1 ds fun u => asI u fun j => smallI j ∧ ki.ok ⟨rngD 0 j.toNat, fun _ => True⟩ G1, ki.ex⟩ env G := by
  show cr _ env G = cr _ env G
  congr 2
  funext ds G1
  exact propext ⟨fun ⟨j, e, h⟩ => ⟨_, e, j, rfl, h⟩, fun ⟨u, e, j, e2, h⟩ => ⟨j, by rw [e, e2], h⟩⟩
@[simp] theorem x_itR2 : cItR2 cr ki env G = cr ⟨fun ds G1 => as2 ds fun u v => asI u fun i => asI v fun j => smallI i ∧ smallI j ∧ ki.ok ⟨rngD i (j - i).toNat, fun _ => True⟩ G1, ki.ex⟩ env G := by
  show cr _ env G = cr _ env G
  congr 2
  funext ds G1
  exact propext ⟨fun ⟨i, j, e, h⟩ => ⟨_, _, e, i, rfl, j, rfl, h⟩, fun ⟨u, v, e, i, e2, j, e3, h⟩ => ⟨i, j, by rw [e, e2, e3], h⟩⟩
@[simp] theorem x_itZ : cItZK cr ki env G = cr ⟨fun ds G1 => as2 ds fun u v => asS (zitems u) fun xs => asS (zitems v) fun ys => ki.ok ⟨zipD xs ys, fun _ => True⟩ G1, ki.ex⟩ env G := by
  show cr _ env G = cr _ env G
  congr 2
  funext ds G1
  exact propext ⟨fun ⟨u, v, xs, ys, e, h1, h2, h⟩ => ⟨u, v, e, xs, h1, ys, h2, h⟩, fun ⟨u, v, e, xs, h1, ys, h2, h⟩ => ⟨u, v, xs, ys, e, h1, h2, h⟩⟩
@[simp] theorem x_enOf_nx : (enOf k).nx env G = rW k .non G := Eq.trans rfl rfl
@[simp] theorem x_enOf_rt : (enOf k).rt d G = rW k d G := Eq.trans rfl rfl
@[simp] theorem x_enOf_bk : (enOf k).bk env G = False := Eq.trans rfl rfl
@[simp] theorem x_enOf_ct : (enOf k).ct env G = False := Eq.trans rfl rfl
@[simp] theorem x_enOf_ex {x : XD} : (enOf k).ex x env G = xW k x G := Eq.trans rfl rfl
/-! operators on trees -/
variable {a b : Int} {s t : List Nat} {xs ys : List D} {p r : Addr} {o o' : MO} {lo hi : Option Int}
@[simp] theorem x_add_i : addD (.int a) (.int b) q G = q (.int (a + b)) G := Eq.trans rfl rfl
@[simp] theorem x_add_s : addD (.str s) (.str t) q G = (s.length + t.length ≤ 16777216 ∧ q (.str (s ++ t)) G) := Eq.trans rfl rfl
@[simp] theorem x_add_t : addD (.tup xs) (.tup ys) q G = (xs.length + ys.length ≤ 16777216 ∧ q (.tup (xs ++ ys)) G) := Eq.trans rfl rfl
@[simp] theorem x_add_l : addD (.lst xs) (.lst ys) q G = (xs.length + ys.length ≤ 16777216 ∧ q (.lst (xs ++ ys)) G) := by
  simp [addD, catOf]
@[simp] theorem x_catM : catM (.lst xs) (.lst ys) q G = (xs.length + ys.length ≤ 16777216 ∧ ∀ p, G p = none → q (.adr p) (ug G p (.lst (xs ++ ys)))) := by
  simp [catM, catOf]
@[simp] theorem x_int {C : Int → Int → Prop} {f : Int → Int → Int} : intD C f (.int a) (.int b) q G = (C a b ∧ q (.int (f a b)) G) := Eq.trans rfl rfl
@[simp] theorem x_mul_i : mulD (.int a) (.int b) q G = (((-(2 ^ 64) < a ∧ a < 2 ^ 64) ∨ (-(2 ^ 64) < b ∧ b < 2 ^ 64)) ∧ q (.int (a * b)) G) := Eq.trans rfl rfl
@[simp] theorem x_mul_s : mulD (.str s) (.int b) q G = (0 ≤ b ∧ b ≤ 16777216 ∧ s.length * b.toNat ≤ 16777216 ∧ q (.str (List.replicate b.toNat s).flatten) G) := Eq.trans rfl rfl
@[simp] theorem x_mul_l : mulD (.lst xs) (.int b) q G = (0 ≤ b ∧ b ≤ 16777216 ∧ xs.length * b.toNat ≤ 16777216 ∧ q (.lst (List.replicate b.toNat xs).flatten) G) := Eq.trans rfl rfl
@[simp] theorem x_neg : negD (.int a) q G = q (.int (-a)) G := Eq.trans rfl rfl
@[simp] theorem x_eq_i : eqD (.int a) (.int b) q G = q (.bl (decide (a = b))) G := Eq.trans rfl rfl
@[simp] theorem x_eq_s : eqD (.str s) (.str t) q G = q (.bl (decide (s = t))) G := Eq.trans rfl rfl
@[simp] theorem x_ne_i : neD (.int a) (.int b) q G = q (.bl (!decide (a = b))) G := Eq.trans rfl rfl
@[simp] theorem x_ne_s : neD (.str s) (.str t) q G = q (.bl (!decide (s = t))) G := Eq.trans rfl rfl
@[simp] theorem x_eq_b {u v : Bool} : eqD (.bl u) (.bl v) q G = q (.bl (u == v)) G := by
  simp [eqD, dok, deq]
@[simp] theorem x_ne_b {u v : Bool} : neD (.bl u) (.bl v) q G = q (.bl (!(u == v))) G := by
  simp [neD, dok, deq]
@[simp] theorem x_le_i : leD (.int a) (.int b) q G = q (.bl (decide (a ≤ b))) G := Eq.trans rfl rfl
@[simp] theorem x_le_s : leD (.str s) (.str t) q G = q (.bl (!decide (t < s))) G := Eq.trans rfl rfl
@[simp] theorem x_lt_i : ltD (.int a) (.int b) q G = q (.bl (decide (a < b))) G := Eq.trans rfl rfl
@[simp] theorem x_gt_i : gtD (.int a) (.int b) q G = q (.bl (decide (b < a))) G := Eq.trans rfl rfl
@[simp] theorem x_ge_i : geD (.int a) (.int b) q G = q (.bl (decide (b ≤ a))) G := Eq.trans rfl rfl
@[simp] theorem x_is : isD d .non q G = q (.bl (isNon d)) G := by simp [isD]
@[simp] theorem x_isnt : isntD d .non q G = q (.bl (!isNon d)) G := by simp [isntD]
@[simp] theorem x_isNon1 : isNon .non = true := Eq.trans rfl rfl
@[simp] theorem x_isNon2 : isNon (.str s) = false := Eq.trans rfl rfl
@[simp] theorem x_isNon3 : isNon (.int a) = false := Eq.trans rfl rfl
@[simp] theorem x_isNon4 : isNon (.tup xs) = false := Eq.trans rfl rfl
@[simp] theorem x_isNon5 : isNon (.lst xs) = false := Eq.trans rfl rfl
@[simp] theorem x_in_s {neg : Bool} {u : D} : inD neg u (.str t) q G = ∃ c, u = .str [c] ∧ q (.bl (if neg then !decide (c ∈ t) else decide (c ∈ t))) G := Eq.trans rfl rfl
@[simp] theorem x_ix_t : ixD (.tup xs) (.int a) q G = ∃ d, atI xs a = some d ∧ q d G := Eq.trans rfl rfl
@[simp] theorem x_ix_l : ixD (.lst xs) (.int a) q G = ∃ d, atI xs a = some d ∧ q d G := Eq.trans rfl rfl
@[simp] theorem x_ix_a : ixD (.adr p) (.int a) q G = ∃ xs, G p = some (.lst xs) ∧ ∃ d, atI xs a = some d ∧ q d G := Eq.trans rfl rfl
@[simp] theorem x_ix_s : ixD (.str s) (.int a) q G = (s.length ≤ 16777216 ∧ ∃ c, atI s a = some c ∧ q (.str [c]) G) := Eq.trans rfl rfl
@[simp] theorem x_sl_s : slD (.str s) lo hi q G = (s.length ≤ 16777216 ∧ q (.str (cutL s lo hi)) G) := Eq.trans rfl rfl
@[simp] theorem x_sl_t : slD (.tup xs) lo hi q G = q (.tup (cutL xs lo hi)) G := Eq.trans rfl rfl
@[simp] theorem x_sl_l : slD (.lst xs) lo hi q G = q (.lst (cutL xs lo hi)) G := Eq.trans rfl rfl
@[simp] theorem x_sl_q : slD (.seq xs) lo hi q G = q (.lst (cutL xs lo hi)) G := Eq.trans rfl rfl
@[simp] theorem x_sl_a : slD (.adr p) lo hi q G = ∃ xs, G p = some (.lst xs) ∧ q (.lst (cutL xs lo hi)) G := Eq.trans rfl rfl
@[simp] theorem x_slM_a : slM (.adr p) lo hi q G = ∃ xs, G p = some (.lst xs) ∧ ∀ r, G r = none → q (.adr r) (ug G r (.lst (cutL xs lo hi))) := Eq.trans rfl rfl
@[simp] theorem x_slM_l : slM (.lst xs) lo hi q G = ∀ p, G p = none → q (.adr p) (ug G p (.lst (cutL xs lo hi))) := Eq.trans rfl rfl
@[simp] theorem x_len_s : lenD [.str s] q G = (s.length ≤ 16777216 ∧ q (.int s.length) G) := Eq.trans rfl rfl
@[simp] theorem x_len_t : lenD [.tup xs] q G = q (.int xs.length) G := Eq.trans rfl rfl
@[simp] theorem x_len_l : lenD [.lst xs] q G = q (.int xs.length) G := Eq.trans rfl rfl
@[simp] theorem x_len_a : lenD [.adr p] q G = ∃ ys, G p = some (.lst ys) ∧ q (.int ys.length) G := Eq.trans rfl rfl
@[simp] theorem x_listD : listD [d] q G = ∃ ys, itemsOf d G = some ys ∧ q (.lst ys) G := by simp [listD]
@[simp] theorem x_listM : listM [d] q G = ∃ ys, itemsOf d G = some ys ∧ ∀ p, G p = none → q (.adr p) (ug G p (.lst ys)) := by simp [listM]
@[simp] theorem x_tupleD : tupleD [d] q G = ∃ ys, itemsOf d G = some ys ∧ q (.tup ys) G := by simp [tupleD]
@[simp] theorem x_min2 : min2 [.int a, .int b] q G = q (.int (if b < a then b else a)) G := Eq.trans rfl rfl
@[simp] theorem x_max2 : max2 [.int a, .int b] q G = q (.int (if b > a then b else a)) G := Eq.trans rfl rfl
@[simp] theorem x_intC_i : intC [.int a] q G = q (.int a) G := by simp [intC]
@[simp] theorem x_intC_b {u : Bool} : intC [.bl u] q G = q (.int (if u then 1 else 0)) G := by simp [intC]
@[simp] theorem x_intC_s : intC [.str s] q G = (s ≠ [] ∧ s.length ≤ 640 ∧ s.all (fun c => decide (48 ≤ c) && decide (c ≤ 57)) = true ∧ q (.int (NumText.digitsVal s : Nat)) G) := by simp [intC]
@[simp] theorem x_strC_s : strC [.str s] q G = q (.str s) G := by simp [strC]
theorem x_strC_i {n : Nat} (h : n < 10 ^ 18) (hq : q (.str (TL.numL n)) G) : strC [.int (n : Int)] q G := Or.inl ⟨n, rfl, h, hq⟩
@[simp] theorem x_ordC : ordC [.str s] q G = ∃ c, s = [c] ∧ q (.int (c : Nat)) G := by simp [ordC]
@[simp] theorem x_allC : allC [d] q G = ∃ bs : List Bool, lstOf d G = some (bs.map D.bl) ∧ q (.bl (bs.all id)) G := by simp [allC]
@[simp] theorem x_anyC : anyC [d] q G = ∃ bs : List Bool, lstOf d G = some (bs.map D.bl) ∧ q (.bl (bs.any id)) G := by simp [anyC]
@[simp] theorem x_sumC : sumC [d] q G = ∃ ns : List Int, lstOf d G = some (ns.map D.int) ∧ q (.int ns.sum) G := by simp [sumC]
@[simp] theorem x_lstOf_l : lstOf (.lst xs) G = some xs := Eq.trans rfl rfl
@[simp] theorem x_items_l : itemsOf (.lst xs) G = some xs := Eq.trans rfl rfl
@[simp] theorem x_items_t : itemsOf (.tup xs) G = some xs := Eq.trans rfl rfl
@[simp] theorem x_items_a : itemsOf (.adr p) G = (match G p with | some (.lst ys) => some ys | _ => none) := Eq.trans rfl rfl
@[simp] theorem x_lstOf_a : lstOf (.adr p) G = (match G p with | some (.lst ys) => some ys | _ => none) := Eq.trans rfl rfl
@[simp] theorem x_insOf_a : insOf (.adr p) G = (match G p with | some (.ins c fs) => some (c, fs) | _ => none) := Eq.trans rfl rfl
@[simp] theorem x_insOf_i {c : Str} {fs : List (Str × D)} : insOf (.ins c fs) G = some (c, fs) := Eq.trans rfl rfl
@[simp] theorem x_z_l : zitems (.lst xs) = some xs := Eq.trans rfl rfl
@[simp] theorem x_z_t : zitems (.tup xs) = some xs := Eq.trans rfl rfl
@[simp] theorem x_z_q : zitems (.seq xs) = some xs := Eq.trans rfl rfl
@[simp] theorem x_z_s : zitems (.str s) = some (s.map fun c => D.str [c]) := Eq.trans rfl rfl
@[simp] theorem x_z_a : zitems (.adr p) = none := Eq.trans rfl rfl
@[simp] theorem x_app {y : D} : appM (.adr p) [y] q G = ∃ xs, G p = some (.lst xs) ∧ xs.length < 16777216 ∧ q .non (ug G p (.lst (xs ++ [y]))) := by simp [appM]
@[simp] theorem x_ext : extM (.adr p) [.lst ys] q G = ∃ xs, G p = some (.lst xs) ∧ xs.length + ys.length ≤ 16777216 ∧ q .non (ug G p (.lst (xs ++ ys))) := by simp [extM]
@[simp] theorem x_find : findM (.str s) [.str t] q G = (t ≠ [] ∧ q (.int (findAt t s 0)) G) := by simp [findM]
@[simp] theorem x_join : joinM (.str s) [d] q G = ∃ ys : List (List Nat), itemsOf d G = some (ys.map D.str) ∧ (ys.map (·.length)).sum + ys.length * s.length ≤ 16777216 ∧ q (.str (TL.joinL s ys)) G := by simp [joinM]
@[simp] theorem x_isT_s {T : String} : isT T (.str s) G = (T = "str") := Eq.trans rfl rfl
@[simp] theorem x_isT_l {T : String} : isT T (.lst xs) G = (T = "list") := Eq.trans rfl rfl
@[simp] theorem x_isT_a {T : String} : isT T (.adr p) G = ((T = "list" ∧ ∃ xs, G p = some (.lst xs)) ∨ (T = "dict" ∧ ((∃ kv, G p = some (.dk kv)) ∨ ∃ kv, G p = some (.dt kv)))) := Eq.trans rfl rfl
@[simp] theorem x_ug : ug G p o p = some o := ug_same
@[simp] theorem x_ug2 : ug (ug G p o) p o' = ug G p o' := by
  funext z
  unfold ug
  split <;> rfl
theorem ug_comm (h : p ≠ r) : ug (ug G p o) r o' = ug (ug G r o') p o := by
  funext z
  unfold ug
  by_cases h1 : z = p
  · subst h1; simp [h]
  · by_cases h2 : z = r
    · subst h2; simp [h1]
    · simp [h1, h2]
theorem dg_ug (h : G p = none) : dg (ug G p o) p = G := by
  funext z
  unfold dg ug
  by_cases h1 : z = p
  · subst h1; simp [h]
  · simp [h1]
theorem ug_self (h : G p = some o) : ug G p o = G := by
  funext z
  unfold ug
  split
  · rename_i e; rw [e, h]
  · rfl
theorem sub_new (h : G p = none) : subG G (ug G p o) := fun a u e => by
  rw [ug_ne (fun z => by subst z; rw [h] at e; cases e)]; exact e
theorem ne_of_free {u : MO} (h : G p = some u) (h' : G r = none) : p ≠ r := fun z => by subst z; rw [h] at h'; cases h'
theorem subG.tr {G1 G2 G3 : Gm} (h : subG G1 G2) (h' : subG G2 G3) : subG G1 G3 := fun a o e => h' a o (h a o e)
end

/-! ### loops -/
def LC (M : Bool) (it : DI) (g : CG) (t : CT) (ce : CE) (J : List Nat) (k : D → Gm → Prop) (env : Env) (G1 : Gm) : Prop := it.items.length ≤ 16777216 ∧ ∀ p, G1 p = none → ∃ P : Nat → List D → Gm → Prop, P 0 [] (ug G1 p (.lst [])) ∧
  (∀ i acc G', i ≤ it.items.length → P i acc G' → it.keep G' ∧ acc.length ≤ i) ∧
  (∀ i d acc G', it.items[i]? = some d → P i acc G' → g d (fun env2 G2 => t ⟨fun b G3 => (b = true → ce ⟨fun y G4 => G4 p = some (.lst acc) ∧ P (i + 1) (acc ++ [y]) (ug G4 p (.lst (acc ++ [y]))), fun _ _ => False⟩ env2 G3) ∧ (b = false → P (i + 1) acc G3), fun _ _ => False⟩ env2 G2) (wipeD env J) G') ∧
  (∀ acc G', P it.items.length acc G' → G' p = some (.lst acc) ∧ if M then k (.adr p) G' else k (.lst acc) (dg G' p))
@[simp] theorem x_lc {ci : CI} {g : CG} {t : CT} {ce : CE} {J : List Nat} {k : Kn D} {env : Env} {G : Gm} : cLc ci g t ce J k env G = ci ⟨fun it G1 => LC false it g t ce J k.ok env G1, k.ex⟩ env G := Eq.trans rfl rfl
@[simp] theorem x_lcM {ci : CI} {g : CG} {t : CT} {ce : CE} {J : List Nat} {k : Kn D} {env : Env} {G : Gm} : cLcM ci g t ce J k env G = ci ⟨fun it G1 => LC true it g t ce J k.ok env G1, k.ex⟩ env G := Eq.trans rfl rfl
/-- one turn: the element is made, or left out -/
def LT (g : CG) (t : CT) (ce : CE) (J : List Nat) (env : Env) (d : D) (Y : D → Gm → Prop) (Z : Gm → Prop) (G : Gm) : Prop :=
  g d (fun env2 G2 => t ⟨fun b G3 => Bf b (ce ⟨Y, fun _ _ => False⟩ env2 G3) (Z G3), fun _ _ => False⟩ env2 G2) (wipeD env J) G
theorem lc_any {M : Bool} {it : DI} {g : CG} {t : CT} {ce : CE} {J : List Nat} {env : Env} {G : Gm} {k : D → Gm → Prop} (hz : it.items.length ≤ 16777216) (P : Nat → List D → Addr → Gm → Prop)
    (h0 : ∀ p, G p = none → P 0 [] p (ug G p (.lst []))) (hk : ∀ i acc p G', i ≤ it.items.length → P i acc p G' → it.keep G' ∧ acc.length ≤ i)
    (hs : ∀ (i : Nat) d acc p G', it.items[i]? = some d → P i acc p G' → LT g t ce J env d (fun y G4 => G4 p = some (.lst acc) ∧ P (i + 1) (acc ++ [y]) p (ug G4 p (.lst (acc ++ [y])))) (fun G3 => P (i + 1) acc p G3) G')
    (hd : ∀ acc p G', P it.items.length acc p G' → G' p = some (.lst acc) ∧ if M then k (.adr p) G' else k (.lst acc) (dg G' p)) : LC M it g t ce J k env G :=
  ⟨hz, fun p hp => ⟨fun i acc G' => P i acc p G', h0 p hp, fun i acc G' => hk i acc p G', fun i d acc G' => hs i d acc p G', fun acc G' => hd acc p G'⟩⟩
/-- a comprehension over what stays, whose elements do not change the store -/
theorem lc_pure {it : DI} {g : CG} {t : CT} {ce : CE} {J : List Nat} {env : Env} {G : Gm} {k : D → Gm → Prop} (f : Nat → Option D) (hz : it.items.length ≤ 16777216)
    (hk : ∀ p acc, G p = none → it.keep (ug G p (.lst acc)))
    (hb : ∀ (i : Nat) d p acc (Y : D → Gm → Prop) (Z : Gm → Prop), it.items[i]? = some d → G p = none → (∀ y, f i = some y → Y y (ug G p (.lst acc))) → (f i = none → Z (ug G p (.lst acc))) → LT g t ce J env d Y Z (ug G p (.lst acc)))
    (hq : ∀ ys, ys = (List.range it.items.length).filterMap f → k (.lst ys) G) : LC false it g t ce J k env G := by
  refine lc_any hz (fun i acc p G' => G p = none ∧ acc = (List.range i).filterMap f ∧ G' = ug G p (.lst acc)) (fun p hp => ⟨hp, rfl, rfl⟩) ?_ ?_ ?_
  · rintro i acc p G' _ ⟨hp, e1, rfl⟩
    refine ⟨hk p acc hp, ?_⟩
    rw [e1]
    exact Nat.le_trans (List.length_filterMap_le _ _) (by rw [List.length_range]; exact Nat.le_refl _)
  · rintro i d acc p G' hd ⟨hp, e1, rfl⟩
    refine hb i d p acc _ _ hd hp (fun y hy => ⟨ug_same, hp, ?_, ?_⟩) (fun hn => ⟨hp, ?_, rfl⟩)
    · rw [List.range_succ, List.filterMap_append, ← e1]; simp [hy]
    · simp
    · rw [List.range_succ, List.filterMap_append, ← e1]; simp [hn]
  · rintro acc p G' ⟨hp, e1, rfl⟩
    refine ⟨ug_same, ?_⟩
    rw [dg_ug hp]
    exact hq acc e1
theorem range_map {f : D → D} (l : List D) : (List.range l.length).filterMap (fun i => (l[i]?).map f) = l.map f := by
  have h2 : ∀ m : Nat, m ≤ l.length → (List.range m).filterMap (fun i => (l[i]?).map f) = (l.take m).map f := by
    intro m
    induction m with
    | zero => intro _; simp
    | succ m ih =>
      intro hm
      rw [List.range_succ, List.filterMap_append, ih (by omega), List.take_add_one]
      have e2 : l[m]? = some l[m] := List.getElem?_eq_getElem (by omega)
      rw [List.map_append, e2]
      simp only [List.filterMap_cons, List.filterMap_nil, e2, Option.map_some, Option.toList_some, List.map_cons, List.map_nil]
  rw [h2 l.length (Nat.le_refl _), List.take_length]
theorem range_fmap {f : D → Option D} (l : List D) : (List.range l.length).filterMap (fun i => (l[i]?).bind f) = l.filterMap f := by
  have h2 : ∀ m : Nat, m ≤ l.length → (List.range m).filterMap (fun i => (l[i]?).bind f) = (l.take m).filterMap f := by
    intro m
    induction m with
    | zero => intro _; simp
    | succ m ih =>
      intro hm
      rw [List.range_succ, List.filterMap_append, ih (by omega), List.take_add_one]
      have e2 : l[m]? = some l[m] := List.getElem?_eq_getElem (by omega)
      rw [List.filterMap_append, e2]
      simp only [List.filterMap_cons, List.filterMap_nil, e2, Option.bind_some, Option.toList_some]
  rw [h2 l.length (Nat.le_refl _), List.take_length]
/-- .. each item gives one -/
theorem lc_map {it : DI} {g : CG} {t : CT} {ce : CE} {J : List Nat} {env : Env} {G : Gm} {k : D → Gm → Prop} (f : D → D) (hz : it.items.length ≤ 16777216)
    (hk : ∀ p acc, G p = none → it.keep (ug G p (.lst acc)))
    (hb : ∀ (i : Nat) d p acc (Y : D → Gm → Prop) (Z : Gm → Prop), it.items[i]? = some d → G p = none → Y (f d) (ug G p (.lst acc)) → LT g t ce J env d Y Z (ug G p (.lst acc)))
    (hq : k (.lst (it.items.map f)) G) : LC false it g t ce J k env G := by
  refine lc_pure (f := fun (i : Nat) => (it.items[i]?).map f) hz hk ?_ ?_
  · intro i d p acc Y Z hd hp hy _
    refine hb i d p acc Y Z hd hp (hy _ ?_)
    show (it.items[i]?).map f = some (f d)
    rw [hd]; rfl
  intro ys e
  rw [e, range_map]
  exact hq
/-- .. each item gives one, or none -/
theorem lc_fmap {it : DI} {g : CG} {t : CT} {ce : CE} {J : List Nat} {env : Env} {G : Gm} {k : D → Gm → Prop} (f : D → Option D) (hz : it.items.length ≤ 16777216)
    (hk : ∀ p acc, G p = none → it.keep (ug G p (.lst acc)))
    (hb : ∀ (i : Nat) d p acc (Y : D → Gm → Prop) (Z : Gm → Prop), it.items[i]? = some d → G p = none → (∀ y, f d = some y → Y y (ug G p (.lst acc))) → (f d = none → Z (ug G p (.lst acc))) → LT g t ce J env d Y Z (ug G p (.lst acc)))
    (hq : k (.lst (it.items.filterMap f)) G) : LC false it g t ce J k env G := by
  refine lc_pure (f := fun (i : Nat) => (it.items[i]?).bind f) hz hk ?_ ?_
  · intro i d p acc Y Z hd hp hy hn
    refine hb i d p acc Y Z hd hp (fun y e => hy y ?_) (fun e => hn ?_)
    · show (it.items[i]?).bind f = some y
      rw [hd]; exact e
    · show (it.items[i]?).bind f = none
      rw [hd]; exact e
  intro ys e
  rw [e, range_fmap]
  exact hq
def FR (it : DI) (g : CG) (cb : CS) (E : En) (env : Env) (G1 : Gm) : Prop := ∃ P : Nat → Env → Gm → Prop, P 0 env G1 ∧ (∀ i env1 G1, i ≤ it.items.length → P i env1 G1 → it.keep G1) ∧
  (∀ i d env1 G1, it.items[i]? = some d → P i env1 G1 → g d (fun env2 G2 => cb { E with nx := P (i + 1), ct := P (i + 1), bk := E.nx } env2 G2) env1 G1) ∧ (∀ env1 G1, P it.items.length env1 G1 → E.nx env1 G1)
@[simp] theorem x_for {ci : CI} {g : CG} {cb : CS} {E : En} {env : Env} {G : Gm} : cFor ci g cb E env G = ci ⟨fun it G1 => FR it g cb E env G1, fun x G1 => E.ex x env G1⟩ env G := Eq.trans rfl rfl
/-- a loop: what stands ahead of the i-th turn -/
theorem for_inv {it : DI} {g : CG} {cb : CS} {E : En} {env : Env} {G : Gm} (P : Nat → Env → Gm → Prop) (h0 : P 0 env G) (hk : ∀ i env1 G1, i ≤ it.items.length → P i env1 G1 → it.keep G1)
    (hs : ∀ (i : Nat) d env1 G1, it.items[i]? = some d → P i env1 G1 → g d (fun env2 G2 => cb { E with nx := P (i + 1), ct := P (i + 1), bk := E.nx } env2 G2) env1 G1) (hd : ∀ env1 G1, P it.items.length env1 G1 → E.nx env1 G1) : FR it g cb E env G :=
  ⟨P, h0, hk, hs, hd⟩
@[simp] theorem x_LT {g : CG} {t : CT} {ce : CE} {J : List Nat} {env : Env} {d : D} {Y : D → Gm → Prop} {Z : Gm → Prop} {G : Gm} : LT g t ce J env d Y Z G = g d (fun env2 G2 => t ⟨fun b G3 => Bf b (ce ⟨Y, fun _ _ => False⟩ env2 G3) (Z G3), fun _ _ => False⟩ env2 G2) (wipeD env J) G := Eq.trans rfl rfl
@[simp] theorem x_wipe0 {env : Env} : wipeD env [] = env := Eq.trans rfl rfl
@[simp] theorem x_wipe1 {env : Env} {v : Nat} {vs : List Nat} : wipeD env (v :: vs) = (wipeD env vs).set v none := Eq.trans rfl rfl
/-! ### plain trees -/
def ty0 : D → Option String
  | .non => some "NoneType"
  | .bl _ => some "bool"
  | .int _ => some "int"
  | .str _ => some "str"
  | .tup _ => some "tuple"
  | .lst _ => some "list"
  | .seq _ => some "list"
  | _ => none
theorem ty0_N {d : D} {T : String} (h : ty0 d = some T) (G : Gm) : tyN d G = some T := by
  cases d <;> simp_all [ty0, tyN]
@[simp] theorem x_ty_non {G : Gm} : tyN .non G = some "NoneType" := Eq.trans rfl rfl
@[simp] theorem x_ty_bl {G : Gm} {b : Bool} : tyN (.bl b) G = some "bool" := Eq.trans rfl rfl
@[simp] theorem x_ty_int {G : Gm} {b : Int} : tyN (.int b) G = some "int" := Eq.trans rfl rfl
@[simp] theorem x_ty_str {G : Gm} {b : List Nat} : tyN (.str b) G = some "str" := Eq.trans rfl rfl
@[simp] theorem x_ty_tup {G : Gm} {b : List D} : tyN (.tup b) G = some "tuple" := Eq.trans rfl rfl
@[simp] theorem x_ty_lst {G : Gm} {b : List D} : tyN (.lst b) G = some "list" := Eq.trans rfl rfl
@[simp] theorem x_ty_seq {G : Gm} {b : List D} : tyN (.seq b) G = some "list" := Eq.trans rfl rfl
end Dl
set_option maxHeartbeats 4000000
/-! DL13: more help for the plain part: places, cuts, plain trees. -/
namespace Dl
open PySem PySem.Spec PyProof.Rows L2
theorem cst1 {Y : D → Gm → Prop} {d e : D} {G : Gm} (h : Y d G) (q : d = e) : Y e G := q ▸ h
theorem cst2 {Y : D → Gm → Prop} {d e : D} {G G' : Gm} (h : Y d G) (q : d = e) (q2 : G = G') : Y e G' := q2 ▸ q ▸ h
theorem rWc {k : Kn D} {d e : D} {G : Gm} (h : k.ok d G) (q : d = e) : rW k e G := rW.of (q ▸ h)
theorem rWc2 {k : Kn D} {d e : D} {G G' : Gm} (h : k.ok d G) (q : d = e) (q2 : G = G') : rW k e G' := rW.of (q2 ▸ q ▸ h)
theorem rWs {k : Kn D} {d e : D} {G G' : Gm} (h : k.ok d G) (q : d = e) (s : subG G G') : rW k e G' := ⟨G, s, q ▸ h⟩
theorem x_lt1 {c e : Nat} : (([c] : List Nat) < [e]) = (c < e) := by
  apply propext
  rw [List.cons_lt_cons_iff]
  simp
theorem notlt {a b : Nat} : (!decide (a < b)) = decide (b ≤ a) := by
  by_cases h : a < b
  · simp [h]
  · simp [h, Nat.le_of_not_lt h]
def isIntD : D → Bool
  | .int _ => true
  | _ => false
/-- a plain tree -/
def pl (d : D) : Prop := ∃ T, ty0 d = some T
/-- a plain tree, no long text -/
def pls (d : D) : Prop := pl d ∧ ∀ s, d = .str s → s.length ≤ 16777216
@[simp] theorem pl_non : pl .non := ⟨_, rfl⟩
@[simp] theorem pl_bl {b : Bool} : pl (.bl b) := ⟨_, rfl⟩
@[simp] theorem pl_int {b : Int} : pl (.int b) := ⟨_, rfl⟩
@[simp] theorem pl_str {b : List Nat} : pl (.str b) := ⟨_, rfl⟩
@[simp] theorem pl_tup {b : List D} : pl (.tup b) := ⟨_, rfl⟩
@[simp] theorem pl_lst {b : List D} : pl (.lst b) := ⟨_, rfl⟩
theorem pls_of {d : D} (h : pl d) (n : ∀ s, d ≠ .str s) : pls d := ⟨h, fun s e => absurd e (n s)⟩
theorem pls_str {s : List Nat} (h : s.length ≤ 16777216) : pls (.str s) := ⟨pl_str, fun t e => by cases e; exact h⟩
def inB (d : D) (lo hi : Int) : Bool := match d with
  | .int i => decide (lo ≤ i) && decide (i ≤ hi)
  | _ => false
def sgL (s : List Nat) : Bool := s.all (fun c => decide (32 ≤ c) && decide (c ≤ 126))
/-- a string of signs -/
def sgB (d : D) : Bool := match d with
  | .str s => sgL s
  | _ => false
theorem inB_true {d : D} {lo hi : Int} (h : inB d lo hi = true) : ∃ i, d = .int i ∧ lo ≤ i ∧ i ≤ hi := by
  cases d <;> first | (cases h; done) | skip
  rename_i i
  have h' : (decide (lo ≤ i) && decide (i ≤ hi)) = true := h
  simp at h'
  exact ⟨i, rfl, h'⟩
/-! ### places -/
section
variable {α : Type} {xs : List α} {n : Nat} {i : Int}
theorem atI_nn (h : 0 ≤ i) : atI xs i = xs[i.toNat]? := by
  unfold atI ixN
  rw [if_pos h]
  split
  · rfl
  · rename_i h1
    have : xs.length ≤ i.toNat := by omega
    rw [List.getElem?_eq_none this]; rfl
@[simp] theorem atI_nat : atI xs (n : Int) = xs[n]? := by rw [atI_nn (by omega)]; simp
@[simp] theorem atI_0 : atI xs 0 = xs[0]? := atI_nn (i := 0) (by omega)
@[simp] theorem atI_1 : atI xs 1 = xs[1]? := atI_nn (i := 1) (by omega)
@[simp] theorem atI_2 : atI xs 2 = xs[2]? := atI_nn (i := 2) (by omega)
@[simp] theorem atI_3 : atI xs 3 = xs[3]? := atI_nn (i := 3) (by omega)
@[simp] theorem atI_4 : atI xs 4 = xs[4]? := atI_nn (i := 4) (by omega)
@[simp] theorem atI_5 : atI xs 5 = xs[5]? := atI_nn (i := 5) (by omega)
theorem atI_in (h : 0 ≤ i) (h2 : i < xs.length) : ∃ d, atI xs i = some d ∧ d ∈ xs := by
  rw [atI_nn h]
  have : i.toNat < xs.length := by omega
  exact ⟨xs[i.toNat], List.getElem?_eq_getElem this, List.getElem_mem this⟩
theorem ixN_nn (h : 0 ≤ i) (h2 : i < n) : ixN n i = some i.toNat := by
  unfold ixN
  rw [if_pos h, if_pos h2]
@[simp] theorem ixN_0 : ixN (n + 1) 0 = some 0 := ixN_nn (by omega) (by omega)
@[simp] theorem ixN_1 : ixN (n + 2) 1 = some 1 := ixN_nn (by omega) (by omega)
@[simp] theorem ixN_2 : ixN (n + 3) 2 = some 2 := ixN_nn (by omega) (by omega)
@[simp] theorem ixN_3 : ixN (n + 4) 3 = some 3 := ixN_nn (by omega) (by omega)
@[simp] theorem ixN_4 : ixN (n + 5) 4 = some 4 := ixN_nn (by omega) (by omega)
theorem cut_to (h : 0 ≤ i) : cutL xs none (some i) = xs.take i.toNat := by
  unfold cutL
  rw [HT.sIx_none]
  have e : HT.sIx xs.length xs.length (some i) = min i.toNat xs.length := by
    show (if i < 0 then (i + (xs.length : Int)).toNat else min i.toNat xs.length) = _
    rw [if_neg (by omega)]
  rw [e]
  simp [List.take_eq_take_iff]
theorem cut_from (h : 0 ≤ i) : cutL xs (some i) none = xs.drop i.toNat := by
  unfold cutL
  rw [HT.sIx_none]
  have e : HT.sIx xs.length 0 (some i) = min i.toNat xs.length := by
    show (if i < 0 then (i + (xs.length : Int)).toNat else min i.toNat xs.length) = _
    rw [if_neg (by omega)]
  rw [e]
  rcases Nat.le_total i.toNat xs.length with h1 | h1
  · rw [Nat.min_eq_left h1]
    exact List.take_of_length_le (by simp)
  · rw [Nat.min_eq_right h1]
    simp [List.drop_eq_nil_of_le h1]
theorem cut_both {j : Int} (h : 0 ≤ i) (h2 : 0 ≤ j) : cutL xs (some i) (some j) = (xs.drop i.toNat).take (j.toNat - i.toNat) := by
  unfold cutL
  have e : HT.sIx xs.length 0 (some i) = min i.toNat xs.length := by
    show (if i < 0 then (i + (xs.length : Int)).toNat else min i.toNat xs.length) = _
    rw [if_neg (by omega)]
  have e2 : HT.sIx xs.length xs.length (some j) = min j.toNat xs.length := by
    show (if j < 0 then (j + (xs.length : Int)).toNat else min j.toNat xs.length) = _
    rw [if_neg (by omega)]
  rw [e, e2]
  rcases Nat.le_total i.toNat xs.length with h1 | h1
  · rw [Nat.min_eq_left h1]
    rw [List.take_eq_take_iff, List.length_drop]
    omega
  · rw [Nat.min_eq_right h1, List.drop_eq_nil_of_le h1, List.drop_eq_nil_of_le (Nat.le_refl _)]
    simp
theorem cut_but : cutL xs none (some (-1)) = xs.dropLast := by
  unfold cutL
  rw [HT.sIx_none]
  have e : HT.sIx xs.length xs.length (some (-1)) = xs.length - 1 := by
    show (if (-1 : Int) < 0 then (-1 + (xs.length : Int)).toNat else min (-1 : Int).toNat xs.length) = _
    rw [if_pos (by decide)]
    omega
  rw [e]
  simp [List.dropLast_eq_take]
theorem cut_map {β : Type} {f : α → β} {lo hi : Option Int} : cutL (xs.map f) lo hi = (cutL xs lo hi).map f := by
  unfold cutL
  simp [List.map_take, List.map_drop]
theorem cut_len {lo hi : Option Int} : (cutL xs lo hi).length ≤ xs.length := by
  unfold cutL
  simp
  omega
end
theorem smallI_nat {n : Nat} (h : n < 2 ^ 62) : smallI (n : Int) := ⟨by omega, by omega⟩
/-- a recursive def's promise that asks nothing -/
def sp0 : SpD := fun _ _ _ => False
theorem fnA_none {P : Program} {w : World} {K : PySem.W.Frag} {mg : Str → Option Value} {base : Heap} {x qual : Str} {params : Arguments} {body : List Stmt} {scope : Scope} {f : Addr} {fd : FuncData} {ps : List Str} {k : Nat} (F : FunD K x qual params body scope [] [] f fd)
    (hbind : ∀ (kV doc pm : Value) (an : Option Addr) (cdv ct : Value) (us : List Value), us.length = ps.length → bindArgs (PySem.W.fnOf x qual params body scope .none kV doc pm an cdv ct) ⟨us, []⟩ = pure (ps.zip us)) : FnA P w K mg base f k sp0 :=
  ⟨fd, ps, ⟨fun vs H Q E ⟨_, _, _, _, _, _, h, _⟩ => h.elim, fun A outer s H args us vs Q E _ _ _ _ ⟨_, _, _, _, _, _, h, _⟩ => h.elim⟩, F.kp, F.bindsN hbind⟩
theorem fnF_ok {P : Program} {w : World} {K : PySem.W.Frag} {mg : Str → Option Value} {base : Heap} {x qual : Str} {params : Arguments} {body : List Stmt} {scope : Scope} {f : Addr} {fd : FuncData} {N ps : List Str} {k n : Nat} {sp : SpD} {c : CS} (F : FunD K x qual params body scope [] [] f fd) (S : FnScope N ps scope)
    (hb : ∀ (cdv : Value) (A : Around) (outer : List PySem.Env) (s : Shared) (H : Hp) (E : XK), Room k (A.deeper (envOfC qual scope s.heap.objs.size f cdv)) →
      PSs (cxOf (L2.CX P w) P w K mg base N qual scope f cdv A outer s H E) body (rdS K (fun cls d _ H => E cls d H) c))
    (hl : ∀ ds G k, sp ds G k → ds.length = ps.length) (hk : Keeps n c sp) (hn : N.length = n := by rfl) : FnOk P w K mg base (L2.CX P w) (k + 1) f fd ps (sp2 K sp) := by
  subst hn
  refine F.ok S (fun vs H Q E ⟨F0, G, ds, k, r, hd, h, _⟩ => by rw [hd.len]; exact hl _ _ _ h) (fun cdv A outer s H vs Q E hr h => ⟨_, hb cdv A outer s H E hr, ?_⟩)
  obtain ⟨F0, G, ds, k, r, hd, h, ko, kx⟩ := h
  refine ⟨F0, G, startD N.length ds, enOf k, r, sl_start hd, hk ds G k h, ⟨?_, ?_, fun _ _ z => z.elim, fun _ _ z => z.elim, ?_⟩⟩
  · intro env G' ⟨G0, hs, hq⟩ σ F' H' e' r' _
    exact ko _ G0 hq _ F' H' e' (r'.sub hs) .non
  · intro d G' ⟨G0, hs, hq⟩ v F' H' e' r' hv
    exact ko _ G0 hq _ F' H' e' (r'.sub hs) hv
  · intro y env G' ⟨G0, hs, hq⟩ cls dd σ F' H' e' r' _ rx
    exact kx y G0 hq cls dd F' H' e' (r'.sub hs) rx
/-- a def that lets nothing out -/
theorem fn_quiet {P : Program} {w : World} {K : PySem.W.Frag} {mg : Str → Option Value} {base : Heap} {f : Addr} {fd : FuncData} {ps : List Str} {k : Nat} {sp : Sp} (F : FnOk P w K mg base (L2.CX P w) k f fd ps sp) :
    FnOk P w K mg base (fun _ _ _ _ _ _ => False) k f fd ps (fun vs H Q _ => sp vs H Q fun _ _ _ => False) :=
  ⟨fun vs H Q E h => F.len vs H Q _ h, fun A outer s H args us vs Q E hr he hb hv h => codeAny_mono (F.run A outer s H args us vs Q _ hr he hb hv h) fun r s' hz => by
    cases r with
    | error e => obtain ⟨_, _, _, _, _, _, _, _, _, _, _, _, hf⟩ := hz; exact hf
    | ok v => cases v <;> exact hz⟩
/-- what the law's own call asks -/
theorem law_sp {K : PySem.W.Frag} {sp : SpD} {H : Hp} {a : Addr} {ns : List Int} (hS : SqL K H a (ns.map V.int)) (h : ∀ G (k : Kn D), (∀ G', k.ok (.bl true) G') → sp [.seq (ns.map D.int)] G k) : sp2 K sp [.ref a] H (fun v _ => v = .bl true) fun _ _ _ => False :=
  ⟨H, fun _ => none, [.seq (ns.map D.int)], ⟨fun d _ => d = .bl true, fun _ _ => False⟩, ⟨Ex.rf H, fun _ _ h => nomatch h⟩, .cons (.seq hS (RpAll.ofInts ns)) .nil, h _ _ fun _ => rfl,
    fun d G' hd v F' H' e r hv => by have hd' : d = .bl true := hd; subst hd'; cases hv; rfl, fun x G' h => h.elim⟩
/-- a row of two, the second kept out of sight -/
theorem seq_gen {c1 c2 : CS} {E : En} {env : Env} {G : Gm} (M : Env → Gm → Prop) (h2 : ∀ env1 G1, M env1 G1 → c2 E env1 G1) (h1 : ∀ c2' : CS, (∀ env1 G1, M env1 G1 → c2' E env1 G1) → cSeq c1 c2' E env G) : cSeq c1 c2 E env G := h1 c2 h2
/-! ### zip, ranges -/
theorem rng_in {lo : Int} {n i : Nat} {d : D} (h : (rngD lo n)[i]? = some d) : i < n ∧ d = .int (lo + (i : Nat)) := rngD_get h
end Dl
set_option maxHeartbeats 4000000
/-! k50: the text: facts, codes, and that each def's body reads as its code (printed by gen.py). -/
namespace Kx
open PySem PySem.Spec PyProof.Rows L2 Dl
def topS (i : Nat) : Stmt := PySem.Challenge.pw_everypiece_k50_whole_disks_and_records.main.body.getD i (.Pass ⟨0, 0, 0, 0⟩)
def s_0 : List Nat := [32]
theorem q_0 : (" " : Str) = st s_0 := by kernel_rfl
def s_1 : List Nat := [126]
theorem q_1 : ("~" : Str) = st s_1 := by kernel_rfl
def s_2 : List Nat := [58]
theorem q_2 : (":" : Str) = st s_2 := by kernel_rfl
def s_3 : List Nat := []
theorem q_3 : ("" : Str) = st s_3 := by kernel_rfl
def s_4 : List Nat := [48, 49, 50, 51, 52, 53, 54, 55, 56, 57]
theorem q_4 : ("0123456789" : Str) = st s_4 := by kernel_rfl
def s_5 : List Nat := [48]
theorem q_5 : ("0" : Str) = st s_5 := by kernel_rfl
def s_6 : List Nat := [32, 33, 34, 35, 36, 38, 39, 40, 41, 42, 43, 44, 45, 46, 47, 48, 49, 50, 51, 52, 53, 54, 55, 56, 57, 58, 59, 60, 61, 62, 63, 64, 65, 66, 67, 68, 69, 70, 71, 72, 73, 74, 75, 76, 77, 78, 79, 80, 81, 82, 83, 84, 85, 86, 87, 88, 89, 90, 91, 92, 93, 94, 95]
theorem q_6 : (" !\"#$&'()*+,-./0123456789:;<=>?@ABCDEFGHIJKLMNOPQRSTUVWXYZ[\\]^_" : Str) = st s_6 := by kernel_rfl
def s_7 : List Nat := [97, 98, 99, 100, 101, 102, 103, 104, 105, 106, 107, 108, 109, 110, 111, 112, 113, 114, 115, 116, 117, 118, 119, 120, 121, 122, 123, 124, 125, 126]
theorem q_7 : ("abcdefghijklmnopqrstuvwxyz{|}~" : Str) = st s_7 := by kernel_rfl
def s_8 : List Nat := [97, 98, 126, 32]
theorem q_8 : ("ab~ " : Str) = st s_8 := by kernel_rfl
def s_9 : List Nat := [97]
theorem q_9 : ("a" : Str) = st s_9 := by kernel_rfl
def s_10 : List Nat := [97, 98, 99]
theorem q_10 : ("abc" : Str) = st s_10 := by kernel_rfl
def s_11 : List Nat := [97, 98]
theorem q_11 : ("ab" : Str) = st s_11 := by kernel_rfl
def s_12 : List Nat := [49, 50]
theorem q_12 : ("12" : Str) = st s_12 := by kernel_rfl
def s_13 : List Nat := [51, 58, 50, 58, 97]
theorem q_13 : ("3:2:a" : Str) = st s_13 := by kernel_rfl
def s_14 : List Nat := [48, 49, 58, 97]
theorem q_14 : ("01:a" : Str) = st s_14 := by kernel_rfl
def s_15 : List Nat := [50, 58, 97]
theorem q_15 : ("2:a" : Str) = st s_15 := by kernel_rfl
def s_16 : List Nat := [49, 58, 97]
theorem q_16 : ("1:a" : Str) = st s_16 := by kernel_rfl
def s_17 : List Nat := [48, 58]
theorem q_17 : ("0:" : Str) = st s_17 := by kernel_rfl
def s_18 : List Nat := [119, 114, 105, 116, 101]
theorem q_18 : ("write" : Str) = st s_18 := by kernel_rfl
def s_19 : List Nat := [116, 111, 108, 100]
theorem q_19 : ("told" : Str) = st s_19 := by kernel_rfl
def s_20 : List Nat := [115, 121, 110, 99]
theorem q_20 : ("sync" : Str) = st s_20 := by kernel_rfl
def s_21 : List Nat := [99, 117, 116]
theorem q_21 : ("cut" : Str) = st s_21 := by kernel_rfl
def s_22 : List Nat := [111, 116, 104, 101, 114]
theorem q_22 : ("other" : Str) = st s_22 := by kernel_rfl
def s_23 : List Nat := [114, 101, 102, 117, 115, 101, 100]
theorem q_23 : ("refused" : Str) = st s_23 := by kernel_rfl
def s_24 : List Nat := [110, 117, 109, 98, 101, 114]
theorem q_24 : ("number" : Str) = st s_24 := by kernel_rfl
def s_25 : List Nat := [108, 105, 110, 101]
theorem q_25 : ("line" : Str) = st s_25 := by kernel_rfl
def s_26 : List Nat := [100, 114, 111, 112]
theorem q_26 : ("drop" : Str) = st s_26 := by kernel_rfl
def s_27 : List Nat := [97, 10]
theorem q_27 : ("a
" : Str) = st s_27 := by kernel_rfl
def s_28 : List Nat := [49]
theorem q_28 : ("1" : Str) = st s_28 := by kernel_rfl
def s_29 : List Nat := [120]
theorem q_29 : ("x" : Str) = st s_29 := by kernel_rfl
abbrev z_is_integer : Stmt := topS 8
def d0 : He.DefD := ⟨("is_integer", none), "is_integer", "is_integer", defArgs z_is_integer, defBody z_is_integer, defScope z_is_integer, [], []⟩
abbrev z_is_within : Stmt := topS 9
def d1 : He.DefD := ⟨("is_within", none), "is_within", "is_within", defArgs z_is_within, defBody z_is_within, defScope z_is_within, [], []⟩
abbrev z_is_sized : Stmt := topS 10
def d2 : He.DefD := ⟨("is_sized", none), "is_sized", "is_sized", defArgs z_is_sized, defBody z_is_sized, defScope z_is_sized, [], []⟩
abbrev z_are_signs : Stmt := topS 11
def d3 : He.DefD := ⟨("are_signs", none), "are_signs", "are_signs", defArgs z_are_signs, defBody z_are_signs, defScope z_are_signs, [], []⟩
abbrev z_check_within : Stmt := topS 12
def d4 : He.DefD := ⟨("check_within", none), "check_within", "check_within", defArgs z_check_within, defBody z_check_within, defScope z_check_within, [], []⟩
abbrev z_check_line : Stmt := topS 16
def d5 : He.DefD := ⟨("check_line", none), "check_line", "check_line", defArgs z_check_line, defBody z_check_line, defScope z_check_line, [], []⟩
abbrev z_Disk_init : Stmt := inClass (topS 17) 0
def d6 : He.DefD := ⟨("Disk", some "__init__"), "__init__", "Disk.__init__", defArgs z_Disk_init, defBody z_Disk_init, defScope z_Disk_init, [], []⟩
abbrev z_Disk_write : Stmt := inClass (topS 17) 1
def d7 : He.DefD := ⟨("Disk", some "write"), "write", "Disk.write", defArgs z_Disk_write, defBody z_Disk_write, defScope z_Disk_write, [], []⟩
abbrev z_Disk_sync : Stmt := inClass (topS 17) 2
def d8 : He.DefD := ⟨("Disk", some "sync"), "sync", "Disk.sync", defArgs z_Disk_sync, defBody z_Disk_sync, defScope z_Disk_sync, [], []⟩
abbrev z_Disk_lines : Stmt := inClass (topS 17) 3
def d9 : He.DefD := ⟨("Disk", some "lines"), "lines", "Disk.lines", defArgs z_Disk_lines, defBody z_Disk_lines, defScope z_Disk_lines, [], []⟩
abbrev z_Disk_synced : Stmt := inClass (topS 17) 4
def d10 : He.DefD := ⟨("Disk", some "synced"), "synced", "Disk.synced", defArgs z_Disk_synced, defBody z_Disk_synced, defScope z_Disk_synced, [], []⟩
abbrev z_Disk_cut : Stmt := inClass (topS 17) 5
def d11 : He.DefD := ⟨("Disk", some "cut"), "cut", "Disk.cut", defArgs z_Disk_cut, defBody z_Disk_cut, defScope z_Disk_cut, [], []⟩
abbrev z_Disk_drop : Stmt := inClass (topS 17) 6
def d12 : He.DefD := ⟨("Disk", some "drop"), "drop", "Disk.drop", defArgs z_Disk_drop, defBody z_Disk_drop, defScope z_Disk_drop, [], []⟩
abbrev z_Disk_copy : Stmt := inClass (topS 17) 7
def d13 : He.DefD := ⟨("Disk", some "copy"), "copy", "Disk.copy", defArgs z_Disk_copy, defBody z_Disk_copy, defScope z_Disk_copy, [], []⟩
abbrev z_raw_record : Stmt := topS 18
def d14 : He.DefD := ⟨("raw_record", none), "raw_record", "raw_record", defArgs z_raw_record, defBody z_raw_record, defScope z_raw_record, [], []⟩
abbrev z_record : Stmt := topS 19
def d15 : He.DefD := ⟨("record", none), "record", "record", defArgs z_record, defBody z_record, defScope z_record, [], []⟩
abbrev z_number_of_word : Stmt := topS 20
def d16 : He.DefD := ⟨("number_of_word", none), "number_of_word", "number_of_word", defArgs z_number_of_word, defBody z_number_of_word, defScope z_number_of_word, [], []⟩
abbrev z_raw_contents : Stmt := topS 21
def d17 : He.DefD := ⟨("raw_contents", none), "raw_contents", "raw_contents", defArgs z_raw_contents, defBody z_raw_contents, defScope z_raw_contents, [], []⟩
abbrev z_read_record : Stmt := topS 22
def d18 : He.DefD := ⟨("read_record", none), "read_record", "read_record", defArgs z_read_record, defBody z_read_record, defScope z_read_record, [], []⟩
abbrev z__law_hand : Stmt := topS 24
def d19 : He.DefD := ⟨("_law_hand", none), "_law_hand", "_law_hand", defArgs z__law_hand, defBody z__law_hand, defScope z__law_hand, [], []⟩
abbrev z__law_draw : Stmt := topS 25
def d20 : He.DefD := ⟨("_law_draw", none), "_law_draw", "_law_draw", defArgs z__law_draw, defBody z__law_draw, defScope z__law_draw, [], []⟩
abbrev z__law_is : Stmt := topS 26
def d21 : He.DefD := ⟨("_law_is", none), "_law_is", "_law_is", defArgs z__law_is, defBody z__law_is, defScope z__law_is, [], []⟩
abbrev z__law_any_sign : Stmt := topS 27
def d22 : He.DefD := ⟨("_law_any_sign", none), "_law_any_sign", "_law_any_sign", defArgs z__law_any_sign, defBody z__law_any_sign, defScope z__law_any_sign, [], []⟩
abbrev z__law_sign : Stmt := topS 28
def d23 : He.DefD := ⟨("_law_sign", none), "_law_sign", "_law_sign", defArgs z__law_sign, defBody z__law_sign, defScope z__law_sign, [], []⟩
abbrev z__law_text : Stmt := topS 29
def d24 : He.DefD := ⟨("_law_text", none), "_law_text", "_law_text", defArgs z__law_text, defBody z__law_text, defScope z__law_text, [], []⟩
abbrev z__law_line : Stmt := topS 30
def d25 : He.DefD := ⟨("_law_line", none), "_law_line", "_law_line", defArgs z__law_line, defBody z__law_line, defScope z__law_line, [], []⟩
abbrev z__law_record : Stmt := topS 31
def d26 : He.DefD := ⟨("_law_record", none), "_law_record", "_law_record", defArgs z__law_record, defBody z__law_record, defScope z__law_record, [], []⟩
abbrev z__law_contents : Stmt := topS 32
def d27 : He.DefD := ⟨("_law_contents", none), "_law_contents", "_law_contents", defArgs z__law_contents, defBody z__law_contents, defScope z__law_contents, [], []⟩
abbrev z__law_is_number : Stmt := topS 33
def d28 : He.DefD := ⟨("_law_is_number", none), "_law_is_number", "_law_is_number", defArgs z__law_is_number, defBody z__law_is_number, defScope z__law_is_number, [], []⟩
abbrev z__law_called : Stmt := topS 34
def d29 : He.DefD := ⟨("_law_called", none), "_law_called", "_law_called", defArgs z__law_called, defBody z__law_called, defScope z__law_called, [], []⟩
abbrev z__law_is_line : Stmt := topS 35
def d30 : He.DefD := ⟨("_law_is_line", none), "_law_is_line", "_law_is_line", defArgs z__law_is_line, defBody z__law_is_line, defScope z__law_is_line, [], []⟩
abbrev z__law_did : Stmt := topS 36
def d31 : He.DefD := ⟨("_law_did", none), "_law_did", "_law_did", defArgs z__law_did, defBody z__law_did, defScope z__law_did, [], []⟩
abbrev z__law_deed : Stmt := topS 37
def d32 : He.DefD := ⟨("_law_deed", none), "_law_deed", "_law_deed", defArgs z__law_deed, defBody z__law_deed, defScope z__law_deed, [], []⟩
abbrev z__law_is_disk : Stmt := topS 38
def d33 : He.DefD := ⟨("_law_is_disk", none), "_law_is_disk", "_law_is_disk", defArgs z__law_is_disk, defBody z__law_is_disk, defScope z__law_is_disk, [], []⟩
abbrev z__law_are_records : Stmt := topS 39
def d34 : He.DefD := ⟨("_law_are_records", none), "_law_are_records", "_law_are_records", defArgs z__law_are_records, defBody z__law_are_records, defScope z__law_are_records, [], []⟩
abbrev z_law : Stmt := topS 40
def d35 : He.DefD := ⟨("law", none), "law", "law", defArgs z_law, defBody z_law, defScope z_law, [], []⟩
def fn : List He.DefD := [d0, d1, d2, d3, d4, d5, d6, d7, d8, d9, d10, d11, d12, d13, d14, d15, d16, d17, d18, d19, d20, d21, d22, d23, d24, d25, d26, d27, d28, d29, d30, d31, d32, d33, d34, d35]
def fa0 : List He.Fa := [.free "isinstance", .free "int", .free "bool", .free "tuple", .free "len", .free "str", .free "all", .str "FIRST_SIGN" " ", .str "LAST_SIGN" "~", .glo "NoNumber", .exc "NoNumber", .glo "NoLine", .exc "NoLine", .cls "Disk", .noat "Disk" "written", .noat "Disk" "lasting", .free "list", .glo "NoCut", .exc "NoCut", .free "zip", .free "min", .str "COLON" ":", .str "FIGURES" "0123456789", .free "range", .glo "PieceError", .glo "is_integer", .glo "is_within", .glo "is_sized", .glo "are_signs", .glo "check_within"]
def fa1 : List He.Fa := [.glo "check_line", .glo "Disk", .mkr "Disk", .meth "Disk" "write", .meth "Disk" "sync", .meth "Disk" "lines", .meth "Disk" "synced", .meth "Disk" "cut", .meth "Disk" "drop", .meth "Disk" "copy", .glo "raw_record", .glo "record", .glo "number_of_word", .glo "raw_contents", .glo "read_record", .glo "_law_hand", .glo "_law_draw", .glo "_law_is", .glo "_law_any_sign", .glo "_law_sign", .glo "_law_text", .glo "_law_line", .glo "_law_record", .glo "_law_contents", .glo "_law_is_number", .glo "_law_called", .glo "_law_is_line", .glo "_law_did", .glo "_law_deed", .glo "_law_is_disk"]
def fa2 : List He.Fa := [.glo "_law_are_records", .glo "law", .exm "PieceError" "NoLine" false, .exm "PieceError" "NoCut" false, .exm "PieceError" "NoNumber" false, .exm "PieceError" "PieceError" true, .exm "NoCut" "NoLine" false, .exm "NoCut" "NoCut" true, .exm "NoCut" "NoNumber" false, .exm "NoCut" "PieceError" true, .exm "NoNumber" "NoLine" false, .exm "NoNumber" "NoCut" false, .exm "NoNumber" "NoNumber" true, .exm "NoNumber" "PieceError" true, .exm "NoLine" "NoLine" true, .exm "NoLine" "NoCut" false, .exm "NoLine" "NoNumber" false, .exm "NoLine" "PieceError" true]
def fa : List He.Fa := fa0 ++ fa1 ++ fa2
structure Tx (K : PySem.W.Frag) (mg : Str → Option Value) : Prop where
  X : ∃ h : Heap, K.In h ∧ h.Ns mainGlobals mg
  c : He.SaysD fa fn K
section
variable {K : PySem.W.Frag} {mg : Str → Option Value} {x y z f : Str} {b : Bool} {n : Int}
theorem Tx.glo (T : Tx K mg) (i : Nat) (h : fa[i]? = some (.glo x) := by rfl) : mg x = some (.ref (He.ga K x)) := by
  obtain ⟨_, X, G⟩ := T.X
  exact He.glo_ok X G (T.c.fact i h)
theorem Tx.free (T : Tx K mg) (i : Nat) (h : fa[i]? = some (.free x) := by rfl) : mg x = none := by
  obtain ⟨_, X, G⟩ := T.X
  exact He.free_ok X G (T.c.fact i h)
theorem Tx.str (T : Tx K mg) (i : Nat) (h : fa[i]? = some (.str x z) := by rfl) : ∃ t, mg x = some (.str z t) := by
  obtain ⟨_, X, G⟩ := T.X
  exact He.str_ok X G (T.c.fact i h)
theorem Tx.int (T : Tx K mg) (i : Nat) (h : fa[i]? = some (.int x n) := by rfl) : ∃ t, mg x = some (.int n t) := by
  obtain ⟨_, X, G⟩ := T.X
  exact He.int_ok X G (T.c.fact i h)
theorem Tx.cls (T : Tx K mg) (i : Nat) (h : fa[i]? = some (.cls x) := by rfl) : Cls K (He.ga K x) := He.cls_ok (T.c.fact i h)
theorem Tx.noat (T : Tx K mg) (i : Nat) (h : fa[i]? = some (.noat x f) := by rfl) : NoAttr K (He.ga K x) f := He.noat_ok (T.c.fact i h)
theorem Tx.meth (T : Tx K mg) (i : Nat) (h : fa[i]? = some (.meth x f) := by rfl) : Meth K (He.ga K x) f (He.ma K (He.ga K x) f) := He.meth_ok (T.c.fact i h)
theorem Tx.mkr (T : Tx K mg) (i : Nat) (h : fa[i]? = some (.mkr x) := by rfl) : Mk K (He.ga K x) (He.ma K (He.ga K x) "__init__") := He.mkr_ok (T.c.fact i h)
theorem Tx.exc (T : Tx K mg) (i j : Nat) (h : fa[i]? = some (.glo x) := by rfl) (h2 : fa[j]? = some (.exc x) := by rfl) : ExcF K mg x :=
  have e := He.exc_ok (T.c.fact j h2)
  ⟨T.glo i h, e.1, e.2.1, e.2.2.1, e.2.2.2⟩
theorem Tx.exm (T : Tx K mg) (i : Nat) (h : fa[i]? = some (.exm x y b) := by rfl) : PySem.W.exmOne K (.ref (He.ga K x)) (.ref (He.ga K y)) = some b := He.exm_ok (T.c.fact i h)
end
/-! ### is_integer -/
theorem sc_is_integer : FnScope ["thing"] ["thing"] (defScope z_is_integer) := ⟨rfl, rfl, rfl, by decide +kernel, rfl, by decide +kernel, by decide +kernel⟩
def c_is_integer : CS := cRet (cAndV (cIsi "int" (cVar 0)) (cNotV (cIsi "bool" (cVar 0))))
theorem ok_is_integer {P : Program} {w : World} {K : PySem.W.Frag} {mg : Str → Option Value} {base : Heap} {k : Nat} {sp : SpD} (T : Tx K mg)  (hl : ∀ ds G k, sp ds G k → ds.length = 1) (hk : Keeps 1 (c_is_integer) sp) : FnG P w K mg base "is_integer" (k + 1) sp := by
  obtain ⟨fd, F⟩ := T.c.def_ 0 (d := d0) rfl
  refine ⟨_, T.glo 25, fnA_ok F sc_is_integer (fun _ _ _ _ _ _ us hl => match us, hl with | [_], _ => rfl) (fun cdv A outer s H E hr => ?_) hl hk⟩
  exact dss_one (ds_ret (de_and (de_isi (n := "int") (T.free 0) (T.free 1) (de_var (i := 0))) (de_one (de_not (de_isi (n := "bool") (T.free 0) (T.free 2) (de_var (i := 0)))))))
/-! ### is_within -/
theorem sc_is_within : FnScope ["thing", "least", "most"] ["thing", "least", "most"] (defScope z_is_within) := ⟨rfl, rfl, rfl, by decide +kernel, rfl, by decide +kernel, by decide +kernel⟩
def c_is_within (sp_is_integer : SpD) : CS := cRet (cAndV (cCall sp_is_integer (cCons (cVar 0) (cNil))) (cChain leD leD (cVar 1) (cVar 0) (cVar 2)))
theorem ok_is_within {P : Program} {w : World} {K : PySem.W.Frag} {mg : Str → Option Value} {base : Heap} {k : Nat} {sp_is_integer sp : SpD} (T : Tx K mg) (h_is_integer : FnG P w K mg base "is_integer" k sp_is_integer) (hl : ∀ ds G k, sp ds G k → ds.length = 3) (hk : Keeps 3 (c_is_within sp_is_integer) sp) : FnG P w K mg base "is_within" (k + 1) sp := by
  obtain ⟨fd, F⟩ := T.c.def_ 1 (d := d1) rfl
  refine ⟨_, T.glo 26, fnA_ok F sc_is_within (fun _ _ _ _ _ _ us hl => match us, hl with | [_, _, _], _ => rfl) (fun cdv A outer s H E hr => ?_) hl hk⟩
  exact dss_one (ds_ret (de_and (de_call h_is_integer hr (takes_of rfl rfl rfl rfl) (da_cons (de_var (i := 0)) (da_nil))) (de_one (de_chain op_leD op_leD (de_var (i := 1)) (de_var (i := 0)) (de_var (i := 2))))))
/-! ### is_sized -/
theorem sc_is_sized : FnScope ["thing", "least", "most"] ["thing", "least", "most"] (defScope z_is_sized) := ⟨rfl, rfl, rfl, by decide +kernel, rfl, by decide +kernel, by decide +kernel⟩
def c_is_sized : CS := cRet (cAndV (cIsi "tuple" (cVar 0)) (cChain leD leD (cVar 1) (cCB lenD (cCons (cVar 0) (cNil))) (cVar 2)))
theorem ok_is_sized {P : Program} {w : World} {K : PySem.W.Frag} {mg : Str → Option Value} {base : Heap} {k : Nat} {sp : SpD} (T : Tx K mg)  (hl : ∀ ds G k, sp ds G k → ds.length = 3) (hk : Keeps 3 (c_is_sized) sp) : FnG P w K mg base "is_sized" (k + 1) sp := by
  obtain ⟨fd, F⟩ := T.c.def_ 2 (d := d2) rfl
  refine ⟨_, T.glo 27, fnA_ok F sc_is_sized (fun _ _ _ _ _ _ us hl => match us, hl with | [_, _, _], _ => rfl) (fun cdv A outer s H E hr => ?_) hl hk⟩
  exact dss_one (ds_ret (de_and (de_isi (n := "tuple") (T.free 0) (T.free 3) (de_var (i := 0))) (de_one (de_chain op_leD op_leD (de_var (i := 1)) (de_callB call_lenD (T.free 4) (da_cons (de_var (i := 0)) (da_nil))) (de_var (i := 2))))))
/-! ### are_signs -/
theorem sc_are_signs : FnScope ["thing", "sign"] ["thing"] (defScope z_are_signs) := ⟨rfl, rfl, rfl, by decide +kernel, rfl, by decide +kernel, by decide +kernel⟩
def c_are_signs : CS := cRet (cAndV (cIsi "str" (cVar 0)) (cCB allC (cCons (cLc (cItA (cVar 0)) (gNm 1) (cYes) (cChain leD leD (cC (.str s_0)) (cVar 1) (cC (.str s_1))) [1]) (cNil))))
theorem ok_are_signs {P : Program} {w : World} {K : PySem.W.Frag} {mg : Str → Option Value} {base : Heap} {k : Nat} {sp : SpD} (T : Tx K mg)  (hl : ∀ ds G k, sp ds G k → ds.length = 1) (hk : Keeps 2 (c_are_signs) sp) : FnG P w K mg base "are_signs" (k + 1) sp := by
  obtain ⟨fd, F⟩ := T.c.def_ 3 (d := d3) rfl
  refine ⟨_, T.glo 28, fnA_ok F sc_are_signs (fun _ _ _ _ _ _ us hl => match us, hl with | [_], _ => rfl) (fun cdv A outer s H E hr => ?_) hl hk⟩
  exact dss_one (ds_ret (de_and (de_isi (n := "str") (T.free 0) (T.free 5) (de_var (i := 0))) (de_one (de_callB (call_allC rfl) (T.free 6) (da_cons (de_lc (own := [("sign", 1)]) rfl sc_are_signs.nd (di_any (de_var (i := 0))) (blkOk_by (by rfl)) (fun _ _ _ _ _ => dg_name (i := 1) sc_are_signs.nd) (fun _ _ _ _ _ => dts_nil) (fun _ _ _ _ _ => de_chain op_leD op_leD (de_gstr (T.str 7) q_0) (de_var (i := 1)) (de_gstr (T.str 8) q_1))) (da_nil))))))
/-! ### check_within -/
theorem sc_check_within : FnScope ["thing", "least", "most"] ["thing", "least", "most"] (defScope z_check_within) := ⟨rfl, rfl, rfl, by decide +kernel, rfl, by decide +kernel, by decide +kernel⟩
def c_check_within (sp_is_within : SpD) : CS := cIfS (cNot (cB (cCall sp_is_within (cCons (cVar 0) (cCons (cVar 1) (cCons (cVar 2) (cNil))))))) (cRaise "NoNumber") (cNext)
theorem ok_check_within {P : Program} {w : World} {K : PySem.W.Frag} {mg : Str → Option Value} {base : Heap} {k : Nat} {sp_is_within sp : SpD} (T : Tx K mg) (h_is_within : FnG P w K mg base "is_within" k sp_is_within) (hl : ∀ ds G k, sp ds G k → ds.length = 3) (hk : Keeps 3 (c_check_within sp_is_within) sp) : FnG P w K mg base "check_within" (k + 1) sp := by
  obtain ⟨fd, F⟩ := T.c.def_ 4 (d := d4) rfl
  refine ⟨_, T.glo 29, fnA_ok F sc_check_within (fun _ _ _ _ _ _ us hl => match us, hl with | [_, _, _], _ => rfl) (fun cdv A outer s H E hr => ?_) hl hk⟩
  exact dss_one (ds_if (dt_not (dt_val (de_call h_is_within hr (takes_of rfl rfl rfl rfl) (da_cons (de_var (i := 0)) (da_cons (de_var (i := 1)) (da_cons (de_var (i := 2)) (da_nil))))))) (dss_one (ds_raise (T.exc 9 10) rfl (takes_of rfl rfl rfl rfl))) (dss_nil))
/-! ### check_line -/
theorem sc_check_line : FnScope ["thing"] ["thing"] (defScope z_check_line) := ⟨rfl, rfl, rfl, by decide +kernel, rfl, by decide +kernel, by decide +kernel⟩
def c_check_line (sp_are_signs : SpD) : CS := cIfS (cNot (cB (cCall sp_are_signs (cCons (cVar 0) (cNil))))) (cRaise "NoLine") (cNext)
theorem ok_check_line {P : Program} {w : World} {K : PySem.W.Frag} {mg : Str → Option Value} {base : Heap} {k : Nat} {sp_are_signs sp : SpD} (T : Tx K mg) (h_are_signs : FnG P w K mg base "are_signs" k sp_are_signs) (hl : ∀ ds G k, sp ds G k → ds.length = 1) (hk : Keeps 1 (c_check_line sp_are_signs) sp) : FnG P w K mg base "check_line" (k + 1) sp := by
  obtain ⟨fd, F⟩ := T.c.def_ 5 (d := d5) rfl
  refine ⟨_, T.glo 30, fnA_ok F sc_check_line (fun _ _ _ _ _ _ us hl => match us, hl with | [_], _ => rfl) (fun cdv A outer s H E hr => ?_) hl hk⟩
  exact dss_one (ds_if (dt_not (dt_val (de_call h_are_signs hr (takes_of rfl rfl rfl rfl) (da_cons (de_var (i := 0)) (da_nil))))) (dss_one (ds_raise (T.exc 11 12) rfl (takes_of rfl rfl rfl rfl))) (dss_nil))
/-! ### Disk_init -/
theorem sc_Disk_init : FnScope ["self"] ["self"] (defScope z_Disk_init) := ⟨rfl, rfl, rfl, by decide +kernel, rfl, by decide +kernel, by decide +kernel⟩
def c_Disk_init : CS := cSeq (cFldS "Disk" "written" (cVar 0) (cLstM (cNil))) (cFldS "Disk" "lasting" (cVar 0) (cC (.int 0)))
theorem ok_Disk_init {P : Program} {w : World} {K : PySem.W.Frag} {mg : Str → Option Value} {base : Heap} {k : Nat} {sp : SpD} (T : Tx K mg)  (hl : ∀ ds G k, sp ds G k → ds.length = 1) (hk : Keeps 1 (c_Disk_init) sp) : FnC P w K mg base "Disk" (k + 1) sp := by
  obtain ⟨fd, F⟩ := T.c.def_ 6 (d := d6) rfl
  refine ⟨T.glo 31, _, T.mkr 32, fnA_ok F sc_Disk_init (fun _ _ _ _ _ _ us hl => match us, hl with | [_], _ => rfl) (fun cdv A outer s H E hr => ?_) hl hk⟩
  exact dss_cons (ds_fld (T.cls 13) (T.noat 14) (de_var (i := 0)) (de_lstM (da_nil))) (dss_one (ds_fld (T.cls 13) (T.noat 15) (de_var (i := 0)) (de_int)))
/-! ### Disk_write -/
theorem sc_Disk_write : FnScope ["self", "line"] ["self", "line"] (defScope z_Disk_write) := ⟨rfl, rfl, rfl, by decide +kernel, rfl, by decide +kernel, by decide +kernel⟩
def c_Disk_write (sp_check_line : SpD) : CS := cSeq (cDrop (cCall sp_check_line (cCons (cVar 1) (cNil)))) (cSeq (cDrop (cBM "list" appM (cFld "Disk" "written" (cVar 0)) (cCons (cVar 1) (cNil)))) (cRet (cOp subD (cCB lenD (cCons (cFld "Disk" "written" (cVar 0)) (cNil))) (cC (.int 1)))))
theorem ok_Disk_write {P : Program} {w : World} {K : PySem.W.Frag} {mg : Str → Option Value} {base : Heap} {k : Nat} {sp_check_line sp : SpD} (T : Tx K mg) (h_check_line : FnG P w K mg base "check_line" k sp_check_line) (hl : ∀ ds G k, sp ds G k → ds.length = 2) (hk : Keeps 2 (c_Disk_write sp_check_line) sp) : FnM P w K mg base "Disk" "write" (k + 1) sp := by
  obtain ⟨fd, F⟩ := T.c.def_ 7 (d := d7) rfl
  refine ⟨T.cls 13, _, T.meth 33, fnA_ok F sc_Disk_write (fun _ _ _ _ _ _ us hl => match us, hl with | [_, _], _ => rfl) (fun cdv A outer s H E hr => ?_) hl hk⟩
  exact dss_cons (ds_expr (de_call h_check_line hr (takes_of rfl rfl rfl rfl) (da_cons (de_var (i := 1)) (da_nil)))) (dss_cons (ds_expr (de_bm PySem.F.plainAttrs_list PySem.F.slot_list_append PySem.F.type_list_append mt_appM (de_fld (T.cls 13) (T.noat 14) (de_var (i := 0))) (da_cons (de_var (i := 1)) (da_nil)))) (dss_one (ds_ret (de_op op_subD (de_callB call_lenD (T.free 4) (da_cons (de_fld (T.cls 13) (T.noat 14) (de_var (i := 0))) (da_nil))) (de_int)))))
/-! ### Disk_sync -/
theorem sc_Disk_sync : FnScope ["self", "found"] ["self"] (defScope z_Disk_sync) := ⟨rfl, rfl, rfl, by decide +kernel, rfl, by decide +kernel, by decide +kernel⟩
def c_Disk_sync : CS := cSeq (cSet 1 (cOp subD (cCB lenD (cCons (cFld "Disk" "written" (cVar 0)) (cNil))) (cFld "Disk" "lasting" (cVar 0)))) (cSeq (cFldS "Disk" "lasting" (cVar 0) (cCB lenD (cCons (cFld "Disk" "written" (cVar 0)) (cNil)))) (cRet (cVar 1)))
theorem ok_Disk_sync {P : Program} {w : World} {K : PySem.W.Frag} {mg : Str → Option Value} {base : Heap} {k : Nat} {sp : SpD} (T : Tx K mg)  (hl : ∀ ds G k, sp ds G k → ds.length = 1) (hk : Keeps 2 (c_Disk_sync) sp) : FnM P w K mg base "Disk" "sync" (k + 1) sp := by
  obtain ⟨fd, F⟩ := T.c.def_ 8 (d := d8) rfl
  refine ⟨T.cls 13, _, T.meth 34, fnA_ok F sc_Disk_sync (fun _ _ _ _ _ _ us hl => match us, hl with | [_], _ => rfl) (fun cdv A outer s H E hr => ?_) hl hk⟩
  exact dss_cons (ds_set (i := 1) sc_Disk_sync.nd (de_op op_subD (de_callB call_lenD (T.free 4) (da_cons (de_fld (T.cls 13) (T.noat 14) (de_var (i := 0))) (da_nil))) (de_fld (T.cls 13) (T.noat 15) (de_var (i := 0))))) (dss_cons (ds_fld (T.cls 13) (T.noat 15) (de_var (i := 0)) (de_callB call_lenD (T.free 4) (da_cons (de_fld (T.cls 13) (T.noat 14) (de_var (i := 0))) (da_nil)))) (dss_one (ds_ret (de_var (i := 1)))))
/-! ### Disk_lines -/
theorem sc_Disk_lines : FnScope ["self"] ["self"] (defScope z_Disk_lines) := ⟨rfl, rfl, rfl, by decide +kernel, rfl, by decide +kernel, by decide +kernel⟩
def c_Disk_lines : CS := cRet (cCB listM (cCons (cFld "Disk" "written" (cVar 0)) (cNil)))
theorem ok_Disk_lines {P : Program} {w : World} {K : PySem.W.Frag} {mg : Str → Option Value} {base : Heap} {k : Nat} {sp : SpD} (T : Tx K mg)  (hl : ∀ ds G k, sp ds G k → ds.length = 1) (hk : Keeps 1 (c_Disk_lines) sp) : FnM P w K mg base "Disk" "lines" (k + 1) sp := by
  obtain ⟨fd, F⟩ := T.c.def_ 9 (d := d9) rfl
  refine ⟨T.cls 13, _, T.meth 35, fnA_ok F sc_Disk_lines (fun _ _ _ _ _ _ us hl => match us, hl with | [_], _ => rfl) (fun cdv A outer s H E hr => ?_) hl hk⟩
  exact dss_one (ds_ret (de_callTy call_listM (T.free 16) (da_cons (de_fld (T.cls 13) (T.noat 14) (de_var (i := 0))) (da_nil))))
/-! ### Disk_synced -/
theorem sc_Disk_synced : FnScope ["self"] ["self"] (defScope z_Disk_synced) := ⟨rfl, rfl, rfl, by decide +kernel, rfl, by decide +kernel, by decide +kernel⟩
def c_Disk_synced : CS := cRet (cFld "Disk" "lasting" (cVar 0))
theorem ok_Disk_synced {P : Program} {w : World} {K : PySem.W.Frag} {mg : Str → Option Value} {base : Heap} {k : Nat} {sp : SpD} (T : Tx K mg)  (hl : ∀ ds G k, sp ds G k → ds.length = 1) (hk : Keeps 1 (c_Disk_synced) sp) : FnM P w K mg base "Disk" "synced" (k + 1) sp := by
  obtain ⟨fd, F⟩ := T.c.def_ 10 (d := d10) rfl
  refine ⟨T.cls 13, _, T.meth 36, fnA_ok F sc_Disk_synced (fun _ _ _ _ _ _ us hl => match us, hl with | [_], _ => rfl) (fun cdv A outer s H E hr => ?_) hl hk⟩
  exact dss_one (ds_ret (de_fld (T.cls 13) (T.noat 15) (de_var (i := 0))))
/-! ### Disk_cut -/
theorem sc_Disk_cut : FnScope ["self", "kept", "waiting", "many", "line"] ["self", "kept"] (defScope z_Disk_cut) := ⟨rfl, rfl, rfl, by decide +kernel, rfl, by decide +kernel, by decide +kernel⟩
def c_Disk_cut (sp_is_sized sp_is_within : SpD) : CS := cSeq (cSet 2 (cSl slD (cFld "Disk" "written" (cVar 0)) (cP (cFld "Disk" "lasting" (cVar 0))) (cNoP))) (cSeq (cIfS (cNot (cB (cCall sp_is_sized (cCons (cVar 1) (cCons (cCB lenD (cCons (cVar 2) (cNil))) (cCons (cCB lenD (cCons (cVar 2) (cNil))) (cNil))))))) (cRaise "NoCut") (cNext)) (cSeq (cIfS (cNot (cB (cCB allC (cCons (cLc (cItZK (cCons (cVar 1) (cCons (cVar 2) (cNil)))) (gTupD 2 (gConsD (gNm 3) (gConsD (gNm 4) (gNilD)))) (cYes) (cCall sp_is_within (cCons (cVar 3) (cCons (cC (.int 0)) (cCons (cCB lenD (cCons (cVar 4) (cNil))) (cNil))))) [3, 4]) (cNil))))) (cRaise "NoCut") (cNext)) (cSeq (cFldS "Disk" "written" (cVar 0) (cOp catM (cSl slD (cFld "Disk" "written" (cVar 0)) (cNoP) (cP (cFld "Disk" "lasting" (cVar 0)))) (cLc (cItZK (cCons (cVar 1) (cCons (cVar 2) (cNil)))) (gTupD 2 (gConsD (gNm 3) (gConsD (gNm 4) (gNilD)))) (cYes) (cSl slD (cVar 4) (cNoP) (cP (cVar 3))) [3, 4]))) (cFldS "Disk" "lasting" (cVar 0) (cCB lenD (cCons (cFld "Disk" "written" (cVar 0)) (cNil)))))))
theorem ok_Disk_cut {P : Program} {w : World} {K : PySem.W.Frag} {mg : Str → Option Value} {base : Heap} {k : Nat} {sp_is_sized sp_is_within sp : SpD} (T : Tx K mg) (h_is_sized : FnG P w K mg base "is_sized" k sp_is_sized) (h_is_within : FnG P w K mg base "is_within" k sp_is_within) (hl : ∀ ds G k, sp ds G k → ds.length = 2) (hk : Keeps 5 (c_Disk_cut sp_is_sized sp_is_within) sp) : FnM P w K mg base "Disk" "cut" (k + 1) sp := by
  obtain ⟨fd, F⟩ := T.c.def_ 11 (d := d11) rfl
  refine ⟨T.cls 13, _, T.meth 37, fnA_ok F sc_Disk_cut (fun _ _ _ _ _ _ us hl => match us, hl with | [_, _], _ => rfl) (fun cdv A outer s H E hr => ?_) hl hk⟩
  exact dss_cons (ds_set (i := 2) sc_Disk_cut.nd (de_slice sl_D (de_fld (T.cls 13) (T.noat 14) (de_var (i := 0))) (do_some (de_fld (T.cls 13) (T.noat 15) (de_var (i := 0)))) (do_none))) (dss_cons (ds_if (dt_not (dt_val (de_call h_is_sized hr (takes_of rfl rfl rfl rfl) (da_cons (de_var (i := 1)) (da_cons (de_callB call_lenD (T.free 4) (da_cons (de_var (i := 2)) (da_nil))) (da_cons (de_callB call_lenD (T.free 4) (da_cons (de_var (i := 2)) (da_nil))) (da_nil))))))) (dss_one (ds_raise (T.exc 17 18) rfl (takes_of rfl rfl rfl rfl))) (dss_nil)) (dss_cons (ds_if (dt_not (dt_val (de_callB (call_allC rfl) (T.free 6) (da_cons (de_lc (own := [("many", 3), ("line", 4)]) rfl sc_Disk_cut.nd (di_zipK (T.free 19) (da_cons (de_var (i := 1)) (da_cons (de_var (i := 2)) (da_nil)))) (blkOk_by (by rfl)) (fun _ _ _ _ _ => dg_tup rfl (dgs_cons (dg_name (i := 3) sc_Disk_cut.nd) (dgs_cons (dg_name (i := 4) sc_Disk_cut.nd) (dgs_nil)))) (fun _ _ _ _ _ => dts_nil) (fun _ _ _ _ _ => de_call h_is_within hr takes0 (da_cons (de_var (i := 3)) (da_cons (de_int) (da_cons (de_callB call_lenD (T.free 4) (da_cons (de_var (i := 4)) (da_nil))) (da_nil)))))) (da_nil))))) (dss_one (ds_raise (T.exc 17 18) rfl (takes_of rfl rfl rfl rfl))) (dss_nil)) (dss_cons (ds_fld (T.cls 13) (T.noat 14) (de_var (i := 0)) (de_op op_catM (de_slice sl_D (de_fld (T.cls 13) (T.noat 14) (de_var (i := 0))) (do_none) (do_some (de_fld (T.cls 13) (T.noat 15) (de_var (i := 0))))) (de_lc (own := [("many", 3), ("line", 4)]) rfl sc_Disk_cut.nd (di_zipK (T.free 19) (da_cons (de_var (i := 1)) (da_cons (de_var (i := 2)) (da_nil)))) (blkOk_by (by rfl)) (fun _ _ _ _ _ => dg_tup rfl (dgs_cons (dg_name (i := 3) sc_Disk_cut.nd) (dgs_cons (dg_name (i := 4) sc_Disk_cut.nd) (dgs_nil)))) (fun _ _ _ _ _ => dts_nil) (fun _ _ _ _ _ => de_slice sl_D (de_var (i := 4)) (do_none) (do_some (de_var (i := 3))))))) (dss_one (ds_fld (T.cls 13) (T.noat 15) (de_var (i := 0)) (de_callB call_lenD (T.free 4) (da_cons (de_fld (T.cls 13) (T.noat 14) (de_var (i := 0))) (da_nil))))))))
/-! ### Disk_drop -/
theorem sc_Disk_drop : FnScope ["self", "number"] ["self", "number"] (defScope z_Disk_drop) := ⟨rfl, rfl, rfl, by decide +kernel, rfl, by decide +kernel, by decide +kernel⟩
def c_Disk_drop (sp_check_within : SpD) : CS := cSeq (cDrop (cCall sp_check_within (cCons (cVar 1) (cCons (cC (.int 0)) (cCons (cCB lenD (cCons (cFld "Disk" "written" (cVar 0)) (cNil))) (cNil)))))) (cSeq (cFldS "Disk" "written" (cVar 0) (cSl slM (cFld "Disk" "written" (cVar 0)) (cNoP) (cP (cVar 1)))) (cFldS "Disk" "lasting" (cVar 0) (cCB min2 (cCons (cFld "Disk" "lasting" (cVar 0)) (cCons (cVar 1) (cNil))))))
theorem ok_Disk_drop {P : Program} {w : World} {K : PySem.W.Frag} {mg : Str → Option Value} {base : Heap} {k : Nat} {sp_check_within sp : SpD} (T : Tx K mg) (h_check_within : FnG P w K mg base "check_within" k sp_check_within) (hl : ∀ ds G k, sp ds G k → ds.length = 2) (hk : Keeps 2 (c_Disk_drop sp_check_within) sp) : FnM P w K mg base "Disk" "drop" (k + 1) sp := by
  obtain ⟨fd, F⟩ := T.c.def_ 12 (d := d12) rfl
  refine ⟨T.cls 13, _, T.meth 38, fnA_ok F sc_Disk_drop (fun _ _ _ _ _ _ us hl => match us, hl with | [_, _], _ => rfl) (fun cdv A outer s H E hr => ?_) hl hk⟩
  exact dss_cons (ds_expr (de_call h_check_within hr (takes_of rfl rfl rfl rfl) (da_cons (de_var (i := 1)) (da_cons (de_int) (da_cons (de_callB call_lenD (T.free 4) (da_cons (de_fld (T.cls 13) (T.noat 14) (de_var (i := 0))) (da_nil))) (da_nil)))))) (dss_cons (ds_fld (T.cls 13) (T.noat 14) (de_var (i := 0)) (de_slice sl_M (de_fld (T.cls 13) (T.noat 14) (de_var (i := 0))) (do_none) (do_some (de_var (i := 1))))) (dss_one (ds_fld (T.cls 13) (T.noat 15) (de_var (i := 0)) (de_callB (call_min2D rfl) (T.free 20) (da_cons (de_fld (T.cls 13) (T.noat 15) (de_var (i := 0))) (da_cons (de_var (i := 1)) (da_nil)))))))
/-! ### Disk_copy -/
theorem sc_Disk_copy : FnScope ["self", "found"] ["self"] (defScope z_Disk_copy) := ⟨rfl, rfl, rfl, by decide +kernel, rfl, by decide +kernel, by decide +kernel⟩
def c_Disk_copy (sp_Disk_init : SpD) : CS := cSeq (cSet 1 (cMake "Disk" sp_Disk_init cNil)) (cSeq (cFldS "Disk" "written" (cVar 1) (cCB listM (cCons (cFld "Disk" "written" (cVar 0)) (cNil)))) (cSeq (cFldS "Disk" "lasting" (cVar 1) (cFld "Disk" "lasting" (cVar 0))) (cRet (cVar 1))))
theorem ok_Disk_copy {P : Program} {w : World} {K : PySem.W.Frag} {mg : Str → Option Value} {base : Heap} {k j : Nat} {sp_Disk_init sp : SpD} (T : Tx K mg) (h_Disk_init : FnC P w K mg base "Disk" j sp_Disk_init) (hj : j + 1 ≤ k) (hl : ∀ ds G k, sp ds G k → ds.length = 1) (hk : Keeps 2 (c_Disk_copy sp_Disk_init) sp) : FnM P w K mg base "Disk" "copy" (k + 1) sp := by
  obtain ⟨fd, F⟩ := T.c.def_ 13 (d := d13) rfl
  refine ⟨T.cls 13, _, T.meth 39, fnA_ok F sc_Disk_copy (fun _ _ _ _ _ _ us hl => match us, hl with | [_], _ => rfl) (fun cdv A outer s H E hr => ?_) hl hk⟩
  exact dss_cons (ds_set (i := 1) sc_Disk_copy.nd (de_make0 h_Disk_init (hr.mono hj) (takes_of rfl rfl rfl rfl))) (dss_cons (ds_fld (T.cls 13) (T.noat 14) (de_var (i := 1)) (de_callTy call_listM (T.free 16) (da_cons (de_fld (T.cls 13) (T.noat 14) (de_var (i := 0))) (da_nil)))) (dss_cons (ds_fld (T.cls 13) (T.noat 15) (de_var (i := 1)) (de_fld (T.cls 13) (T.noat 15) (de_var (i := 0)))) (dss_one (ds_ret (de_var (i := 1))))))
/-! ### raw_record -/
theorem sc_raw_record : FnScope ["line"] ["line"] (defScope z_raw_record) := ⟨rfl, rfl, rfl, by decide +kernel, rfl, by decide +kernel, by decide +kernel⟩
def c_raw_record : CS := cRet (cOp addD (cOp addD (cCB strC (cCons (cCB lenD (cCons (cVar 0) (cNil))) (cNil))) (cC (.str s_2))) (cVar 0))
theorem ok_raw_record {P : Program} {w : World} {K : PySem.W.Frag} {mg : Str → Option Value} {base : Heap} {k : Nat} {sp : SpD} (T : Tx K mg)  (hl : ∀ ds G k, sp ds G k → ds.length = 1) (hk : Keeps 1 (c_raw_record) sp) : FnG P w K mg base "raw_record" (k + 1) sp := by
  obtain ⟨fd, F⟩ := T.c.def_ 14 (d := d14) rfl
  refine ⟨_, T.glo 40, fnA_ok F sc_raw_record (fun _ _ _ _ _ _ us hl => match us, hl with | [_], _ => rfl) (fun cdv A outer s H E hr => ?_) hl hk⟩
  exact dss_one (ds_ret (de_op op_addD (de_op op_addD (de_callTy call_strC (T.free 5) (da_cons (de_callB call_lenD (T.free 4) (da_cons (de_var (i := 0)) (da_nil))) (da_nil))) (de_gstr (T.str 21) q_2)) (de_var (i := 0))))
/-! ### record -/
theorem sc_record : FnScope ["line"] ["line"] (defScope z_record) := ⟨rfl, rfl, rfl, by decide +kernel, rfl, by decide +kernel, by decide +kernel⟩
def c_record (sp_check_line sp_raw_record : SpD) : CS := cSeq (cDrop (cCall sp_check_line (cCons (cVar 0) (cNil)))) (cRet (cCall sp_raw_record (cCons (cVar 0) (cNil))))
theorem ok_record {P : Program} {w : World} {K : PySem.W.Frag} {mg : Str → Option Value} {base : Heap} {k : Nat} {sp_check_line sp_raw_record sp : SpD} (T : Tx K mg) (h_check_line : FnG P w K mg base "check_line" k sp_check_line) (h_raw_record : FnG P w K mg base "raw_record" k sp_raw_record) (hl : ∀ ds G k, sp ds G k → ds.length = 1) (hk : Keeps 1 (c_record sp_check_line sp_raw_record) sp) : FnG P w K mg base "record" (k + 1) sp := by
  obtain ⟨fd, F⟩ := T.c.def_ 15 (d := d15) rfl
  refine ⟨_, T.glo 41, fnA_ok F sc_record (fun _ _ _ _ _ _ us hl => match us, hl with | [_], _ => rfl) (fun cdv A outer s H E hr => ?_) hl hk⟩
  exact dss_cons (ds_expr (de_call h_check_line hr (takes_of rfl rfl rfl rfl) (da_cons (de_var (i := 0)) (da_nil)))) (dss_one (ds_ret (de_call h_raw_record hr (takes_of rfl rfl rfl rfl) (da_cons (de_var (i := 0)) (da_nil)))))
/-! ### number_of_word -/
theorem sc_number_of_word : FnScope ["word", "sign"] ["word"] (defScope z_number_of_word) := ⟨rfl, rfl, rfl, by decide +kernel, rfl, by decide +kernel, by decide +kernel⟩
def c_number_of_word : CS := cSeq (cIfS (cOr (cB (cOp eqD (cVar 0) (cC (.str s_3)))) (cOr (cNot (cB (cCB allC (cCons (cLc (cItA (cVar 0)) (gNm 1) (cYes) (cOp (inD false) (cVar 1) (cC (.str s_4))) [1]) (cNil))))) (cAnd (cB (cOp eqD (cOp ixD (cVar 0) (cC (.int 0))) (cC (.str s_5)))) (cB (cOp gtD (cCB lenD (cCons (cVar 0) (cNil))) (cC (.int 1))))))) (cRet (cC .non)) (cNext)) (cRet (cIf (cB (cOp ltD (cCB lenD (cCons (cVar 0) (cNil))) (cC (.int 20)))) (cCB intC (cCons (cVar 0) (cNil))) (cC .non)))
theorem ok_number_of_word {P : Program} {w : World} {K : PySem.W.Frag} {mg : Str → Option Value} {base : Heap} {k : Nat} {sp : SpD} (T : Tx K mg)  (hl : ∀ ds G k, sp ds G k → ds.length = 1) (hk : Keeps 2 (c_number_of_word) sp) : FnG P w K mg base "number_of_word" (k + 1) sp := by
  obtain ⟨fd, F⟩ := T.c.def_ 16 (d := d16) rfl
  refine ⟨_, T.glo 42, fnA_ok F sc_number_of_word (fun _ _ _ _ _ _ us hl => match us, hl with | [_], _ => rfl) (fun cdv A outer s H E hr => ?_) hl hk⟩
  exact dss_cons (ds_if ((dw_or (dt_cmp (op_eqDD hr.units) (de_var (i := 0)) (de_str q_3)) (dw_or (dt_not (dt_val (de_callB (call_allC rfl) (T.free 6) (da_cons (de_lc (own := [("sign", 1)]) rfl sc_number_of_word.nd (di_any (de_var (i := 0))) (blkOk_by (by rfl)) (fun _ _ _ _ _ => dg_name (i := 1) sc_number_of_word.nd) (fun _ _ _ _ _ => dts_nil) (fun _ _ _ _ _ => de_cmp op_inDf (de_var (i := 1)) (de_gstr (T.str 22) q_4))) (da_nil))))) (dw_or1 ((dw_and (dt_cmp (op_eqDD hr.units) (de_ix (de_var (i := 0)) (de_int)) (de_str q_5)) (dw_and1 (dt_cmp op_gtD (de_callB call_lenD (T.free 4) (da_cons (de_var (i := 0)) (da_nil))) (de_int)))).pt)))).pt) (dss_one (ds_ret (de_non))) (dss_nil)) (dss_one (ds_ret (de_if (dt_cmp op_ltD (de_callB call_lenD (T.free 4) (da_cons (de_var (i := 0)) (da_nil))) (de_int)) (de_callTy call_intC (T.free 1) (da_cons (de_var (i := 0)) (da_nil))) (de_non))))
/-! ### raw_contents -/
theorem sc_raw_contents : FnScope ["line", "at"] ["line"] (defScope z_raw_contents) := ⟨rfl, rfl, rfl, by decide +kernel, rfl, by decide +kernel, by decide +kernel⟩
def c_raw_contents (sp_number_of_word : SpD) : CS := cSeq (cSet 1 (cBM "str" findM (cVar 0) (cCons (cC (.str s_2)) (cNil)))) (cSeq (cIfS (cOr (cB (cOp ltD (cVar 1) (cC (.int 0)))) (cB (cOp neD (cCall sp_number_of_word (cCons (cSl slD (cVar 0) (cNoP) (cP (cVar 1))) (cNil))) (cOp subD (cOp subD (cCB lenD (cCons (cVar 0) (cNil))) (cVar 1)) (cC (.int 1)))))) (cRet (cC .non)) (cNext)) (cRet (cSl slD (cVar 0) (cP (cOp addD (cVar 1) (cC (.int 1)))) (cNoP))))
theorem ok_raw_contents {P : Program} {w : World} {K : PySem.W.Frag} {mg : Str → Option Value} {base : Heap} {k : Nat} {sp_number_of_word sp : SpD} (T : Tx K mg) (h_number_of_word : FnG P w K mg base "number_of_word" k sp_number_of_word) (hl : ∀ ds G k, sp ds G k → ds.length = 1) (hk : Keeps 2 (c_raw_contents sp_number_of_word) sp) : FnG P w K mg base "raw_contents" (k + 1) sp := by
  obtain ⟨fd, F⟩ := T.c.def_ 17 (d := d17) rfl
  refine ⟨_, T.glo 43, fnA_ok F sc_raw_contents (fun _ _ _ _ _ _ us hl => match us, hl with | [_], _ => rfl) (fun cdv A outer s H E hr => ?_) hl hk⟩
  exact dss_cons (ds_set (i := 1) sc_raw_contents.nd (de_bm PySem.F.plainAttrs_str PySem.F.slot_str_find PySem.F.type_str_find mt_findM (de_var (i := 0)) (da_cons (de_gstr (T.str 21) q_2) (da_nil)))) (dss_cons (ds_if ((dw_or (dt_cmp op_ltD (de_var (i := 1)) (de_int)) (dw_or1 (dt_cmp (op_neDD hr.units) (de_call h_number_of_word hr (takes_of rfl rfl rfl rfl) (da_cons (de_slice sl_D (de_var (i := 0)) (do_none) (do_some (de_var (i := 1)))) (da_nil))) (de_op op_subD (de_op op_subD (de_callB call_lenD (T.free 4) (da_cons (de_var (i := 0)) (da_nil))) (de_var (i := 1))) (de_int))))).pt) (dss_one (ds_ret (de_non))) (dss_nil)) (dss_one (ds_ret (de_slice sl_D (de_var (i := 0)) (do_some (de_op op_addD (de_var (i := 1)) (de_int))) (do_none)))))
/-! ### read_record -/
theorem sc_read_record : FnScope ["line"] ["line"] (defScope z_read_record) := ⟨rfl, rfl, rfl, by decide +kernel, rfl, by decide +kernel, by decide +kernel⟩
def c_read_record (sp_check_line sp_raw_contents : SpD) : CS := cSeq (cDrop (cCall sp_check_line (cCons (cVar 0) (cNil)))) (cRet (cCall sp_raw_contents (cCons (cVar 0) (cNil))))
theorem ok_read_record {P : Program} {w : World} {K : PySem.W.Frag} {mg : Str → Option Value} {base : Heap} {k : Nat} {sp_check_line sp_raw_contents sp : SpD} (T : Tx K mg) (h_check_line : FnG P w K mg base "check_line" k sp_check_line) (h_raw_contents : FnG P w K mg base "raw_contents" k sp_raw_contents) (hl : ∀ ds G k, sp ds G k → ds.length = 1) (hk : Keeps 1 (c_read_record sp_check_line sp_raw_contents) sp) : FnG P w K mg base "read_record" (k + 1) sp := by
  obtain ⟨fd, F⟩ := T.c.def_ 18 (d := d18) rfl
  refine ⟨_, T.glo 44, fnA_ok F sc_read_record (fun _ _ _ _ _ _ us hl => match us, hl with | [_], _ => rfl) (fun cdv A outer s H E hr => ?_) hl hk⟩
  exact dss_cons (ds_expr (de_call h_check_line hr (takes_of rfl rfl rfl rfl) (da_cons (de_var (i := 0)) (da_nil)))) (dss_one (ds_ret (de_call h_raw_contents hr (takes_of rfl rfl rfl rfl) (da_cons (de_var (i := 0)) (da_nil)))))
/-! ### _law_hand -/
theorem sc__law_hand : FnScope ["_law_script", "_law_cell"] ["_law_script"] (defScope z__law_hand) := ⟨rfl, rfl, rfl, by decide +kernel, rfl, by decide +kernel, by decide +kernel⟩
def c__law_hand : CS := cRet (cLstM (cCons (cLc (cItA (cSl slD (cVar 0) (cNoP) (cP (cC (.int 63))))) (gNm 1) (cYes) (cCB intC (cCons (cVar 1) (cNil))) [1]) (cCons (cC (.int 0)) (cCons (cC (.int 0)) (cCons (cOp addD (cC (.int 1)) (cCB lenD (cCons (cSl slD (cVar 0) (cNoP) (cP (cC (.int 63)))) (cNil)))) (cCons (cC (.int 0)) (cNil)))))))
theorem ok__law_hand {P : Program} {w : World} {K : PySem.W.Frag} {mg : Str → Option Value} {base : Heap} {k : Nat} {sp : SpD} (T : Tx K mg)  (hl : ∀ ds G k, sp ds G k → ds.length = 1) (hk : Keeps 2 (c__law_hand) sp) : FnG P w K mg base "_law_hand" (k + 1) sp := by
  obtain ⟨fd, F⟩ := T.c.def_ 19 (d := d19) rfl
  refine ⟨_, T.glo 45, fnA_ok F sc__law_hand (fun _ _ _ _ _ _ us hl => match us, hl with | [_], _ => rfl) (fun cdv A outer s H E hr => ?_) hl hk⟩
  exact dss_one (ds_ret (de_lstM (da_cons (de_lc (own := [("_law_cell", 1)]) rfl sc__law_hand.nd (di_any (de_slice sl_D (de_var (i := 0)) (do_none) (do_some (de_int)))) (blkOk_by (by rfl)) (fun _ _ _ _ _ => dg_name (i := 1) sc__law_hand.nd) (fun _ _ _ _ _ => dts_nil) (fun _ _ _ _ _ => de_callTy call_intC (T.free 1) (da_cons (de_var (i := 1)) (da_nil)))) (da_cons (de_int) (da_cons (de_int) (da_cons (de_op op_addD (de_int) (de_callB call_lenD (T.free 4) (da_cons (de_slice sl_D (de_var (i := 0)) (do_none) (do_some (de_int))) (da_nil)))) (da_cons (de_int) (da_nil))))))))
/-! ### _law_draw -/
theorem sc__law_draw : FnScope ["_law_hand_here", "_law_many", "_law_cell", "_law_digit", "_law_number"] ["_law_hand_here", "_law_many"] (defScope z__law_draw) := ⟨rfl, rfl, rfl, by decide +kernel, rfl, by decide +kernel, by decide +kernel⟩
def c__law_draw : CS := cSeq (cIfS (cAnd (cB (cOp eqD (cOp ixD (cVar 0) (cC (.int 2))) (cC (.int 0)))) (cB (cOp ltD (cOp ixD (cVar 0) (cC (.int 1))) (cCB lenD (cCons (cOp ixD (cVar 0) (cC (.int 0))) (cNil)))))) (cSeq (cSet 2 (cOp ixD (cOp ixD (cVar 0) (cC (.int 0))) (cOp ixD (cVar 0) (cC (.int 1))))) (cSeq (cAsg (cOp addD (cOp ixD (cVar 0) (cC (.int 1))) (cC (.int 1))) (gSubD (cVar 0) (cC (.int 1)))) (cSeq (cAsg (cOp modD (cCB intC (cCons (cOp addD (cOp addD (cOp mulD (cOp ixD (cVar 0) (cC (.int 3))) (cC (.int 69621))) (cOp mulD (cVar 2) (cC (.int 16)))) (cC (.int 11))) (cNil))) (cC (.int 2147483629))) (gSubD (cVar 0) (cC (.int 3)))) (cIfS (cB (cOp geD (cVar 2) (cOp powD (cC (.int 10)) (cC (.int 18))))) (cAsg (cVar 2) (gSubD (cVar 0) (cC (.int 2)))) (cNext))))) (cNext)) (cSeq (cIfS (cB (cOp gtD (cOp ixD (cVar 0) (cC (.int 2))) (cC (.int 0)))) (cSeq (cSet 3 (cOp modD (cCB intC (cCons (cOp ixD (cVar 0) (cC (.int 2))) (cNil))) (cVar 1))) (cSeq (cAsg (cOp fdivD (cOp ixD (cVar 0) (cC (.int 2))) (cVar 1)) (gSubD (cVar 0) (cC (.int 2)))) (cRet (cVar 3)))) (cNext)) (cSeq (cAsg (cOp addD (cOp ixD (cVar 0) (cC (.int 4))) (cC (.int 1))) (gSubD (cVar 0) (cC (.int 4)))) (cSeq (cSet 4 (cOp modD (cCB intC (cCons (cOp mulD (cCB intC (cCons (cOp addD (cOp ixD (cVar 0) (cC (.int 3))) (cOp mulD (cC (.int 7919)) (cOp ixD (cVar 0) (cC (.int 4))))) (cNil))) (cC (.int 48271))) (cNil))) (cC (.int 2147483647)))) (cSeq (cSet 4 (cOp modD (cCB intC (cCons (cOp mulD (cVar 4) (cOp addD (cOp fdivD (cVar 4) (cC (.int 1009))) (cC (.int 69621)))) (cNil))) (cC (.int 2147483647)))) (cSeq (cSet 4 (cOp modD (cCB intC (cCons (cOp mulD (cVar 4) (cOp addD (cOp fdivD (cVar 4) (cC (.int 2003))) (cC (.int 40692)))) (cNil))) (cC (.int 2147483399)))) (cRet (cOp modD (cCB intC (cCons (cOp fdivD (cVar 4) (cC (.int 16))) (cNil))) (cVar 1))))))))
theorem ok__law_draw {P : Program} {w : World} {K : PySem.W.Frag} {mg : Str → Option Value} {base : Heap} {k : Nat} {sp : SpD} (T : Tx K mg)  (hl : ∀ ds G k, sp ds G k → ds.length = 2) (hk : Keeps 5 (c__law_draw) sp) : FnG P w K mg base "_law_draw" (k + 1) sp := by
  obtain ⟨fd, F⟩ := T.c.def_ 20 (d := d20) rfl
  refine ⟨_, T.glo 46, fnA_ok F sc__law_draw (fun _ _ _ _ _ _ us hl => match us, hl with | [_, _], _ => rfl) (fun cdv A outer s H E hr => ?_) hl hk⟩
  exact dss_cons (ds_if ((dw_and (dt_cmp (op_eqDD hr.units) (de_ix (de_var (i := 0)) (de_int)) (de_int)) (dw_and1 (dt_cmp op_ltD (de_ix (de_var (i := 0)) (de_int)) (de_callB call_lenD (T.free 4) (da_cons (de_ix (de_var (i := 0)) (de_int)) (da_nil)))))).pt) (dss_cons (ds_set (i := 2) sc__law_draw.nd (de_ix (de_ix (de_var (i := 0)) (de_int)) (de_ix (de_var (i := 0)) (de_int)))) (dss_cons (ds_asg (J := []) (de_op op_addD (de_ix (de_var (i := 0)) (de_int)) (de_int)) (dg_sub (W := W0) (de_var (i := 0)) (de_int))) (dss_cons (ds_asg (J := []) (de_op op_modD (de_callTy call_intC (T.free 1) (da_cons (de_op op_addD (de_op op_addD (de_op op_mulD (de_ix (de_var (i := 0)) (de_int)) (de_int)) (de_op op_mulD (de_var (i := 2)) (de_int))) (de_int)) (da_nil))) (de_int)) (dg_sub (W := W0) (de_var (i := 0)) (de_int))) (dss_one (ds_if (dt_cmp op_geD (de_var (i := 2)) (de_op op_powD (de_int) (de_int))) (dss_one (ds_asg (J := []) (de_var (i := 2)) (dg_sub (W := W0) (de_var (i := 0)) (de_int)))) (dss_nil)))))) (dss_nil)) (dss_cons (ds_if (dt_cmp op_gtD (de_ix (de_var (i := 0)) (de_int)) (de_int)) (dss_cons (ds_set (i := 3) sc__law_draw.nd (de_op op_modD (de_callTy call_intC (T.free 1) (da_cons (de_ix (de_var (i := 0)) (de_int)) (da_nil))) (de_var (i := 1)))) (dss_cons (ds_asg (J := []) (de_op op_fdivD (de_ix (de_var (i := 0)) (de_int)) (de_var (i := 1))) (dg_sub (W := W0) (de_var (i := 0)) (de_int))) (dss_one (ds_ret (de_var (i := 3)))))) (dss_nil)) (dss_cons (ds_asg (J := []) (de_op op_addD (de_ix (de_var (i := 0)) (de_int)) (de_int)) (dg_sub (W := W0) (de_var (i := 0)) (de_int))) (dss_cons (ds_set (i := 4) sc__law_draw.nd (de_op op_modD (de_callTy call_intC (T.free 1) (da_cons (de_op op_mulD (de_callTy call_intC (T.free 1) (da_cons (de_op op_addD (de_ix (de_var (i := 0)) (de_int)) (de_op op_mulD (de_int) (de_ix (de_var (i := 0)) (de_int)))) (da_nil))) (de_int)) (da_nil))) (de_int))) (dss_cons (ds_set (i := 4) sc__law_draw.nd (de_op op_modD (de_callTy call_intC (T.free 1) (da_cons (de_op op_mulD (de_var (i := 4)) (de_op op_addD (de_op op_fdivD (de_var (i := 4)) (de_int)) (de_int))) (da_nil))) (de_int))) (dss_cons (ds_set (i := 4) sc__law_draw.nd (de_op op_modD (de_callTy call_intC (T.free 1) (da_cons (de_op op_mulD (de_var (i := 4)) (de_op op_addD (de_op op_fdivD (de_var (i := 4)) (de_int)) (de_int))) (da_nil))) (de_int))) (dss_one (ds_ret (de_op op_modD (de_callTy call_intC (T.free 1) (da_cons (de_op op_fdivD (de_var (i := 4)) (de_int)) (da_nil))) (de_var (i := 1))))))))))
/-! ### _law_is -/
theorem sc__law_is : FnScope ["_law_told", "_law_due", "_law_one", "_law_two"] ["_law_told", "_law_due"] (defScope z__law_is) := ⟨rfl, rfl, rfl, by decide +kernel, rfl, by decide +kernel, by decide +kernel⟩
def c__law_is (sp__law_is : SpD) : CS := cSeq (cIfS (cB (cIsi2 "tuple" "list" (cVar 1))) (cSeq (cIfS (cOr (cB (cOp neD (cIsi "tuple" (cVar 0)) (cIsi "tuple" (cVar 1)))) (cNot (cB (cIsi2 "tuple" "list" (cVar 0))))) (cRet (cC (.bl false))) (cNext)) (cRet (cAndV (cOp eqD (cCB lenD (cCons (cVar 0) (cNil))) (cCB lenD (cCons (cVar 1) (cNil)))) (cCB allC (cCons (cLc (cItZK (cCons (cVar 0) (cCons (cVar 1) (cNil)))) (gTupD 2 (gConsD (gNm 2) (gConsD (gNm 3) (gNilD)))) (cYes) (cCall sp__law_is (cCons (cVar 2) (cCons (cVar 3) (cNil)))) [2, 3]) (cNil)))))) (cNext)) (cRet (cAndV (cOp eqD (cIsi "bool" (cVar 0)) (cIsi "bool" (cVar 1))) (cOp eqD (cVar 0) (cVar 1))))
theorem no__law_is {P : Program} {w : World} {K : PySem.W.Frag} {mg : Str → Option Value} {base : Heap} {k : Nat} (T : Tx K mg) : FnG P w K mg base "_law_is" k sp0 := by
  obtain ⟨fd, F⟩ := T.c.def_ 21 (d := d21) rfl
  exact ⟨_, T.glo 47, fnA_none (ps := ["_law_told", "_law_due"]) F (fun _ _ _ _ _ _ us hl => match us, hl with | [_, _], _ => rfl)⟩
theorem ok__law_is {P : Program} {w : World} {K : PySem.W.Frag} {mg : Str → Option Value} {base : Heap} {k : Nat} {sp__law_is sp : SpD} (T : Tx K mg) (h__law_is : FnG P w K mg base "_law_is" k sp__law_is) (hl : ∀ ds G k, sp ds G k → ds.length = 2) (hk : Keeps 4 (c__law_is sp__law_is) sp) : FnG P w K mg base "_law_is" (k + 1) sp := by
  obtain ⟨fd, F⟩ := T.c.def_ 21 (d := d21) rfl
  refine ⟨_, T.glo 47, fnA_ok F sc__law_is (fun _ _ _ _ _ _ us hl => match us, hl with | [_, _], _ => rfl) (fun cdv A outer s H E hr => ?_) hl hk⟩
  exact dss_cons (ds_if (dt_val (de_isi2 (n := "tuple") (n2 := "list") (T.free 0) (T.free 3) (T.free 16) (de_var (i := 1)))) (dss_cons (ds_if ((dw_or (dt_cmp (op_neDD hr.units) (de_isi (n := "tuple") (T.free 0) (T.free 3) (de_var (i := 0))) (de_isi (n := "tuple") (T.free 0) (T.free 3) (de_var (i := 1)))) (dw_or1 (dt_not (dt_val (de_isi2 (n := "tuple") (n2 := "list") (T.free 0) (T.free 3) (T.free 16) (de_var (i := 0))))))).pt) (dss_one (ds_ret (de_bl))) (dss_nil)) (dss_one (ds_ret (de_and (de_cmp (op_eqDD hr.units) (de_callB call_lenD (T.free 4) (da_cons (de_var (i := 0)) (da_nil))) (de_callB call_lenD (T.free 4) (da_cons (de_var (i := 1)) (da_nil)))) (de_one (de_callB (call_allC rfl) (T.free 6) (da_cons (de_lc (own := [("_law_one", 2), ("_law_two", 3)]) rfl sc__law_is.nd (di_zipK (T.free 19) (da_cons (de_var (i := 0)) (da_cons (de_var (i := 1)) (da_nil)))) (blkOk_by (by rfl)) (fun _ _ _ _ _ => dg_tup rfl (dgs_cons (dg_name (i := 2) sc__law_is.nd) (dgs_cons (dg_name (i := 3) sc__law_is.nd) (dgs_nil)))) (fun _ _ _ _ _ => dts_nil) (fun _ _ _ _ _ => de_call h__law_is hr takes0 (da_cons (de_var (i := 2)) (da_cons (de_var (i := 3)) (da_nil))))) (da_nil)))))))) (dss_nil)) (dss_one (ds_ret (de_and (de_cmp (op_eqDD hr.units) (de_isi (n := "bool") (T.free 0) (T.free 2) (de_var (i := 0))) (de_isi (n := "bool") (T.free 0) (T.free 2) (de_var (i := 1)))) (de_one (de_cmp (op_eqDD hr.units) (de_var (i := 0)) (de_var (i := 1)))))))
/-! ### _law_any_sign -/
theorem sc__law_any_sign : FnScope ["_law_hand_here", "_law_signs"] ["_law_hand_here"] (defScope z__law_any_sign) := ⟨rfl, rfl, rfl, by decide +kernel, rfl, by decide +kernel, by decide +kernel⟩
def c__law_any_sign (sp__law_draw : SpD) : CS := cSeq (cSet 1 (cC (.str s_6))) (cSeq (cSet 1 (cOp addD (cVar 1) (cC (.str s_7)))) (cRet (cOp ixD (cVar 1) (cCall sp__law_draw (cCons (cVar 0) (cCons (cCB lenD (cCons (cVar 1) (cNil))) (cNil)))))))
theorem ok__law_any_sign {P : Program} {w : World} {K : PySem.W.Frag} {mg : Str → Option Value} {base : Heap} {k : Nat} {sp__law_draw sp : SpD} (T : Tx K mg) (h__law_draw : FnG P w K mg base "_law_draw" k sp__law_draw) (hl : ∀ ds G k, sp ds G k → ds.length = 1) (hk : Keeps 2 (c__law_any_sign sp__law_draw) sp) : FnG P w K mg base "_law_any_sign" (k + 1) sp := by
  obtain ⟨fd, F⟩ := T.c.def_ 22 (d := d22) rfl
  refine ⟨_, T.glo 48, fnA_ok F sc__law_any_sign (fun _ _ _ _ _ _ us hl => match us, hl with | [_], _ => rfl) (fun cdv A outer s H E hr => ?_) hl hk⟩
  exact dss_cons (ds_set (i := 1) sc__law_any_sign.nd (de_str q_6)) (dss_cons (ds_set (i := 1) sc__law_any_sign.nd (de_op op_addD (de_var (i := 1)) (de_str q_7))) (dss_one (ds_ret (de_ix (de_var (i := 1)) (de_call h__law_draw hr (takes_of rfl rfl rfl rfl) (da_cons (de_var (i := 0)) (da_cons (de_callB call_lenD (T.free 4) (da_cons (de_var (i := 1)) (da_nil))) (da_nil))))))))
/-! ### _law_sign -/
theorem sc__law_sign : FnScope ["_law_hand_here", "_law_kind", "_law_some"] ["_law_hand_here", "_law_kind"] (defScope z__law_sign) := ⟨rfl, rfl, rfl, by decide +kernel, rfl, by decide +kernel, by decide +kernel⟩
def c__law_sign (sp__law_any_sign sp__law_draw : SpD) : CS := cSeq (cIfS (cB (cOp eqD (cVar 1) (cC (.int 4)))) (cRet (cCall sp__law_any_sign (cCons (cVar 0) (cNil)))) (cNext)) (cSeq (cSet 2 (cOp ixD (cLst (cCons (cC (.str s_11)) (cCons (cC (.str s_10)) (cCons (cC (.str s_9)) (cCons (cC (.str s_8)) (cNil)))))) (cVar 1))) (cRet (cOp ixD (cVar 2) (cCall sp__law_draw (cCons (cVar 0) (cCons (cCB lenD (cCons (cVar 2) (cNil))) (cNil)))))))
theorem ok__law_sign {P : Program} {w : World} {K : PySem.W.Frag} {mg : Str → Option Value} {base : Heap} {k : Nat} {sp__law_any_sign sp__law_draw sp : SpD} (T : Tx K mg) (h__law_any_sign : FnG P w K mg base "_law_any_sign" k sp__law_any_sign) (h__law_draw : FnG P w K mg base "_law_draw" k sp__law_draw) (hl : ∀ ds G k, sp ds G k → ds.length = 2) (hk : Keeps 3 (c__law_sign sp__law_any_sign sp__law_draw) sp) : FnG P w K mg base "_law_sign" (k + 1) sp := by
  obtain ⟨fd, F⟩ := T.c.def_ 23 (d := d23) rfl
  refine ⟨_, T.glo 49, fnA_ok F sc__law_sign (fun _ _ _ _ _ _ us hl => match us, hl with | [_, _], _ => rfl) (fun cdv A outer s H E hr => ?_) hl hk⟩
  exact dss_cons (ds_if (dt_cmp (op_eqDD hr.units) (de_var (i := 1)) (de_int)) (dss_one (ds_ret (de_call h__law_any_sign hr (takes_of rfl rfl rfl rfl) (da_cons (de_var (i := 0)) (da_nil))))) (dss_nil)) (dss_cons (ds_set (i := 2) sc__law_sign.nd (de_ix (de_lst (da_cons (de_str q_11) (da_cons (de_str q_10) (da_cons (de_str q_9) (da_cons (de_str q_8) (da_nil)))))) (de_var (i := 1)))) (dss_one (ds_ret (de_ix (de_var (i := 2)) (de_call h__law_draw hr (takes_of rfl rfl rfl rfl) (da_cons (de_var (i := 0)) (da_cons (de_callB call_lenD (T.free 4) (da_cons (de_var (i := 2)) (da_nil))) (da_nil))))))))
/-! ### _law_text -/
theorem sc__law_text : FnScope ["_law_hand_here", "_law_most", "_law_kind", "_law_way", "_law_many", "_law_one", "_law_other", "_law_turn"] ["_law_hand_here", "_law_most"] (defScope z__law_text) := ⟨rfl, rfl, rfl, by decide +kernel, rfl, by decide +kernel, by decide +kernel⟩
def c__law_text (sp__law_draw sp__law_sign : SpD) : CS := cSeq (cSet 2 (cCall sp__law_draw (cCons (cVar 0) (cCons (cC (.int 5)) (cNil))))) (cSeq (cSet 3 (cCall sp__law_draw (cCons (cVar 0) (cCons (cC (.int 4)) (cNil))))) (cSeq (cSet 4 (cCall sp__law_draw (cCons (cVar 0) (cCons (cOp addD (cVar 1) (cC (.int 1))) (cNil))))) (cSeq (cIfS (cB (cOp gtD (cVar 3) (cC (.int 1)))) (cRet (cBM "str" joinM (cC (.str s_3)) (cCons (cLc (cItR1 (cCons (cVar 4) (cNil))) (gNm 7) (cYes) (cCall sp__law_sign (cCons (cVar 0) (cCons (cVar 2) (cNil)))) [7]) (cNil)))) (cNext)) (cSeq (cSet 5 (cBM "str" joinM (cC (.str s_3)) (cCons (cLc (cItR1 (cCons (cOp addD (cC (.int 1)) (cCall sp__law_draw (cCons (cVar 0) (cCons (cC (.int 4)) (cNil))))) (cNil))) (gNm 7) (cYes) (cCall sp__law_sign (cCons (cVar 0) (cCons (cVar 2) (cNil)))) [7]) (cNil)))) (cSeq (cIfS (cB (cOp eqD (cVar 3) (cC (.int 0)))) (cRet (cSl slD (cOp mulD (cVar 5) (cVar 4)) (cNoP) (cP (cVar 4)))) (cNext)) (cSeq (cSet 6 (cCall sp__law_sign (cCons (cVar 0) (cCons (cVar 2) (cNil))))) (cSeq (cFor (cItR1 (cCons (cC (.int 8)) (cNil))) (gNm 7) (cSeq (cIfS (cB (cOp geD (cCB lenD (cCons (cVar 5) (cNil))) (cVar 4))) (cBreak) (cNext)) (cPar 5 6 (cCons (cOp addD (cVar 5) (cVar 6)) (cCons (cVar 5) (cNil)))))) (cRet (cSl slD (cVar 5) (cNoP) (cP (cVar 4)))))))))))
theorem ok__law_text {P : Program} {w : World} {K : PySem.W.Frag} {mg : Str → Option Value} {base : Heap} {k : Nat} {sp__law_draw sp__law_sign sp : SpD} (T : Tx K mg) (h__law_draw : FnG P w K mg base "_law_draw" k sp__law_draw) (h__law_sign : FnG P w K mg base "_law_sign" k sp__law_sign) (hl : ∀ ds G k, sp ds G k → ds.length = 2) (hk : Keeps 8 (c__law_text sp__law_draw sp__law_sign) sp) : FnG P w K mg base "_law_text" (k + 1) sp := by
  obtain ⟨fd, F⟩ := T.c.def_ 24 (d := d24) rfl
  refine ⟨_, T.glo 50, fnA_ok F sc__law_text (fun _ _ _ _ _ _ us hl => match us, hl with | [_, _], _ => rfl) (fun cdv A outer s H E hr => ?_) hl hk⟩
  exact dss_cons (ds_set (i := 2) sc__law_text.nd (de_call h__law_draw hr (takes_of rfl rfl rfl rfl) (da_cons (de_var (i := 0)) (da_cons (de_int) (da_nil))))) (dss_cons (ds_set (i := 3) sc__law_text.nd (de_call h__law_draw hr (takes_of rfl rfl rfl rfl) (da_cons (de_var (i := 0)) (da_cons (de_int) (da_nil))))) (dss_cons (ds_set (i := 4) sc__law_text.nd (de_call h__law_draw hr (takes_of rfl rfl rfl rfl) (da_cons (de_var (i := 0)) (da_cons (de_op op_addD (de_var (i := 1)) (de_int)) (da_nil))))) (dss_cons (ds_if (dt_cmp op_gtD (de_var (i := 3)) (de_int)) (dss_one (ds_ret (de_bm PySem.F.plainAttrs_str PySem.F.slot_str_join PySem.F.type_str_join mt_joinM (de_str q_3) (da_cons (de_lc (own := [("_law_turn", 7)]) rfl sc__law_text.nd (di_range1 (T.free 23) (da_cons (de_var (i := 4)) (da_nil))) (blkOk_by (by rfl)) (fun _ _ _ _ _ => dg_name (i := 7) sc__law_text.nd) (fun _ _ _ _ _ => dts_nil) (fun _ _ _ _ _ => de_call h__law_sign hr takes0 (da_cons (de_var (i := 0)) (da_cons (de_var (i := 2)) (da_nil))))) (da_nil))))) (dss_nil)) (dss_cons (ds_set (i := 5) sc__law_text.nd (de_bm PySem.F.plainAttrs_str PySem.F.slot_str_join PySem.F.type_str_join mt_joinM (de_str q_3) (da_cons (de_lc (own := [("_law_turn", 7)]) rfl sc__law_text.nd (di_range1 (T.free 23) (da_cons (de_op op_addD (de_int) (de_call h__law_draw hr (takes_of rfl rfl rfl rfl) (da_cons (de_var (i := 0)) (da_cons (de_int) (da_nil))))) (da_nil))) (blkOk_by (by rfl)) (fun _ _ _ _ _ => dg_name (i := 7) sc__law_text.nd) (fun _ _ _ _ _ => dts_nil) (fun _ _ _ _ _ => de_call h__law_sign hr takes0 (da_cons (de_var (i := 0)) (da_cons (de_var (i := 2)) (da_nil))))) (da_nil)))) (dss_cons (ds_if (dt_cmp (op_eqDD hr.units) (de_var (i := 3)) (de_int)) (dss_one (ds_ret (de_slice sl_D (de_op op_mulD (de_var (i := 5)) (de_var (i := 4))) (do_none) (do_some (de_var (i := 4)))))) (dss_nil)) (dss_cons (ds_set (i := 6) sc__law_text.nd (de_call h__law_sign hr (takes_of rfl rfl rfl rfl) (da_cons (de_var (i := 0)) (da_cons (de_var (i := 2)) (da_nil))))) (dss_cons (ds_for (J := [7]) (passes_of rfl) rfl (di_range1 (T.free 23) (da_cons (de_int) (da_nil))) (dg_name (i := 7) sc__law_text.nd) (dss_cons (ds_if (dt_cmp op_geD (de_callB call_lenD (T.free 4) (da_cons (de_var (i := 5)) (da_nil))) (de_var (i := 4))) (dss_one (ds_break)) (dss_nil)) (dss_one (ds_par (i := 5) (j := 6) rfl sc__law_text.nd (da_cons (de_op op_addD (de_var (i := 5)) (de_var (i := 6))) (da_cons (de_var (i := 5)) (da_nil))))))) (dss_one (ds_ret (de_slice sl_D (de_var (i := 5)) (do_none) (do_some (de_var (i := 4)))))))))))))
/-! ### _law_line -/
theorem sc__law_line : FnScope ["_law_hand_here", "_law_kind", "_law_turn"] ["_law_hand_here"] (defScope z__law_line) := ⟨rfl, rfl, rfl, by decide +kernel, rfl, by decide +kernel, by decide +kernel⟩
def c__law_line (sp__law_draw sp__law_text sp__law_any_sign : SpD) : CS := cSeq (cSet 1 (cCall sp__law_draw (cCons (cVar 0) (cCons (cC (.int 6)) (cNil))))) (cSeq (cIfS (cB (cOp eqD (cVar 1) (cC (.int 0)))) (cRet (cOp ixD (cLst (cCons (cC (.str s_3)) (cCons (cC (.str s_17)) (cCons (cC (.str s_16)) (cCons (cC (.str s_15)) (cCons (cC (.str s_14)) (cCons (cC (.str s_2)) (cCons (cC (.str s_13)) (cCons (cC (.str s_12)) (cNil)))))))))) (cCall sp__law_draw (cCons (cVar 0) (cCons (cC (.int 8)) (cNil)))))) (cNext)) (cSeq (cIfS (cB (cOp eqD (cVar 1) (cC (.int 1)))) (cRet (cCall sp__law_text (cCons (cVar 0) (cCons (cC (.int 30)) (cNil))))) (cNext)) (cRet (cBM "str" joinM (cC (.str s_3)) (cCons (cLc (cItR1 (cCons (cCall sp__law_draw (cCons (cVar 0) (cCons (cC (.int 14)) (cNil)))) (cNil))) (gNm 2) (cYes) (cCall sp__law_any_sign (cCons (cVar 0) (cNil))) [2]) (cNil))))))
theorem ok__law_line {P : Program} {w : World} {K : PySem.W.Frag} {mg : Str → Option Value} {base : Heap} {k : Nat} {sp__law_draw sp__law_text sp__law_any_sign sp : SpD} (T : Tx K mg) (h__law_draw : FnG P w K mg base "_law_draw" k sp__law_draw) (h__law_text : FnG P w K mg base "_law_text" k sp__law_text) (h__law_any_sign : FnG P w K mg base "_law_any_sign" k sp__law_any_sign) (hl : ∀ ds G k, sp ds G k → ds.length = 1) (hk : Keeps 3 (c__law_line sp__law_draw sp__law_text sp__law_any_sign) sp) : FnG P w K mg base "_law_line" (k + 1) sp := by
  obtain ⟨fd, F⟩ := T.c.def_ 25 (d := d25) rfl
  refine ⟨_, T.glo 51, fnA_ok F sc__law_line (fun _ _ _ _ _ _ us hl => match us, hl with | [_], _ => rfl) (fun cdv A outer s H E hr => ?_) hl hk⟩
  exact dss_cons (ds_set (i := 1) sc__law_line.nd (de_call h__law_draw hr (takes_of rfl rfl rfl rfl) (da_cons (de_var (i := 0)) (da_cons (de_int) (da_nil))))) (dss_cons (ds_if (dt_cmp (op_eqDD hr.units) (de_var (i := 1)) (de_int)) (dss_one (ds_ret (de_ix (de_lst (da_cons (de_str q_3) (da_cons (de_str q_17) (da_cons (de_str q_16) (da_cons (de_str q_15) (da_cons (de_str q_14) (da_cons (de_str q_2) (da_cons (de_str q_13) (da_cons (de_str q_12) (da_nil)))))))))) (de_call h__law_draw hr (takes_of rfl rfl rfl rfl) (da_cons (de_var (i := 0)) (da_cons (de_int) (da_nil))))))) (dss_nil)) (dss_cons (ds_if (dt_cmp (op_eqDD hr.units) (de_var (i := 1)) (de_int)) (dss_one (ds_ret (de_call h__law_text hr (takes_of rfl rfl rfl rfl) (da_cons (de_var (i := 0)) (da_cons (de_int) (da_nil)))))) (dss_nil)) (dss_one (ds_ret (de_bm PySem.F.plainAttrs_str PySem.F.slot_str_join PySem.F.type_str_join mt_joinM (de_str q_3) (da_cons (de_lc (own := [("_law_turn", 2)]) rfl sc__law_line.nd (di_range1 (T.free 23) (da_cons (de_call h__law_draw hr (takes_of rfl rfl rfl rfl) (da_cons (de_var (i := 0)) (da_cons (de_int) (da_nil)))) (da_nil))) (blkOk_by (by rfl)) (fun _ _ _ _ _ => dg_name (i := 2) sc__law_line.nd) (fun _ _ _ _ _ => dts_nil) (fun _ _ _ _ _ => de_call h__law_any_sign hr takes0 (da_cons (de_var (i := 0)) (da_nil)))) (da_nil)))))))
/-! ### _law_record -/
theorem sc__law_record : FnScope ["_law_contents_here"] ["_law_contents_here"] (defScope z__law_record) := ⟨rfl, rfl, rfl, by decide +kernel, rfl, by decide +kernel, by decide +kernel⟩
def c__law_record : CS := cRet (cOp addD (cOp addD (cCB strC (cCons (cCB lenD (cCons (cVar 0) (cNil))) (cNil))) (cC (.str s_2))) (cVar 0))
theorem ok__law_record {P : Program} {w : World} {K : PySem.W.Frag} {mg : Str → Option Value} {base : Heap} {k : Nat} {sp : SpD} (T : Tx K mg)  (hl : ∀ ds G k, sp ds G k → ds.length = 1) (hk : Keeps 1 (c__law_record) sp) : FnG P w K mg base "_law_record" (k + 1) sp := by
  obtain ⟨fd, F⟩ := T.c.def_ 26 (d := d26) rfl
  refine ⟨_, T.glo 52, fnA_ok F sc__law_record (fun _ _ _ _ _ _ us hl => match us, hl with | [_], _ => rfl) (fun cdv A outer s H E hr => ?_) hl hk⟩
  exact dss_one (ds_ret (de_op op_addD (de_op op_addD (de_callTy call_strC (T.free 5) (da_cons (de_callB call_lenD (T.free 4) (da_cons (de_var (i := 0)) (da_nil))) (da_nil))) (de_str q_2)) (de_var (i := 0))))
/-! ### _law_contents -/
theorem sc__law_contents : FnScope ["_law_line_here", "_law_at"] ["_law_line_here"] (defScope z__law_contents) := ⟨rfl, rfl, rfl, by decide +kernel, rfl, by decide +kernel, by decide +kernel⟩
def c__law_contents : CS := cSeq (cSet 1 (cBM "str" findM (cVar 0) (cCons (cC (.str s_2)) (cNil)))) (cSeq (cIfS (cOr (cB (cOp ltD (cVar 1) (cC (.int 0)))) (cB (cOp neD (cCB strC (cCons (cOp subD (cOp subD (cCB lenD (cCons (cVar 0) (cNil))) (cVar 1)) (cC (.int 1))) (cNil))) (cSl slD (cVar 0) (cNoP) (cP (cVar 1)))))) (cRet (cC .non)) (cNext)) (cRet (cSl slD (cVar 0) (cP (cOp addD (cVar 1) (cC (.int 1)))) (cNoP))))
theorem ok__law_contents {P : Program} {w : World} {K : PySem.W.Frag} {mg : Str → Option Value} {base : Heap} {k : Nat} {sp : SpD} (T : Tx K mg)  (hl : ∀ ds G k, sp ds G k → ds.length = 1) (hk : Keeps 2 (c__law_contents) sp) : FnG P w K mg base "_law_contents" (k + 1) sp := by
  obtain ⟨fd, F⟩ := T.c.def_ 27 (d := d27) rfl
  refine ⟨_, T.glo 53, fnA_ok F sc__law_contents (fun _ _ _ _ _ _ us hl => match us, hl with | [_], _ => rfl) (fun cdv A outer s H E hr => ?_) hl hk⟩
  exact dss_cons (ds_set (i := 1) sc__law_contents.nd (de_bm PySem.F.plainAttrs_str PySem.F.slot_str_find PySem.F.type_str_find mt_findM (de_var (i := 0)) (da_cons (de_str q_2) (da_nil)))) (dss_cons (ds_if ((dw_or (dt_cmp op_ltD (de_var (i := 1)) (de_int)) (dw_or1 (dt_cmp (op_neDD hr.units) (de_callTy call_strC (T.free 5) (da_cons (de_op op_subD (de_op op_subD (de_callB call_lenD (T.free 4) (da_cons (de_var (i := 0)) (da_nil))) (de_var (i := 1))) (de_int)) (da_nil))) (de_slice sl_D (de_var (i := 0)) (do_none) (do_some (de_var (i := 1))))))).pt) (dss_one (ds_ret (de_non))) (dss_nil)) (dss_one (ds_ret (de_slice sl_D (de_var (i := 0)) (do_some (de_op op_addD (de_var (i := 1)) (de_int))) (do_none)))))
/-! ### _law_is_number -/
theorem sc__law_is_number : FnScope ["_law_thing", "_law_least", "_law_most"] ["_law_thing", "_law_least", "_law_most"] (defScope z__law_is_number) := ⟨rfl, rfl, rfl, by decide +kernel, rfl, by decide +kernel, by decide +kernel⟩
def c__law_is_number : CS := cRet (cAndV (cIsi "int" (cVar 0)) (cAndV (cNotV (cIsi "bool" (cVar 0))) (cChain leD leD (cVar 1) (cVar 0) (cVar 2))))
theorem ok__law_is_number {P : Program} {w : World} {K : PySem.W.Frag} {mg : Str → Option Value} {base : Heap} {k : Nat} {sp : SpD} (T : Tx K mg)  (hl : ∀ ds G k, sp ds G k → ds.length = 3) (hk : Keeps 3 (c__law_is_number) sp) : FnG P w K mg base "_law_is_number" (k + 1) sp := by
  obtain ⟨fd, F⟩ := T.c.def_ 28 (d := d28) rfl
  refine ⟨_, T.glo 54, fnA_ok F sc__law_is_number (fun _ _ _ _ _ _ us hl => match us, hl with | [_, _, _], _ => rfl) (fun cdv A outer s H E hr => ?_) hl hk⟩
  exact dss_one (ds_ret (de_and (de_isi (n := "int") (T.free 0) (T.free 1) (de_var (i := 0))) (de_and (de_not (de_isi (n := "bool") (T.free 0) (T.free 2) (de_var (i := 0)))) (de_one (de_chain op_leD op_leD (de_var (i := 1)) (de_var (i := 0)) (de_var (i := 2)))))))
/-! ### _law_called -/
theorem sc__law_called : FnScope ["_law_disk", "_law_deed_here"] ["_law_disk", "_law_deed_here"] (defScope z__law_called) := ⟨rfl, rfl, rfl, by decide +kernel, rfl, by decide +kernel, by decide +kernel⟩
def sub__law_called_1 : Str → Str → Bool := fun x y => (x == "PieceError" && (y == "PieceError")) || (x == "NoCut" && (y == "NoCut" || y == "PieceError")) || (x == "NoNumber" && (y == "NoNumber" || y == "PieceError")) || (x == "NoLine" && (y == "NoLine" || y == "PieceError")) || false
@[simp] theorem sub__law_called_1_PieceError_NoLine : sub__law_called_1 "PieceError" "NoLine" = false := by decide +kernel
@[simp] theorem sub__law_called_1_PieceError_NoCut : sub__law_called_1 "PieceError" "NoCut" = false := by decide +kernel
@[simp] theorem sub__law_called_1_PieceError_NoNumber : sub__law_called_1 "PieceError" "NoNumber" = false := by decide +kernel
@[simp] theorem sub__law_called_1_PieceError_PieceError : sub__law_called_1 "PieceError" "PieceError" = true := by decide +kernel
@[simp] theorem sub__law_called_1_NoCut_NoLine : sub__law_called_1 "NoCut" "NoLine" = false := by decide +kernel
@[simp] theorem sub__law_called_1_NoCut_NoCut : sub__law_called_1 "NoCut" "NoCut" = true := by decide +kernel
@[simp] theorem sub__law_called_1_NoCut_NoNumber : sub__law_called_1 "NoCut" "NoNumber" = false := by decide +kernel
@[simp] theorem sub__law_called_1_NoCut_PieceError : sub__law_called_1 "NoCut" "PieceError" = true := by decide +kernel
@[simp] theorem sub__law_called_1_NoNumber_NoLine : sub__law_called_1 "NoNumber" "NoLine" = false := by decide +kernel
@[simp] theorem sub__law_called_1_NoNumber_NoCut : sub__law_called_1 "NoNumber" "NoCut" = false := by decide +kernel
@[simp] theorem sub__law_called_1_NoNumber_NoNumber : sub__law_called_1 "NoNumber" "NoNumber" = true := by decide +kernel
@[simp] theorem sub__law_called_1_NoNumber_PieceError : sub__law_called_1 "NoNumber" "PieceError" = true := by decide +kernel
@[simp] theorem sub__law_called_1_NoLine_NoLine : sub__law_called_1 "NoLine" "NoLine" = true := by decide +kernel
@[simp] theorem sub__law_called_1_NoLine_NoCut : sub__law_called_1 "NoLine" "NoCut" = false := by decide +kernel
@[simp] theorem sub__law_called_1_NoLine_NoNumber : sub__law_called_1 "NoLine" "NoNumber" = false := by decide +kernel
@[simp] theorem sub__law_called_1_NoLine_PieceError : sub__law_called_1 "NoLine" "PieceError" = true := by decide +kernel
theorem sub__law_called_1_ok {K : PySem.W.Frag} {mg : Str → Option Value} (T : Tx K mg) {l : List (Str × CS)} (hl : l.map (·.1) = (["NoLine", "NoCut", "NoNumber", "PieceError"] : List Str)) : ∀ y ∈ (["PieceError", "NoCut", "NoNumber", "NoLine"] : List Str), ∀ q ∈ l, PySem.W.exmOne K (.ref (He.ga K y)) (.ref (He.ga K q.1)) = some (sub__law_called_1 y q.1) := by
  intro y hy w hw
  have hq : w.1 ∈ (["NoLine", "NoCut", "NoNumber", "PieceError"] : List Str) := hl ▸ List.mem_map_of_mem hw
  simp only [List.mem_cons, List.not_mem_nil, or_false] at hy hq
  rcases hy with hy | hy | hy | hy <;> subst hy
  · rcases hq with hq | hq | hq | hq <;> rw [hq]
    · exact T.exm 62
    · exact T.exm 63
    · exact T.exm 64
    · exact T.exm 65
  · rcases hq with hq | hq | hq | hq <;> rw [hq]
    · exact T.exm 66
    · exact T.exm 67
    · exact T.exm 68
    · exact T.exm 69
  · rcases hq with hq | hq | hq | hq <;> rw [hq]
    · exact T.exm 70
    · exact T.exm 71
    · exact T.exm 72
    · exact T.exm 73
  · rcases hq with hq | hq | hq | hq <;> rw [hq]
    · exact T.exm 74
    · exact T.exm 75
    · exact T.exm 76
    · exact T.exm 77
def c__law_called (sp_Disk_write sp_Disk_sync sp_Disk_cut sp_Disk_drop : SpD) : CS := cTry ["PieceError", "NoCut", "NoNumber", "NoLine"] sub__law_called_1 (cSeq (cIfS (cB (cOp eqD (cOp ixD (cVar 1) (cC (.int 0))) (cC (.str s_18)))) (cRet (cTup (cCons (cC (.str s_19)) (cCons (cMeth "Disk" "write" sp_Disk_write (cVar 0) (cCons (cOp ixD (cVar 1) (cC (.int 1))) (cNil))) (cNil))))) (cNext)) (cSeq (cIfS (cB (cOp eqD (cOp ixD (cVar 1) (cC (.int 0))) (cC (.str s_20)))) (cRet (cTup (cCons (cC (.str s_19)) (cCons (cMeth "Disk" "sync" sp_Disk_sync (cVar 0) cNil) (cNil))))) (cNext)) (cSeq (cIfS (cB (cOp eqD (cOp ixD (cVar 1) (cC (.int 0))) (cC (.str s_21)))) (cRet (cTup (cCons (cC (.str s_19)) (cCons (cMeth "Disk" "cut" sp_Disk_cut (cVar 0) (cCons (cOp ixD (cVar 1) (cC (.int 1))) (cNil))) (cNil))))) (cNext)) (cRet (cTup (cCons (cC (.str s_19)) (cCons (cMeth "Disk" "drop" sp_Disk_drop (cVar 0) (cCons (cOp ixD (cVar 1) (cC (.int 1))) (cNil))) (cNil)))))))) [("NoLine", cRet (cTup (cCons (cC (.str s_23)) (cCons (cC (.str s_25)) (cNil))))), ("NoCut", cRet (cTup (cCons (cC (.str s_23)) (cCons (cC (.str s_21)) (cNil))))), ("NoNumber", cRet (cTup (cCons (cC (.str s_23)) (cCons (cC (.str s_24)) (cNil))))), ("PieceError", cRet (cTup (cCons (cC (.str s_23)) (cCons (cC (.str s_22)) (cNil)))))]
theorem ok__law_called {P : Program} {w : World} {K : PySem.W.Frag} {mg : Str → Option Value} {base : Heap} {k : Nat} {sp_Disk_write sp_Disk_sync sp_Disk_cut sp_Disk_drop sp : SpD} (T : Tx K mg) (h_Disk_write : FnM P w K mg base "Disk" "write" k sp_Disk_write) (h_Disk_sync : FnM P w K mg base "Disk" "sync" k sp_Disk_sync) (h_Disk_cut : FnM P w K mg base "Disk" "cut" k sp_Disk_cut) (h_Disk_drop : FnM P w K mg base "Disk" "drop" k sp_Disk_drop) (hl : ∀ ds G k, sp ds G k → ds.length = 2) (hk : Keeps 2 (c__law_called sp_Disk_write sp_Disk_sync sp_Disk_cut sp_Disk_drop) sp) : FnG P w K mg base "_law_called" (k + 1) sp := by
  obtain ⟨fd, F⟩ := T.c.def_ 29 (d := d29) rfl
  refine ⟨_, T.glo 55, fnA_ok F sc__law_called (fun _ _ _ _ _ _ us hl => match us, hl with | [_, _], _ => rfl) (fun cdv A outer s H E hr => ?_) hl hk⟩
  exact dss_one (ds_try (tb := ["PieceError", "NoCut", "NoNumber", "NoLine"]) (sub := sub__law_called_1) (takes_of rfl rfl rfl rfl) (fun _ _ _ tk1 hp1 => dss_cons (ds_if (dt_cmp (op_eqDD hr.units) (de_ix (de_var (i := 1)) (de_int)) (de_str q_18)) (dss_one (ds_ret (de_tup (da_cons (de_str q_19) (da_cons (de_meth h_Disk_write hr tk1 (de_var (i := 0)) (da_cons (de_ix (de_var (i := 1)) (de_int)) (da_nil))) (da_nil)))))) (dss_nil)) (dss_cons (ds_if (dt_cmp (op_eqDD hr.units) (de_ix (de_var (i := 1)) (de_int)) (de_str q_20)) (dss_one (ds_ret (de_tup (da_cons (de_str q_19) (da_cons (de_meth0 h_Disk_sync hr tk1 (de_var (i := 0))) (da_nil)))))) (dss_nil)) (dss_cons (ds_if (dt_cmp (op_eqDD hr.units) (de_ix (de_var (i := 1)) (de_int)) (de_str q_21)) (dss_one (ds_ret (de_tup (da_cons (de_str q_19) (da_cons (de_meth h_Disk_cut hr tk1 (de_var (i := 0)) (da_cons (de_ix (de_var (i := 1)) (de_int)) (da_nil))) (da_nil)))))) (dss_nil)) (dss_one (ds_ret (de_tup (da_cons (de_str q_19) (da_cons (de_meth h_Disk_drop hr tk1 (de_var (i := 0)) (da_cons (de_ix (de_var (i := 1)) (de_int)) (da_nil))) (da_nil))))))))) (.cons rfl (by decide) (T.glo 11) (fun _ _ _ _ _ _ _ => dss_one (ds_ret (de_tup (da_cons (de_str q_23) (da_cons (de_str q_25) (da_nil)))))) (.cons rfl (by decide) (T.glo 17) (fun _ _ _ _ _ _ _ => dss_one (ds_ret (de_tup (da_cons (de_str q_23) (da_cons (de_str q_21) (da_nil)))))) (.cons rfl (by decide) (T.glo 9) (fun _ _ _ _ _ _ _ => dss_one (ds_ret (de_tup (da_cons (de_str q_23) (da_cons (de_str q_24) (da_nil)))))) (.cons rfl (by decide) (T.glo 24) (fun _ _ _ _ _ _ _ => dss_one (ds_ret (de_tup (da_cons (de_str q_23) (da_cons (de_str q_22) (da_nil)))))) (.nil))))) (sub__law_called_1_ok T rfl))
/-! ### _law_is_line -/
theorem sc__law_is_line : FnScope ["_law_thing", "_law_sign_here"] ["_law_thing"] (defScope z__law_is_line) := ⟨rfl, rfl, rfl, by decide +kernel, rfl, by decide +kernel, by decide +kernel⟩
def c__law_is_line : CS := cSeq (cIfS (cNot (cB (cIsi "str" (cVar 0)))) (cRet (cC (.bl false))) (cNext)) (cRet (cCB allC (cCons (cLc (cItA (cVar 0)) (gNm 1) (cYes) (cChain leD leD (cC (.str s_0)) (cVar 1) (cC (.str s_1))) [1]) (cNil))))
theorem ok__law_is_line {P : Program} {w : World} {K : PySem.W.Frag} {mg : Str → Option Value} {base : Heap} {k : Nat} {sp : SpD} (T : Tx K mg)  (hl : ∀ ds G k, sp ds G k → ds.length = 1) (hk : Keeps 2 (c__law_is_line) sp) : FnG P w K mg base "_law_is_line" (k + 1) sp := by
  obtain ⟨fd, F⟩ := T.c.def_ 30 (d := d30) rfl
  refine ⟨_, T.glo 56, fnA_ok F sc__law_is_line (fun _ _ _ _ _ _ us hl => match us, hl with | [_], _ => rfl) (fun cdv A outer s H E hr => ?_) hl hk⟩
  exact dss_cons (ds_if (dt_not (dt_val (de_isi (n := "str") (T.free 0) (T.free 5) (de_var (i := 0))))) (dss_one (ds_ret (de_bl))) (dss_nil)) (dss_one (ds_ret (de_callB (call_allC rfl) (T.free 6) (da_cons (de_lc (own := [("_law_sign_here", 1)]) rfl sc__law_is_line.nd (di_any (de_var (i := 0))) (blkOk_by (by rfl)) (fun _ _ _ _ _ => dg_name (i := 1) sc__law_is_line.nd) (fun _ _ _ _ _ => dts_nil) (fun _ _ _ _ _ => de_chain op_leD op_leD (de_str q_0) (de_var (i := 1)) (de_str q_1))) (da_nil)))))
/-! ### _law_did -/
theorem sc__law_did : FnScope ["_law_account", "_law_deed_here", "_law_lines", "_law_found", "_law_waits", "_law_many", "_law_line_here"] ["_law_account", "_law_deed_here"] (defScope z__law_did) := ⟨rfl, rfl, rfl, by decide +kernel, rfl, by decide +kernel, by decide +kernel⟩
def c__law_did (sp__law_is_line sp__law_is_number : SpD) : CS := cSeq (cSet 2 (cOp ixD (cVar 0) (cC (.int 0)))) (cSeq (cIfS (cB (cOp eqD (cOp ixD (cVar 1) (cC (.int 0))) (cC (.str s_18)))) (cSeq (cIfS (cNot (cB (cCall sp__law_is_line (cCons (cOp ixD (cVar 1) (cC (.int 1))) (cNil))))) (cRet (cTup (cCons (cC (.str s_23)) (cCons (cC (.str s_25)) (cNil))))) (cNext)) (cSeq (cAsg (cOp addD (cVar 2) (cLst (cCons (cOp ixD (cVar 1) (cC (.int 1))) (cNil)))) (gSubD (cVar 0) (cC (.int 0)))) (cRet (cTup (cCons (cC (.str s_19)) (cCons (cCB lenD (cCons (cVar 2) (cNil))) (cNil))))))) (cNext)) (cSeq (cIfS (cB (cOp eqD (cOp ixD (cVar 1) (cC (.int 0))) (cC (.str s_20)))) (cSeq (cAsg (cTup (cCons (cCB lenD (cCons (cVar 2) (cNil))) (cCons (cOp subD (cCB lenD (cCons (cVar 2) (cNil))) (cOp ixD (cVar 0) (cC (.int 1)))) (cNil)))) (gTupD 2 (gConsD (gSubD (cVar 0) (cC (.int 1))) (gConsD (gNm 3) (gNilD))))) (cRet (cTup (cCons (cC (.str s_19)) (cCons (cVar 3) (cNil)))))) (cNext)) (cSeq (cIfS (cB (cOp eqD (cOp ixD (cVar 1) (cC (.int 0))) (cC (.str s_26)))) (cSeq (cIfS (cNot (cB (cCall sp__law_is_number (cCons (cOp ixD (cVar 1) (cC (.int 1))) (cCons (cC (.int 0)) (cCons (cCB lenD (cCons (cVar 2) (cNil))) (cNil))))))) (cRet (cTup (cCons (cC (.str s_23)) (cCons (cC (.str s_24)) (cNil))))) (cNext)) (cSeq (cAsg (cSl slD (cVar 2) (cNoP) (cP (cOp ixD (cVar 1) (cC (.int 1))))) (gSubD (cVar 0) (cC (.int 0)))) (cSeq (cAsg (cCB min2 (cCons (cOp ixD (cVar 0) (cC (.int 1))) (cCons (cOp ixD (cVar 1) (cC (.int 1))) (cNil)))) (gSubD (cVar 0) (cC (.int 1)))) (cRet (cTup (cCons (cC (.str s_19)) (cCons (cC .non) (cNil)))))))) (cNext)) (cSeq (cSet 4 (cSl slD (cVar 2) (cP (cOp ixD (cVar 0) (cC (.int 1)))) (cNoP))) (cSeq (cIfS (cOr (cNot (cB (cIsi "tuple" (cOp ixD (cVar 1) (cC (.int 1)))))) (cB (cOp neD (cCB lenD (cCons (cOp ixD (cVar 1) (cC (.int 1))) (cNil))) (cCB lenD (cCons (cVar 4) (cNil)))))) (cRet (cTup (cCons (cC (.str s_23)) (cCons (cC (.str s_21)) (cNil))))) (cNext)) (cSeq (cIfS (cNot (cB (cCB allC (cCons (cLc (cItZK (cCons (cOp ixD (cVar 1) (cC (.int 1))) (cCons (cVar 4) (cNil)))) (gTupD 2 (gConsD (gNm 5) (gConsD (gNm 6) (gNilD)))) (cYes) (cCall sp__law_is_number (cCons (cVar 5) (cCons (cC (.int 0)) (cCons (cCB lenD (cCons (cVar 6) (cNil))) (cNil))))) [5, 6]) (cNil))))) (cRet (cTup (cCons (cC (.str s_23)) (cCons (cC (.str s_21)) (cNil))))) (cNext)) (cSeq (cAsg (cOp addD (cSl slD (cVar 2) (cNoP) (cP (cOp ixD (cVar 0) (cC (.int 1))))) (cLc (cItZK (cCons (cOp ixD (cVar 1) (cC (.int 1))) (cCons (cVar 4) (cNil)))) (gTupD 2 (gConsD (gNm 5) (gConsD (gNm 6) (gNilD)))) (cYes) (cSl slD (cVar 6) (cNoP) (cP (cVar 5))) [5, 6])) (gSubD (cVar 0) (cC (.int 0)))) (cSeq (cAsg (cCB lenD (cCons (cVar 2) (cNil))) (gSubD (cVar 0) (cC (.int 1)))) (cRet (cTup (cCons (cC (.str s_19)) (cCons (cC .non) (cNil)))))))))))))
theorem ok__law_did {P : Program} {w : World} {K : PySem.W.Frag} {mg : Str → Option Value} {base : Heap} {k : Nat} {sp__law_is_line sp__law_is_number sp : SpD} (T : Tx K mg) (h__law_is_line : FnG P w K mg base "_law_is_line" k sp__law_is_line) (h__law_is_number : FnG P w K mg base "_law_is_number" k sp__law_is_number) (hl : ∀ ds G k, sp ds G k → ds.length = 2) (hk : Keeps 7 (c__law_did sp__law_is_line sp__law_is_number) sp) : FnG P w K mg base "_law_did" (k + 1) sp := by
  obtain ⟨fd, F⟩ := T.c.def_ 31 (d := d31) rfl
  refine ⟨_, T.glo 57, fnA_ok F sc__law_did (fun _ _ _ _ _ _ us hl => match us, hl with | [_, _], _ => rfl) (fun cdv A outer s H E hr => ?_) hl hk⟩
  exact dss_cons (ds_set (i := 2) sc__law_did.nd (de_ix (de_var (i := 0)) (de_int))) (dss_cons (ds_if (dt_cmp (op_eqDD hr.units) (de_ix (de_var (i := 1)) (de_int)) (de_str q_18)) (dss_cons (ds_if (dt_not (dt_val (de_call h__law_is_line hr (takes_of rfl rfl rfl rfl) (da_cons (de_ix (de_var (i := 1)) (de_int)) (da_nil))))) (dss_one (ds_ret (de_tup (da_cons (de_str q_23) (da_cons (de_str q_25) (da_nil)))))) (dss_nil)) (dss_cons (ds_asg (J := []) (de_op op_addD (de_var (i := 2)) (de_lst (da_cons (de_ix (de_var (i := 1)) (de_int)) (da_nil)))) (dg_sub (W := W0) (de_var (i := 0)) (de_int))) (dss_one (ds_ret (de_tup (da_cons (de_str q_19) (da_cons (de_callB call_lenD (T.free 4) (da_cons (de_var (i := 2)) (da_nil))) (da_nil)))))))) (dss_nil)) (dss_cons (ds_if (dt_cmp (op_eqDD hr.units) (de_ix (de_var (i := 1)) (de_int)) (de_str q_20)) (dss_cons (ds_asg (J := [3]) (de_tup (da_cons (de_callB call_lenD (T.free 4) (da_cons (de_var (i := 2)) (da_nil))) (da_cons (de_op op_subD (de_callB call_lenD (T.free 4) (da_cons (de_var (i := 2)) (da_nil))) (de_ix (de_var (i := 0)) (de_int))) (da_nil)))) (dg_tup rfl (dgs_cons (dg_sub (W := W0) (de_var (i := 0)) (de_int)) (dgs_cons (dg_name (i := 3) sc__law_did.nd) (dgs_nil))))) (dss_one (ds_ret (de_tup (da_cons (de_str q_19) (da_cons (de_var (i := 3)) (da_nil))))))) (dss_nil)) (dss_cons (ds_if (dt_cmp (op_eqDD hr.units) (de_ix (de_var (i := 1)) (de_int)) (de_str q_26)) (dss_cons (ds_if (dt_not (dt_val (de_call h__law_is_number hr (takes_of rfl rfl rfl rfl) (da_cons (de_ix (de_var (i := 1)) (de_int)) (da_cons (de_int) (da_cons (de_callB call_lenD (T.free 4) (da_cons (de_var (i := 2)) (da_nil))) (da_nil))))))) (dss_one (ds_ret (de_tup (da_cons (de_str q_23) (da_cons (de_str q_24) (da_nil)))))) (dss_nil)) (dss_cons (ds_asg (J := []) (de_slice sl_D (de_var (i := 2)) (do_none) (do_some (de_ix (de_var (i := 1)) (de_int)))) (dg_sub (W := W0) (de_var (i := 0)) (de_int))) (dss_cons (ds_asg (J := []) (de_callB (call_min2D rfl) (T.free 20) (da_cons (de_ix (de_var (i := 0)) (de_int)) (da_cons (de_ix (de_var (i := 1)) (de_int)) (da_nil)))) (dg_sub (W := W0) (de_var (i := 0)) (de_int))) (dss_one (ds_ret (de_tup (da_cons (de_str q_19) (da_cons (de_non) (da_nil))))))))) (dss_nil)) (dss_cons (ds_set (i := 4) sc__law_did.nd (de_slice sl_D (de_var (i := 2)) (do_some (de_ix (de_var (i := 0)) (de_int))) (do_none))) (dss_cons (ds_if ((dw_or (dt_not (dt_val (de_isi (n := "tuple") (T.free 0) (T.free 3) (de_ix (de_var (i := 1)) (de_int))))) (dw_or1 (dt_cmp (op_neDD hr.units) (de_callB call_lenD (T.free 4) (da_cons (de_ix (de_var (i := 1)) (de_int)) (da_nil))) (de_callB call_lenD (T.free 4) (da_cons (de_var (i := 4)) (da_nil)))))).pt) (dss_one (ds_ret (de_tup (da_cons (de_str q_23) (da_cons (de_str q_21) (da_nil)))))) (dss_nil)) (dss_cons (ds_if (dt_not (dt_val (de_callB (call_allC rfl) (T.free 6) (da_cons (de_lc (own := [("_law_many", 5), ("_law_line_here", 6)]) rfl sc__law_did.nd (di_zipK (T.free 19) (da_cons (de_ix (de_var (i := 1)) (de_int)) (da_cons (de_var (i := 4)) (da_nil)))) (blkOk_by (by rfl)) (fun _ _ _ _ _ => dg_tup rfl (dgs_cons (dg_name (i := 5) sc__law_did.nd) (dgs_cons (dg_name (i := 6) sc__law_did.nd) (dgs_nil)))) (fun _ _ _ _ _ => dts_nil) (fun _ _ _ _ _ => de_call h__law_is_number hr takes0 (da_cons (de_var (i := 5)) (da_cons (de_int) (da_cons (de_callB call_lenD (T.free 4) (da_cons (de_var (i := 6)) (da_nil))) (da_nil)))))) (da_nil))))) (dss_one (ds_ret (de_tup (da_cons (de_str q_23) (da_cons (de_str q_21) (da_nil)))))) (dss_nil)) (dss_cons (ds_asg (J := []) (de_op op_addD (de_slice sl_D (de_var (i := 2)) (do_none) (do_some (de_ix (de_var (i := 0)) (de_int)))) (de_lc (own := [("_law_many", 5), ("_law_line_here", 6)]) rfl sc__law_did.nd (di_zipK (T.free 19) (da_cons (de_ix (de_var (i := 1)) (de_int)) (da_cons (de_var (i := 4)) (da_nil)))) (blkOk_by (by rfl)) (fun _ _ _ _ _ => dg_tup rfl (dgs_cons (dg_name (i := 5) sc__law_did.nd) (dgs_cons (dg_name (i := 6) sc__law_did.nd) (dgs_nil)))) (fun _ _ _ _ _ => dts_nil) (fun _ _ _ _ _ => de_slice sl_D (de_var (i := 6)) (do_none) (do_some (de_var (i := 5)))))) (dg_sub (W := W0) (de_var (i := 0)) (de_int))) (dss_cons (ds_asg (J := []) (de_callB call_lenD (T.free 4) (da_cons (de_var (i := 2)) (da_nil))) (dg_sub (W := W0) (de_var (i := 0)) (de_int))) (dss_one (ds_ret (de_tup (da_cons (de_str q_19) (da_cons (de_non) (da_nil))))))))))))))
/-! ### _law_deed -/
theorem sc__law_deed : FnScope ["_law_hand_here", "_law_account", "_law_kind", "_law_many", "_law_kept", "_law_line_here", "_law_wrong"] ["_law_hand_here", "_law_account"] (defScope z__law_deed) := ⟨rfl, rfl, rfl, by decide +kernel, rfl, by decide +kernel, by decide +kernel⟩
def c__law_deed (sp__law_draw sp__law_line : SpD) : CS := cSeq (cSet 2 (cCall sp__law_draw (cCons (cVar 0) (cCons (cC (.int 10)) (cNil))))) (cSeq (cIfS (cB (cOp ltD (cVar 2) (cC (.int 4)))) (cRet (cTup (cCons (cC (.str s_18)) (cCons (cCall sp__law_line (cCons (cVar 0) (cNil))) (cNil))))) (cNext)) (cSeq (cIfS (cB (cOp eqD (cVar 2) (cC (.int 4)))) (cRet (cTup (cCons (cC (.str s_18)) (cCons (cOp ixD (cLst (cCons (cC .non) (cCons (cC (.int 7)) (cCons (cLst (cCons (cC (.str s_9)) (cNil))) (cCons (cC (.str s_27)) (cCons (cTup (cCons (cC (.str s_9)) (cNil))) (cCons (cC (.bl true)) (cNil)))))))) (cCall sp__law_draw (cCons (cVar 0) (cCons (cC (.int 6)) (cNil))))) (cNil))))) (cNext)) (cSeq (cIfS (cB (cOp eqD (cVar 2) (cC (.int 5)))) (cRet (cTup (cCons (cC (.str s_20)) (cNil)))) (cNext)) (cSeq (cIfS (cB (cOp eqD (cVar 2) (cC (.int 6)))) (cSeq (cSet 3 (cCB lenD (cCons (cOp ixD (cVar 1) (cC (.int 0))) (cNil)))) (cRet (cTup (cCons (cC (.str s_26)) (cCons (cOp ixD (cLst (cCons (cVar 3) (cCons (cOp addD (cVar 3) (cC (.int 1))) (cCons (cU negD (cC (.int 1))) (cCons (cC (.bl true)) (cCons (cC .non) (cCons (cCall sp__law_draw (cCons (cVar 0) (cCons (cOp addD (cVar 3) (cC (.int 1))) (cNil)))) (cNil)))))))) (cCall sp__law_draw (cCons (cVar 0) (cCons (cC (.int 6)) (cNil))))) (cNil)))))) (cNext)) (cSeq (cSet 4 (cLstM (cNil))) (cSeq (cFor (cItA (cSl slD (cOp ixD (cVar 1) (cC (.int 0))) (cP (cOp ixD (cVar 1) (cC (.int 1)))) (cNoP))) (gNm 5) (cDrop (cBM "list" appM (cVar 4) (cCons (cOp ixD (cLst (cCons (cCB lenD (cCons (cVar 5) (cNil))) (cCons (cC (.int 0)) (cCons (cCall sp__law_draw (cCons (cVar 0) (cCons (cOp addD (cCB lenD (cCons (cVar 5) (cNil))) (cC (.int 1))) (cNil)))) (cNil))))) (cCall sp__law_draw (cCons (cVar 0) (cCons (cC (.int 3)) (cNil))))) (cNil))))) (cSeq (cIfS (cB (cOp ltD (cVar 2) (cC (.int 9)))) (cRet (cTup (cCons (cC (.str s_21)) (cCons (cCB tupleD (cCons (cVar 4) (cNil))) (cNil))))) (cNext)) (cSeq (cSet 6 (cLst (cCons (cCB listD (cCons (cVar 4) (cNil))) (cCons (cOp addD (cCB tupleD (cCons (cVar 4) (cNil))) (cTup (cCons (cC (.int 0)) (cNil)))) (cCons (cOp addD (cSl slD (cCB tupleD (cCons (cVar 4) (cNil))) (cP (cC (.int 1))) (cNoP)) (cTup (cCons (cOp powD (cC (.int 10)) (cC (.int 9))) (cNil)))) (cCons (cC .non) (cCons (cOp addD (cSl slD (cCB tupleD (cCons (cVar 4) (cNil))) (cNoP) (cP (cU negD (cC (.int 1))))) (cTup (cCons (cC (.bl true)) (cNil)))) (cCons (cTup (cCons (cU negD (cC (.int 1))) (cNil))) (cNil))))))))) (cRet (cTup (cCons (cC (.str s_21)) (cCons (cOp ixD (cVar 6) (cCall sp__law_draw (cCons (cVar 0) (cCons (cC (.int 6)) (cNil))))) (cNil)))))))))))))
theorem ok__law_deed {P : Program} {w : World} {K : PySem.W.Frag} {mg : Str → Option Value} {base : Heap} {k : Nat} {sp__law_draw sp__law_line sp : SpD} (T : Tx K mg) (h__law_draw : FnG P w K mg base "_law_draw" k sp__law_draw) (h__law_line : FnG P w K mg base "_law_line" k sp__law_line) (hl : ∀ ds G k, sp ds G k → ds.length = 2) (hk : Keeps 7 (c__law_deed sp__law_draw sp__law_line) sp) : FnG P w K mg base "_law_deed" (k + 1) sp := by
  obtain ⟨fd, F⟩ := T.c.def_ 32 (d := d32) rfl
  refine ⟨_, T.glo 58, fnA_ok F sc__law_deed (fun _ _ _ _ _ _ us hl => match us, hl with | [_, _], _ => rfl) (fun cdv A outer s H E hr => ?_) hl hk⟩
  exact dss_cons (ds_set (i := 2) sc__law_deed.nd (de_call h__law_draw hr (takes_of rfl rfl rfl rfl) (da_cons (de_var (i := 0)) (da_cons (de_int) (da_nil))))) (dss_cons (ds_if (dt_cmp op_ltD (de_var (i := 2)) (de_int)) (dss_one (ds_ret (de_tup (da_cons (de_str q_18) (da_cons (de_call h__law_line hr (takes_of rfl rfl rfl rfl) (da_cons (de_var (i := 0)) (da_nil))) (da_nil)))))) (dss_nil)) (dss_cons (ds_if (dt_cmp (op_eqDD hr.units) (de_var (i := 2)) (de_int)) (dss_one (ds_ret (de_tup (da_cons (de_str q_18) (da_cons (de_ix (de_lst (da_cons (de_non) (da_cons (de_int) (da_cons (de_lst (da_cons (de_str q_9) (da_nil))) (da_cons (de_str q_27) (da_cons (de_tup (da_cons (de_str q_9) (da_nil))) (da_cons (de_bl) (da_nil)))))))) (de_call h__law_draw hr (takes_of rfl rfl rfl rfl) (da_cons (de_var (i := 0)) (da_cons (de_int) (da_nil))))) (da_nil)))))) (dss_nil)) (dss_cons (ds_if (dt_cmp (op_eqDD hr.units) (de_var (i := 2)) (de_int)) (dss_one (ds_ret (de_tup (da_cons (de_str q_20) (da_nil))))) (dss_nil)) (dss_cons (ds_if (dt_cmp (op_eqDD hr.units) (de_var (i := 2)) (de_int)) (dss_cons (ds_set (i := 3) sc__law_deed.nd (de_callB call_lenD (T.free 4) (da_cons (de_ix (de_var (i := 1)) (de_int)) (da_nil)))) (dss_one (ds_ret (de_tup (da_cons (de_str q_26) (da_cons (de_ix (de_lst (da_cons (de_var (i := 3)) (da_cons (de_op op_addD (de_var (i := 3)) (de_int)) (da_cons (de_un un_negD (de_int)) (da_cons (de_bl) (da_cons (de_non) (da_cons (de_call h__law_draw hr (takes_of rfl rfl rfl rfl) (da_cons (de_var (i := 0)) (da_cons (de_op op_addD (de_var (i := 3)) (de_int)) (da_nil)))) (da_nil)))))))) (de_call h__law_draw hr (takes_of rfl rfl rfl rfl) (da_cons (de_var (i := 0)) (da_cons (de_int) (da_nil))))) (da_nil))))))) (dss_nil)) (dss_cons (ds_set (i := 4) sc__law_deed.nd (de_lstM (da_nil))) (dss_cons (ds_for (J := [5]) (passes_of rfl) rfl (di_any (de_slice sl_D (de_ix (de_var (i := 1)) (de_int)) (do_some (de_ix (de_var (i := 1)) (de_int))) (do_none))) (dg_name (i := 5) sc__law_deed.nd) (dss_one (ds_expr (de_bm PySem.F.plainAttrs_list PySem.F.slot_list_append PySem.F.type_list_append mt_appM (de_var (i := 4)) (da_cons (de_ix (de_lst (da_cons (de_callB call_lenD (T.free 4) (da_cons (de_var (i := 5)) (da_nil))) (da_cons (de_int) (da_cons (de_call h__law_draw hr (takes_of rfl rfl rfl rfl) (da_cons (de_var (i := 0)) (da_cons (de_op op_addD (de_callB call_lenD (T.free 4) (da_cons (de_var (i := 5)) (da_nil))) (de_int)) (da_nil)))) (da_nil))))) (de_call h__law_draw hr (takes_of rfl rfl rfl rfl) (da_cons (de_var (i := 0)) (da_cons (de_int) (da_nil))))) (da_nil)))))) (dss_cons (ds_if (dt_cmp op_ltD (de_var (i := 2)) (de_int)) (dss_one (ds_ret (de_tup (da_cons (de_str q_21) (da_cons (de_callTy call_tupleD (T.free 3) (da_cons (de_var (i := 4)) (da_nil))) (da_nil)))))) (dss_nil)) (dss_cons (ds_set (i := 6) sc__law_deed.nd (de_lst (da_cons (de_callTy call_listD (T.free 16) (da_cons (de_var (i := 4)) (da_nil))) (da_cons (de_op op_addD (de_callTy call_tupleD (T.free 3) (da_cons (de_var (i := 4)) (da_nil))) (de_tup (da_cons (de_int) (da_nil)))) (da_cons (de_op op_addD (de_slice sl_D (de_callTy call_tupleD (T.free 3) (da_cons (de_var (i := 4)) (da_nil))) (do_some (de_int)) (do_none)) (de_tup (da_cons (de_op op_powD (de_int) (de_int)) (da_nil)))) (da_cons (de_non) (da_cons (de_op op_addD (de_slice sl_D (de_callTy call_tupleD (T.free 3) (da_cons (de_var (i := 4)) (da_nil))) (do_none) (do_some (de_un un_negD (de_int)))) (de_tup (da_cons (de_bl) (da_nil)))) (da_cons (de_tup (da_cons (de_un un_negD (de_int)) (da_nil))) (da_nil))))))))) (dss_one (ds_ret (de_tup (da_cons (de_str q_21) (da_cons (de_ix (de_var (i := 6)) (de_call h__law_draw hr (takes_of rfl rfl rfl rfl) (da_cons (de_var (i := 0)) (da_cons (de_int) (da_nil))))) (da_nil))))))))))))))
/-! ### _law_is_disk -/
theorem sc__law_is_disk : FnScope ["_law_disk", "_law_account"] ["_law_disk", "_law_account"] (defScope z__law_is_disk) := ⟨rfl, rfl, rfl, by decide +kernel, rfl, by decide +kernel, by decide +kernel⟩
def c__law_is_disk (sp__law_is sp_Disk_synced sp_Disk_lines : SpD) : CS := cRet (cCall sp__law_is (cCons (cTup (cCons (cFrz (cMeth "Disk" "lines" sp_Disk_lines (cVar 0) cNil)) (cCons (cMeth "Disk" "synced" sp_Disk_synced (cVar 0) cNil) (cNil)))) (cCons (cTup (cCons (cOp ixD (cVar 1) (cC (.int 0))) (cCons (cOp ixD (cVar 1) (cC (.int 1))) (cNil)))) (cNil))))
theorem ok__law_is_disk {P : Program} {w : World} {K : PySem.W.Frag} {mg : Str → Option Value} {base : Heap} {k : Nat} {sp__law_is sp_Disk_synced sp_Disk_lines sp : SpD} (T : Tx K mg) (h__law_is : FnG P w K mg base "_law_is" k sp__law_is) (h_Disk_synced : FnM P w K mg base "Disk" "synced" k sp_Disk_synced) (h_Disk_lines : FnM P w K mg base "Disk" "lines" k sp_Disk_lines) (hl : ∀ ds G k, sp ds G k → ds.length = 2) (hk : Keeps 2 (c__law_is_disk sp__law_is sp_Disk_synced sp_Disk_lines) sp) : FnG P w K mg base "_law_is_disk" (k + 1) sp := by
  obtain ⟨fd, F⟩ := T.c.def_ 33 (d := d33) rfl
  refine ⟨_, T.glo 59, fnA_ok F sc__law_is_disk (fun _ _ _ _ _ _ us hl => match us, hl with | [_, _], _ => rfl) (fun cdv A outer s H E hr => ?_) hl hk⟩
  exact dss_one (ds_ret (de_call h__law_is hr (takes_of rfl rfl rfl rfl) (da_cons (de_tup (da_cons (de_frz (de_meth0 h_Disk_lines hr (takes_of rfl rfl rfl rfl) (de_var (i := 0)))) (da_cons (de_meth0 h_Disk_synced hr (takes_of rfl rfl rfl rfl) (de_var (i := 0))) (da_nil)))) (da_cons (de_tup (da_cons (de_ix (de_var (i := 1)) (de_int)) (da_cons (de_ix (de_var (i := 1)) (de_int)) (da_nil)))) (da_nil)))))
/-! ### _law_are_records -/
theorem sc__law_are_records : FnScope ["_law_hand_here", "_law_line_here", "_law_row", "_law_at", "_law_sign_here", "_law_other"] ["_law_hand_here"] (defScope z__law_are_records) := ⟨rfl, rfl, rfl, by decide +kernel, rfl, by decide +kernel, by decide +kernel⟩
def c__law_are_records (sp__law_line sp_record sp__law_is sp__law_record sp_read_record sp__law_draw sp__law_any_sign sp__law_contents : SpD) : CS := cSeq (cSet 1 (cCall sp__law_line (cCons (cVar 0) (cNil)))) (cSeq (cSet 2 (cCall sp_record (cCons (cVar 1) (cNil)))) (cSeq (cIfS (cOr (cNot (cB (cCall sp__law_is (cCons (cVar 2) (cCons (cCall sp__law_record (cCons (cVar 1) (cNil))) (cNil)))))) (cNot (cB (cCall sp__law_is (cCons (cCall sp_read_record (cCons (cVar 2) (cNil))) (cCons (cVar 1) (cNil))))))) (cRet (cC (.bl false))) (cNext)) (cSeq (cIfS (cNot (cB (cCB allC (cCons (cLc (cItR1 (cCons (cCB lenD (cCons (cVar 2) (cNil))) (cNil))) (gNm 3) (cYes) (cOp isD (cCall sp_read_record (cCons (cSl slD (cVar 2) (cNoP) (cP (cVar 3))) (cNil))) (cC .non)) [3]) (cNil))))) (cRet (cC (.bl false))) (cNext)) (cSeq (cSet 3 (cCall sp__law_draw (cCons (cVar 0) (cCons (cOp addD (cCB lenD (cCons (cVar 2) (cNil))) (cC (.int 1))) (cNil))))) (cSeq (cSet 4 (cOp ixD (cLst (cCons (cC (.str s_5)) (cCons (cC (.str s_2)) (cCons (cC (.str s_28)) (cCons (cCall sp__law_any_sign (cCons (cVar 0) (cNil))) (cNil)))))) (cCall sp__law_draw (cCons (cVar 0) (cCons (cC (.int 4)) (cNil)))))) (cSeq (cFor (cItA (cLst (cCons (cOp addD (cOp addD (cSl slD (cVar 2) (cNoP) (cP (cVar 3))) (cVar 4)) (cSl slD (cVar 2) (cP (cVar 3)) (cNoP))) (cCons (cOp addD (cOp addD (cSl slD (cVar 2) (cNoP) (cP (cVar 3))) (cVar 4)) (cSl slD (cVar 2) (cP (cOp addD (cVar 3) (cC (.int 1)))) (cNoP))) (cCons (cOp addD (cSl slD (cVar 2) (cNoP) (cP (cVar 3))) (cSl slD (cVar 2) (cP (cOp addD (cVar 3) (cC (.int 1)))) (cNoP))) (cCons (cVar 1) (cNil))))))) (gNm 5) (cIfS (cNot (cB (cCall sp__law_is (cCons (cCall sp_read_record (cCons (cVar 5) (cNil))) (cCons (cCall sp__law_contents (cCons (cVar 5) (cNil))) (cNil)))))) (cRet (cC (.bl false))) (cNext))) (cRet (cC (.bl true)))))))))
theorem ok__law_are_records {P : Program} {w : World} {K : PySem.W.Frag} {mg : Str → Option Value} {base : Heap} {k : Nat} {sp__law_line sp_record sp__law_is sp__law_record sp_read_record sp__law_draw sp__law_any_sign sp__law_contents sp : SpD} (T : Tx K mg) (h__law_line : FnG P w K mg base "_law_line" k sp__law_line) (h_record : FnG P w K mg base "record" k sp_record) (h__law_is : FnG P w K mg base "_law_is" k sp__law_is) (h__law_record : FnG P w K mg base "_law_record" k sp__law_record) (h_read_record : FnG P w K mg base "read_record" k sp_read_record) (h__law_draw : FnG P w K mg base "_law_draw" k sp__law_draw) (h__law_any_sign : FnG P w K mg base "_law_any_sign" k sp__law_any_sign) (h__law_contents : FnG P w K mg base "_law_contents" k sp__law_contents) (hl : ∀ ds G k, sp ds G k → ds.length = 1) (hk : Keeps 6 (c__law_are_records sp__law_line sp_record sp__law_is sp__law_record sp_read_record sp__law_draw sp__law_any_sign sp__law_contents) sp) : FnG P w K mg base "_law_are_records" (k + 1) sp := by
  obtain ⟨fd, F⟩ := T.c.def_ 34 (d := d34) rfl
  refine ⟨_, T.glo 60, fnA_ok F sc__law_are_records (fun _ _ _ _ _ _ us hl => match us, hl with | [_], _ => rfl) (fun cdv A outer s H E hr => ?_) hl hk⟩
  exact dss_cons (ds_set (i := 1) sc__law_are_records.nd (de_call h__law_line hr (takes_of rfl rfl rfl rfl) (da_cons (de_var (i := 0)) (da_nil)))) (dss_cons (ds_set (i := 2) sc__law_are_records.nd (de_call h_record hr (takes_of rfl rfl rfl rfl) (da_cons (de_var (i := 1)) (da_nil)))) (dss_cons (ds_if ((dw_or (dt_not (dt_val (de_call h__law_is hr (takes_of rfl rfl rfl rfl) (da_cons (de_var (i := 2)) (da_cons (de_call h__law_record hr (takes_of rfl rfl rfl rfl) (da_cons (de_var (i := 1)) (da_nil))) (da_nil)))))) (dw_or1 (dt_not (dt_val (de_call h__law_is hr (takes_of rfl rfl rfl rfl) (da_cons (de_call h_read_record hr (takes_of rfl rfl rfl rfl) (da_cons (de_var (i := 2)) (da_nil))) (da_cons (de_var (i := 1)) (da_nil)))))))).pt) (dss_one (ds_ret (de_bl))) (dss_nil)) (dss_cons (ds_if (dt_not (dt_val (de_callB (call_allC rfl) (T.free 6) (da_cons (de_lc (own := [("_law_at", 3)]) rfl sc__law_are_records.nd (di_range1 (T.free 23) (da_cons (de_callB call_lenD (T.free 4) (da_cons (de_var (i := 2)) (da_nil))) (da_nil))) (blkOk_by (by rfl)) (fun _ _ _ _ _ => dg_name (i := 3) sc__law_are_records.nd) (fun _ _ _ _ _ => dts_nil) (fun _ _ _ _ _ => de_cmp op_isD (de_call h_read_record hr takes0 (da_cons (de_slice sl_D (de_var (i := 2)) (do_none) (do_some (de_var (i := 3)))) (da_nil))) (de_non))) (da_nil))))) (dss_one (ds_ret (de_bl))) (dss_nil)) (dss_cons (ds_set (i := 3) sc__law_are_records.nd (de_call h__law_draw hr (takes_of rfl rfl rfl rfl) (da_cons (de_var (i := 0)) (da_cons (de_op op_addD (de_callB call_lenD (T.free 4) (da_cons (de_var (i := 2)) (da_nil))) (de_int)) (da_nil))))) (dss_cons (ds_set (i := 4) sc__law_are_records.nd (de_ix (de_lst (da_cons (de_str q_5) (da_cons (de_str q_2) (da_cons (de_str q_28) (da_cons (de_call h__law_any_sign hr (takes_of rfl rfl rfl rfl) (da_cons (de_var (i := 0)) (da_nil))) (da_nil)))))) (de_call h__law_draw hr (takes_of rfl rfl rfl rfl) (da_cons (de_var (i := 0)) (da_cons (de_int) (da_nil)))))) (dss_cons (ds_for (J := [5]) (passes_of rfl) rfl (di_any (de_lst (da_cons (de_op op_addD (de_op op_addD (de_slice sl_D (de_var (i := 2)) (do_none) (do_some (de_var (i := 3)))) (de_var (i := 4))) (de_slice sl_D (de_var (i := 2)) (do_some (de_var (i := 3))) (do_none))) (da_cons (de_op op_addD (de_op op_addD (de_slice sl_D (de_var (i := 2)) (do_none) (do_some (de_var (i := 3)))) (de_var (i := 4))) (de_slice sl_D (de_var (i := 2)) (do_some (de_op op_addD (de_var (i := 3)) (de_int))) (do_none))) (da_cons (de_op op_addD (de_slice sl_D (de_var (i := 2)) (do_none) (do_some (de_var (i := 3)))) (de_slice sl_D (de_var (i := 2)) (do_some (de_op op_addD (de_var (i := 3)) (de_int))) (do_none))) (da_cons (de_var (i := 1)) (da_nil))))))) (dg_name (i := 5) sc__law_are_records.nd) (dss_one (ds_if (dt_not (dt_val (de_call h__law_is hr (takes_of rfl rfl rfl rfl) (da_cons (de_call h_read_record hr (takes_of rfl rfl rfl rfl) (da_cons (de_var (i := 5)) (da_nil))) (da_cons (de_call h__law_contents hr (takes_of rfl rfl rfl rfl) (da_cons (de_var (i := 5)) (da_nil))) (da_nil)))))) (dss_one (ds_ret (de_bl))) (dss_nil)))) (dss_one (ds_ret (de_bl)))))))))
/-! ### law -/
theorem sc_law : FnScope ["_law_script", "_law_hand_here", "_law_disk", "_law_account", "_law_other", "_law_twin", "_law_turn", "_law_deed_here"] ["_law_script"] (defScope z_law) := ⟨rfl, rfl, rfl, by decide +kernel, rfl, by decide +kernel, by decide +kernel⟩
def c_law (sp__law_hand sp_Disk_init sp_Disk_copy sp__law_draw sp__law_deed sp__law_is sp__law_did sp__law_called sp__law_is_disk sp_Disk_lines sp__law_are_records : SpD) : CS := cSeq (cSet 1 (cCall sp__law_hand (cCons (cVar 0) (cNil)))) (cSeq (cSet 2 (cMake "Disk" sp_Disk_init cNil)) (cSeq (cSet 3 (cLstM (cCons (cLst (cNil)) (cCons (cC (.int 0)) (cNil))))) (cSeq (cSet 4 (cMeth "Disk" "copy" sp_Disk_copy (cVar 2) cNil)) (cSeq (cSet 5 (cLstM (cCons (cLst (cNil)) (cCons (cC (.int 0)) (cNil))))) (cSeq (cFor (cItR1 (cCons (cOp addD (cC (.int 1)) (cCall sp__law_draw (cCons (cVar 1) (cCons (cC (.int 24)) (cNil))))) (cNil))) (gNm 6) (cSeq (cIfS (cB (cOp eqD (cCall sp__law_draw (cCons (cVar 1) (cCons (cC (.int 8)) (cNil)))) (cC (.int 0)))) (cSeq (cSet 4 (cMeth "Disk" "copy" sp_Disk_copy (cVar 2) cNil)) (cSet 5 (cCB listM (cCons (cVar 3) (cNil))))) (cNext)) (cSeq (cSet 7 (cCall sp__law_deed (cCons (cVar 1) (cCons (cVar 3) (cNil))))) (cSeq (cIfS (cOr (cNot (cB (cCall sp__law_is (cCons (cCall sp__law_called (cCons (cVar 2) (cCons (cVar 7) (cNil)))) (cCons (cCall sp__law_did (cCons (cVar 3) (cCons (cVar 7) (cNil)))) (cNil)))))) (cNot (cB (cCall sp__law_is_disk (cCons (cVar 2) (cCons (cVar 3) (cNil))))))) (cRet (cC (.bl false))) (cNext)) (cSeq (cDrop (cBM "list" appM (cMeth "Disk" "lines" sp_Disk_lines (cVar 2) cNil) (cCons (cC (.str s_29)) (cNil)))) (cSeq (cIfS (cB (cOp eqD (cOp modD (cVar 6) (cC (.int 3))) (cC (.int 0)))) (cSeq (cSet 7 (cCall sp__law_deed (cCons (cVar 1) (cCons (cVar 5) (cNil))))) (cIfS (cNot (cB (cCall sp__law_is (cCons (cCall sp__law_called (cCons (cVar 4) (cCons (cVar 7) (cNil)))) (cCons (cCall sp__law_did (cCons (cVar 5) (cCons (cVar 7) (cNil)))) (cNil)))))) (cRet (cC (.bl false))) (cNext))) (cNext)) (cIfS (cOr (cNot (cB (cCall sp__law_is_disk (cCons (cVar 4) (cCons (cVar 5) (cNil)))))) (cNot (cB (cCall sp__law_are_records (cCons (cVar 1) (cNil)))))) (cRet (cC (.bl false))) (cNext)))))))) (cRet (cCall sp__law_is_disk (cCons (cVar 2) (cCons (cVar 3) (cNil))))))))))
theorem okF_law {P : Program} {w : World} {K : PySem.W.Frag} {mg : Str → Option Value} {base : Heap} {k j : Nat} {sp__law_hand sp_Disk_init sp_Disk_copy sp__law_draw sp__law_deed sp__law_is sp__law_did sp__law_called sp__law_is_disk sp_Disk_lines sp__law_are_records sp : SpD} {fd : FuncData} (T : Tx K mg) (F : FunD K d35.name d35.qual d35.params d35.body d35.scope (d35.dvs K) (d35.kws K) (He.fAd K d35.at_) fd) (h__law_hand : FnG P w K mg base "_law_hand" k sp__law_hand) (h_Disk_init : FnC P w K mg base "Disk" j sp_Disk_init) (h_Disk_copy : FnM P w K mg base "Disk" "copy" k sp_Disk_copy) (h__law_draw : FnG P w K mg base "_law_draw" k sp__law_draw) (h__law_deed : FnG P w K mg base "_law_deed" k sp__law_deed) (h__law_is : FnG P w K mg base "_law_is" k sp__law_is) (h__law_did : FnG P w K mg base "_law_did" k sp__law_did) (h__law_called : FnG P w K mg base "_law_called" k sp__law_called) (h__law_is_disk : FnG P w K mg base "_law_is_disk" k sp__law_is_disk) (h_Disk_lines : FnM P w K mg base "Disk" "lines" k sp_Disk_lines) (h__law_are_records : FnG P w K mg base "_law_are_records" k sp__law_are_records) (hj : j + 1 ≤ k) (hl : ∀ ds G k, sp ds G k → ds.length = 1) (hk : Keeps 8 (c_law sp__law_hand sp_Disk_init sp_Disk_copy sp__law_draw sp__law_deed sp__law_is sp__law_did sp__law_called sp__law_is_disk sp_Disk_lines sp__law_are_records) sp) : FnOk P w K mg base (L2.CX P w) (k + 1) (He.fAd K d35.at_) fd ["_law_script"] (sp2 K sp) := by
  exact fnF_ok F sc_law (fun cdv A outer s H E hr => dss_cons (ds_set (i := 1) sc_law.nd (de_call h__law_hand hr (takes_of rfl rfl rfl rfl) (da_cons (de_var (i := 0)) (da_nil)))) (dss_cons (ds_set (i := 2) sc_law.nd (de_make0 h_Disk_init (hr.mono hj) (takes_of rfl rfl rfl rfl))) (dss_cons (ds_set (i := 3) sc_law.nd (de_lstM (da_cons (de_lst (da_nil)) (da_cons (de_int) (da_nil))))) (dss_cons (ds_set (i := 4) sc_law.nd (de_meth0 h_Disk_copy hr (takes_of rfl rfl rfl rfl) (de_var (i := 2)))) (dss_cons (ds_set (i := 5) sc_law.nd (de_lstM (da_cons (de_lst (da_nil)) (da_cons (de_int) (da_nil))))) (dss_cons (ds_for (J := [6]) (passes_of rfl) rfl (di_range1 (T.free 23) (da_cons (de_op op_addD (de_int) (de_call h__law_draw hr (takes_of rfl rfl rfl rfl) (da_cons (de_var (i := 1)) (da_cons (de_int) (da_nil))))) (da_nil))) (dg_name (i := 6) sc_law.nd) (dss_cons (ds_if (dt_cmp (op_eqDD hr.units) (de_call h__law_draw hr (takes_of rfl rfl rfl rfl) (da_cons (de_var (i := 1)) (da_cons (de_int) (da_nil)))) (de_int)) (dss_cons (ds_set (i := 4) sc_law.nd (de_meth0 h_Disk_copy hr (takes_of rfl rfl rfl rfl) (de_var (i := 2)))) (dss_one (ds_set (i := 5) sc_law.nd (de_callTy call_listM (T.free 16) (da_cons (de_var (i := 3)) (da_nil)))))) (dss_nil)) (dss_cons (ds_set (i := 7) sc_law.nd (de_call h__law_deed hr (takes_of rfl rfl rfl rfl) (da_cons (de_var (i := 1)) (da_cons (de_var (i := 3)) (da_nil))))) (dss_cons (ds_if ((dw_or (dt_not (dt_val (de_call h__law_is hr (takes_of rfl rfl rfl rfl) (da_cons (de_call h__law_called hr (takes_of rfl rfl rfl rfl) (da_cons (de_var (i := 2)) (da_cons (de_var (i := 7)) (da_nil)))) (da_cons (de_call h__law_did hr (takes_of rfl rfl rfl rfl) (da_cons (de_var (i := 3)) (da_cons (de_var (i := 7)) (da_nil)))) (da_nil)))))) (dw_or1 (dt_not (dt_val (de_call h__law_is_disk hr (takes_of rfl rfl rfl rfl) (da_cons (de_var (i := 2)) (da_cons (de_var (i := 3)) (da_nil)))))))).pt) (dss_one (ds_ret (de_bl))) (dss_nil)) (dss_cons (ds_expr (de_bm PySem.F.plainAttrs_list PySem.F.slot_list_append PySem.F.type_list_append mt_appM (de_meth0 h_Disk_lines hr (takes_of rfl rfl rfl rfl) (de_var (i := 2))) (da_cons (de_str q_29) (da_nil)))) (dss_cons (ds_if (dt_cmp (op_eqDD hr.units) (de_op op_modD (de_var (i := 6)) (de_int)) (de_int)) (dss_cons (ds_set (i := 7) sc_law.nd (de_call h__law_deed hr (takes_of rfl rfl rfl rfl) (da_cons (de_var (i := 1)) (da_cons (de_var (i := 5)) (da_nil))))) (dss_one (ds_if (dt_not (dt_val (de_call h__law_is hr (takes_of rfl rfl rfl rfl) (da_cons (de_call h__law_called hr (takes_of rfl rfl rfl rfl) (da_cons (de_var (i := 4)) (da_cons (de_var (i := 7)) (da_nil)))) (da_cons (de_call h__law_did hr (takes_of rfl rfl rfl rfl) (da_cons (de_var (i := 5)) (da_cons (de_var (i := 7)) (da_nil)))) (da_nil)))))) (dss_one (ds_ret (de_bl))) (dss_nil)))) (dss_nil)) (dss_one (ds_if ((dw_or (dt_not (dt_val (de_call h__law_is_disk hr (takes_of rfl rfl rfl rfl) (da_cons (de_var (i := 4)) (da_cons (de_var (i := 5)) (da_nil)))))) (dw_or1 (dt_not (dt_val (de_call h__law_are_records hr (takes_of rfl rfl rfl rfl) (da_cons (de_var (i := 1)) (da_nil))))))).pt) (dss_one (ds_ret (de_bl))) (dss_nil))))))))) (dss_one (ds_ret (de_call h__law_is_disk hr (takes_of rfl rfl rfl rfl) (da_cons (de_var (i := 2)) (da_cons (de_var (i := 3)) (da_nil)))))))))))) hl hk
def loose : List Str := (["PieceError", "NoNumber", "NoLine", "NoCut", "FIRST_SIGN", "LAST_SIGN", "is_integer", "is_within", "is_sized", "are_signs", "check_within", "COLON", "FIGURES", "check_line", "Disk", "raw_record", "record", "number_of_word", "raw_contents", "read_record", "_law_hand", "_law_draw", "_law_is", "_law_any_sign", "_law_sign", "_law_text", "_law_line", "_law_record", "_law_contents", "_law_is_number"] : List Str) ++ (["_law_called", "_law_is_line", "_law_did", "_law_deed", "_law_is_disk", "_law_are_records"] : List Str)
end Kx
set_option maxHeartbeats 4000000
/-! k50, the plain part: the program's defs. -/
namespace Kx
open PySem PySem.Spec PyProof.Rows L2 Dl
def sp_is_integer : SpD := fun ds G k => match ds with
  | [d] => pl d ∧ k.ok (.bl (isIntD d)) G
  | _ => False
theorem k_is_integer : Keeps 1 c_is_integer sp_is_integer := by
  intro ds G k h
  unfold sp_is_integer at h
  split at h
  case h_2 => exact h.elim
  obtain ⟨⟨T, hT⟩, h⟩ := h
  rename_i d
  cases d <;> simp [ty0] at hT <;> simp [c_is_integer, startD, subT] <;> exact rW.of (by assumption)
def sp_is_within : SpD := fun ds G k => match ds with
  | [d, .int lo, .int hi] => pl d ∧ k.ok (.bl (inB d lo hi)) G
  | _ => False
theorem k_is_within : Keeps 3 (c_is_within sp_is_integer) sp_is_within := by
  intro ds G k h
  unfold sp_is_within at h
  split at h
  case h_2 => exact h.elim
  obtain ⟨hT, h⟩ := h
  rename_i d lo hi
  simp [c_is_within, startD, sp_is_integer, hT]
  cases d <;> simp [isIntD] at * <;> first | exact rW.of h | skip
  refine .dec (fun h1 => rWc h ?_) (fun h1 => rWc h ?_) <;> simp [inB, h1]
def szB (d : D) (lo hi : Int) : Bool := match d with
  | .tup xs => decide (lo ≤ xs.length) && decide ((xs.length : Int) ≤ hi)
  | _ => false
def sp_is_sized : SpD := fun ds G k => match ds with
  | [d, .int lo, .int hi] => pl d ∧ k.ok (.bl (szB d lo hi)) G
  | _ => False
theorem k_is_sized : Keeps 3 c_is_sized sp_is_sized := by
  intro ds G k h
  unfold sp_is_sized at h
  split at h
  case h_2 => exact h.elim
  obtain ⟨⟨T, hT⟩, h⟩ := h
  rename_i d lo hi
  cases d <;> simp [ty0] at hT <;> simp [c_is_sized, startD, subT] <;> first | exact rW.of (by assumption) | skip
  refine .dec (fun h1 => rWc h ?_) (fun h1 => rWc h ?_) <;> simp [szB, h1]
def sp_are_signs : SpD := fun ds G k => match ds with
  | [d] => pls d ∧ k.ok (.bl (sgB d)) G
  | _ => False
theorem k_are_signs : Keeps 2 c_are_signs sp_are_signs := by
  intro ds G k h
  unfold sp_are_signs at h
  split at h
  case h_2 => exact h.elim
  obtain ⟨⟨⟨T, hT⟩, hl⟩, h⟩ := h
  rename_i d
  cases d <;> simp [ty0] at hT <;> simp [c_are_signs, startD, subT] <;> first | exact rW.of (by assumption) | skip
  rename_i s
  refine lc_map (fun d => .bl (sgB d)) (by simpa using hl s rfl) (fun _ _ _ => trivial) ?_ ?_
  · intro i d p acc Y Z hd hp hY
    simp at hd
    obtain ⟨c, hc, rfl⟩ := hd
    simp [s_0, s_1, x_lt1]
    refine .dec (fun h1 => cst1 hY ?_) (fun h1 => cst1 hY ?_)
    · simp [sgB, sgL]; omega
    · simp [sgB, sgL, show 32 ≤ c by omega, notlt]
  · refine ⟨s.map fun c => sgB (.str [c]), by simp, rWc h ?_⟩
    simp [sgB, sgL]
def sp_check_within : SpD := fun ds G k => match ds with
  | [d, .int lo, .int hi] => pl d ∧ Bf (inB d lo hi) (k.ok .non G) (k.ex ⟨"NoNumber", []⟩ G)
  | _ => False
theorem k_check_within : Keeps 3 (c_check_within sp_is_within) sp_check_within := by
  intro ds G k h
  unfold sp_check_within at h
  split at h
  case h_2 => exact h.elim
  obtain ⟨hT, h⟩ := h
  simp [c_check_within, startD, sp_is_within, hT]
  exact .mk (fun e => rW.of (h.1 e)) fun e => xW.of (h.2 e)
def sp_check_line : SpD := fun ds G k => match ds with
  | [d] => pls d ∧ Bf (sgB d) (k.ok .non G) (k.ex ⟨"NoLine", []⟩ G)
  | _ => False
theorem k_check_line : Keeps 1 (c_check_line sp_are_signs) sp_check_line := by
  intro ds G k h
  unfold sp_check_line at h
  split at h
  case h_2 => exact h.elim
  obtain ⟨hT, h⟩ := h
  simp [c_check_line, startD, sp_are_signs, hT]
  exact .mk (fun e => rW.of (h.1 e)) fun e => xW.of (h.2 e)
/-- a disk: its lines at b -/
def fdk (b : Addr) (n : Int) : List (Str × D) := [("written", .adr b), ("lasting", .int n)]
abbrev dk0 (b : Addr) (n : Int) : MO := .ins "Disk" (fdk b n)
section
variable {b : Addr} {n m : Int} {d : D}
@[simp] theorem fdk_w : List.lookup ("written" : Str) (fdk b n) = (some (.adr b) : Option D) := rfl
@[simp] theorem fdk_l : List.lookup ("lasting" : Str) (fdk b n) = (some (.int n) : Option D) := rfl
@[simp] theorem fdk_pw {c : Addr} : pf "written" (.adr c) (fdk b n) = fdk c n := rfl
@[simp] theorem fdk_pl : pf "lasting" (.int m) (fdk b n) = fdk b m := rfl
@[simp] theorem fdk_len : (fdk b n).length = 2 := rfl
@[simp] theorem fdk_m1 : List.lookup ("write" : Str) (fdk b n) = (none : Option D) := rfl
@[simp] theorem fdk_m2 : List.lookup ("sync" : Str) (fdk b n) = (none : Option D) := rfl
@[simp] theorem fdk_m3 : List.lookup ("lines" : Str) (fdk b n) = (none : Option D) := rfl
@[simp] theorem fdk_m4 : List.lookup ("synced" : Str) (fdk b n) = (none : Option D) := rfl
@[simp] theorem fdk_m5 : List.lookup ("cut" : Str) (fdk b n) = (none : Option D) := rfl
@[simp] theorem fdk_m6 : List.lookup ("drop" : Str) (fdk b n) = (none : Option D) := rfl
@[simp] theorem fdk_m7 : List.lookup ("copy" : Str) (fdk b n) = (none : Option D) := rfl
end
/-- a disk with its lines -/
def DkD (G : Gm) (a b : Addr) (ls : List (List Nat)) (n : Nat) : Prop := G a = some (dk0 b n) ∧ G b = some (.lst (ls.map D.str))
theorem DkD.ne {G : Gm} {a b : Addr} {ls : List (List Nat)} {n : Nat} (h : DkD G a b ls n) : a ≠ b := fun e => by
  obtain ⟨h1, h2⟩ := h
  subst e
  rw [h1] at h2
  cases h2
def sp_Disk_init : SpD := fun ds G k => match ds with
  | [.adr a] => G a = some (.ins "Disk" []) ∧ ∀ b, G b = none → k.ok .non (ug (ug G b (.lst [])) a (dk0 b 0))
  | _ => False
theorem k_Disk_init : Keeps 1 c_Disk_init sp_Disk_init := by
  intro ds G k h
  unfold sp_Disk_init at h
  split at h
  case h_2 => exact h.elim
  obtain ⟨hG, h⟩ := h
  simp [c_Disk_init, startD]
  intro b hb
  have hne := ne_of_free hG hb
  refine ⟨_, (ug_ne hne).trans hG, by simp, ?_⟩
  simp [pf]
  exact rW.of (h b hb)
/-- write -/
def sp_Disk_write : SpD := fun ds G k => match ds with
  | [.adr a, d] => ∃ b ls n, DkD G a b ls n ∧ pls d ∧ ls.length < 1000000 ∧ (∀ s, d = .str s → sgB d = true → k.ok (.int ls.length) (ug G b (.lst ((ls ++ [s]).map D.str)))) ∧ (sgB d = false → k.ex ⟨"NoLine", []⟩ G)
  | _ => False
theorem k_Disk_write : Keeps 2 (c_Disk_write sp_check_line) sp_Disk_write := by
  intro ds G k h
  unfold sp_Disk_write at h
  split at h
  case h_2 => exact h.elim
  obtain ⟨b, ls, n, hD, hp, hl, h1, h2⟩ := h
  rename_i a d
  simp [c_Disk_write, startD, sp_check_line, hp]
  refine .mk (fun e => ?_) (fun e => xW.of (h2 e))
  cases d <;> try (cases e; done)
  rename_i s
  simp [hD.1, hD.2, ug_ne hD.ne]
  refine ⟨by omega, rWc2 (h1 s rfl e) ?_ ?_⟩ <;> simp
/-- sync -/
def sp_Disk_sync : SpD := fun ds G k => match ds with
  | [.adr a] => ∃ b ls n, DkD G a b ls n ∧ k.ok (.int (ls.length - n)) (ug G a (dk0 b ls.length))
  | _ => False
theorem k_Disk_sync : Keeps 2 c_Disk_sync sp_Disk_sync := by
  intro ds G k h
  unfold sp_Disk_sync at h
  split at h
  case h_2 => exact h.elim
  obtain ⟨b, ls, n, hD, h⟩ := h
  simp [c_Disk_sync, startD, hD.1, hD.2]
  exact rW.of h
def sp_Disk_lines : SpD := fun ds G k => match ds with
  | [.adr a] => ∃ b ls n, DkD G a b ls n ∧ ∀ p, G p = none → k.ok (.adr p) (ug G p (.lst (ls.map D.str)))
  | _ => False
theorem k_Disk_lines : Keeps 1 c_Disk_lines sp_Disk_lines := by
  intro ds G k h
  unfold sp_Disk_lines at h
  split at h
  case h_2 => exact h.elim
  obtain ⟨b, ls, n, hD, h⟩ := h
  simp [c_Disk_lines, startD, hD.1, hD.2]
  exact fun p hp => rW.of (h p hp)
def sp_Disk_synced : SpD := fun ds G k => match ds with
  | [.adr a] => ∃ b ls n, DkD G a b ls n ∧ k.ok (.int n) G
  | _ => False
theorem k_Disk_synced : Keeps 1 c_Disk_synced sp_Disk_synced := by
  intro ds G k h
  unfold sp_Disk_synced at h
  split at h
  case h_2 => exact h.elim
  obtain ⟨b, ls, n, hD, h⟩ := h
  simp [c_Disk_synced, startD, hD.1, hD.2]
  exact rW.of h
def sp_Disk_drop : SpD := fun ds G k => match ds with
  | [.adr a, d] => ∃ b ls n, DkD G a b ls n ∧ pl d ∧ (∀ i : Nat, d = .int i → i ≤ ls.length → ∀ c, G c = none → k.ok .non (ug (ug G c (.lst ((ls.take i).map D.str))) a (dk0 c (min n i : Nat)))) ∧ (inB d 0 ls.length = false → k.ex ⟨"NoNumber", []⟩ G)
  | _ => False
theorem k_Disk_drop : Keeps 2 (c_Disk_drop sp_check_within) sp_Disk_drop := by
  intro ds G k h
  unfold sp_Disk_drop at h
  split at h
  case h_2 => exact h.elim
  obtain ⟨b, ls, n, hD, hp, h1, h2⟩ := h
  rename_i a d
  simp [c_Disk_drop, startD, sp_check_within, hp, hD.1, hD.2]
  refine .mk (fun e => ?_) (fun e => xW.of (h2 e))
  obtain ⟨i, rfl, h0, hi⟩ := inB_true e
  obtain ⟨i, rfl⟩ := Int.eq_ofNat_of_zero_le h0
  simp [hD.1, hD.2]
  intro c hc
  have hne := ne_of_free hD.1 hc
  simp [ug_ne hne, hD.1, cut_map, cut_to (i := (i : Int)) (by omega)]
  have h3 := h1 i rfl (by omega) c hc
  refine rWc2 h3 rfl ?_
  have e4 : ((min n i : Nat) : Int) = if (i : Int) < n then (i : Int) else n := by split <;> omega
  rw [e4]
  simp
/-! cut -/
def natD : D → Nat
  | .int i => i.toNat
  | _ => 0
def cutB (d : D) (ws : List (List Nat)) : Bool := match d with
  | .tup xs => decide (xs.length = ws.length) && (xs.zip ws).all fun q => inB q.1 0 q.2.length
  | _ => false
def cutR (d : D) (ws : List (List Nat)) : List (List Nat) := match d with
  | .tup xs => (xs.zip ws).map fun q => q.2.take (natD q.1)
  | _ => []
def CutOk (d : D) : Prop := pl d ∧ ∀ xs, d = .tup xs → xs.length ≤ 1000000 ∧ ∀ x ∈ xs, pl x
def LsOk (ls : List (List Nat)) : Prop := ls.length ≤ 1000000 ∧ ∀ s ∈ ls, s.length ≤ 16777216
def sp_Disk_cut : SpD := fun ds G k => match ds with
  | [.adr a, d] => ∃ b ls n, DkD G a b ls n ∧ CutOk d ∧ LsOk ls ∧
      Bf (cutB d (ls.drop n)) (∀ c, G c = none → k.ok .non (ug (ug G c (.lst ((ls.take n ++ cutR d (ls.drop n)).map D.str))) a (dk0 c (ls.take n ++ cutR d (ls.drop n)).length))) (k.ex ⟨"NoCut", []⟩ G)
  | _ => False
theorem zip_item {xs : List D} {ws : List (List Nat)} {i : Nat} {d : D} (h : (zipD xs (ws.map D.str))[i]? = some d) : ∃ x w, d = .tup [x, .str w] ∧ (x, w) ∈ xs.zip ws := by
  obtain ⟨u, v, h1, h2, rfl⟩ := zipD_get h
  rw [List.getElem?_map] at h2
  cases q : ws[i]? with
  | none => rw [q] at h2; cases h2
  | some w =>
    rw [q] at h2
    cases h2
    refine ⟨u, w, rfl, ?_⟩
    exact List.mem_of_getElem? (List.getElem?_zip_eq_some.mpr ⟨h1, q⟩)
def fpr {α : Type} (f : D → List Nat → α) (z : α) : D → α
  | .tup [x, .str w] => f x w
  | _ => z
theorem zip_map {α : Type} {xs : List D} {ws : List (List Nat)} {f : D → List Nat → α} {z : α} : (zipD xs (ws.map D.str)).map (fpr f z) = (xs.zip ws).map fun q => f q.1 q.2 := by
  unfold zipD
  rw [List.map_map, List.zip_map_right, List.map_map]
  rfl
theorem mem_zip_l {α β : Type} {xs : List α} {ys : List β} {a : α} {b : β} (h : (a, b) ∈ xs.zip ys) : a ∈ xs ∧ b ∈ ys := ⟨(List.of_mem_zip h).1, (List.of_mem_zip h).2⟩
theorem k_Disk_cut : Keeps 5 (c_Disk_cut sp_is_sized sp_is_within) sp_Disk_cut := by
  intro ds G k h
  unfold sp_Disk_cut at h
  split at h
  case h_2 => exact h.elim
  obtain ⟨b, ls, n, hD, ⟨hp, hx⟩, ⟨hl, hs⟩, h⟩ := h
  rename_i a d
  have hc : cutL (ls.map D.str) (some (n : Int)) none = (ls.drop n).map D.str := by
    rw [cut_map, cut_from (by omega)]; rfl
  have hc2 : cutL (ls.map D.str) none (some (n : Int)) = (ls.take n).map D.str := by
    rw [cut_map, cut_to (by omega)]; rfl
  simp [c_Disk_cut, startD, hD.1, hD.2, hc, hc2, sp_is_sized, hp]
  have hlen : (ls.drop n).length = ls.length - n := List.length_drop
  refine .mk (fun e => ?_) (fun e => ?_)
  · cases d <;> try (cases e; done)
    rename_i xs
    obtain ⟨hx1, hx2⟩ := hx xs rfl
    have e' : (decide (((ls.length - n : Nat) : Int) ≤ xs.length) && decide ((xs.length : Int) ≤ ((ls.length - n : Nat) : Int))) = true := e
    simp at e'
    have hxl : xs.length = (ls.drop n).length := by omega
    simp
    refine lc_map (fpr (fun x w => .bl (inB x 0 w.length)) .non) (by simp [zipD_len]; omega) (fun _ _ _ => trivial) ?_ ?_
    · intro i d p acc Y Z hd hp hY
      rw [← List.map_drop] at hd
      obtain ⟨x, w, rfl, hm⟩ := zip_item hd
      obtain ⟨m1, m2⟩ := mem_zip_l hm
      simp [sp_is_within, hx2 x m1]
      exact ⟨hs w (List.mem_of_mem_drop m2), hY⟩
    · rw [← List.map_drop, zip_map]
      refine ⟨(xs.zip (ls.drop n)).map fun q => inB q.1 0 q.2.length, by simp, ?_⟩
      have ec : cutB (.tup xs) (ls.drop n) = ((xs.zip (ls.drop n)).map fun q => inB q.1 0 q.2.length).all id := by
        simp [cutB, hxl]
      refine .mk (fun e2 => ?_) (fun e2 => xW.of (h.2 (by rw [ec, e2])))
      have hk := h.1 (by rw [ec, e2])
      simp [hD.1, hD.2, hc2]
      refine lc_map (fpr (fun x w => .str (w.take (natD x))) .non) (by simp [zipD_len]; omega) (fun _ _ _ => trivial) ?_ ?_
      · intro i d p acc Y Z hd hp hY
        rw [← List.map_drop] at hd
        obtain ⟨x, w, rfl, hm⟩ := zip_item hd
        obtain ⟨m1, m2⟩ := mem_zip_l hm
        have hin : inB x 0 w.length = true := by
          rw [List.all_map] at e2
          exact List.all_eq_true.mp e2 _ hm
        obtain ⟨j, rfl, h0, hj⟩ := inB_true hin
        simp
        refine ⟨hs w (List.mem_of_mem_drop m2), ?_⟩
        rw [cut_to h0]
        exact hY
      · rw [← List.map_drop, zip_map]
        simp
        refine ⟨by omega, fun p hp => ?_⟩
        have hne := ne_of_free hD.1 hp
        refine ⟨_, (ug_ne hne).trans hD.1, by simp, ?_⟩
        have hk2 := hk p hp
        simp [hD.1] at hk2 ⊢
        refine ⟨_, (ug_ne hne.symm).trans ug_same, ?_⟩
        refine rWc2 hk2 rfl ?_
        simp [cutR, Function.comp_def]
  · refine xW.of (h.2 ?_)
    cases d <;> try rfl
    rename_i xs
    have e' : (decide (((ls.length - n : Nat) : Int) ≤ xs.length) && decide ((xs.length : Int) ≤ ((ls.length - n : Nat) : Int))) = false := e
    have : ¬ xs.length = (ls.drop n).length := fun q => by
      rw [q, hlen] at e'; simp at e'
    simp [cutB] 
    intro q; omega
/-! copy -/
def sp_Disk_copy : SpD := fun ds G k => match ds with
  | [.adr a] => ∃ b ls n, DkD G a b ls n ∧ ∀ c d, G c = none → G d = none → c ≠ d → k.ok (.adr c) (ug (ug G d (.lst (ls.map D.str))) c (dk0 d n))
  | _ => False
theorem k_Disk_copy : Keeps 2 (c_Disk_copy sp_Disk_init) sp_Disk_copy := by
  intro ds G k h
  unfold sp_Disk_copy at h
  split at h
  case h_2 => exact h.elim
  obtain ⟨b, ls, n, hD, h⟩ := h
  rename_i a
  simp [c_Disk_copy, startD, sp_Disk_init]
  intro c hc e he
  have nec : e ≠ c := fun z => by subst z; rw [ug_same] at he; cases he
  have he' : G e = none := by rwa [ug_ne nec] at he
  have nca : a ≠ c := ne_of_free hD.1 hc
  have ncb : b ≠ c := ne_of_free hD.2 hc
  have nea : a ≠ e := ne_of_free hD.1 he'
  have neb : b ≠ e := ne_of_free hD.2 he'
  simp [ug_ne nca, ug_ne nea, hD.1, ug_ne ncb, ug_ne neb, hD.2]
  intro q hq
  have hq1 : q ≠ c := fun z => by subst z; simp at hq
  have hq2 : q ≠ e := fun z => by subst z; rw [ug_ne nec, ug_same] at hq; cases hq
  have hq' : G q = none := by rwa [ug_ne hq1, ug_ne hq2, ug_ne hq1] at hq
  have nqa : a ≠ q := ne_of_free hD.1 hq'
  simp [ug_ne (Ne.symm hq1), ug_ne nca, ug_ne nea, ug_ne nqa, hD.1]
  refine rWs (h c q hc hq' (Ne.symm hq1)) rfl ?_
  intro x o hx
  by_cases x1 : x = c
  · subst x1; simpa using hx
  · by_cases x2 : x = q
    · subst x2; rw [ug_ne x1, ug_same] at hx; rw [ug_ne x1, ug_same]; exact hx
    · rw [ug_ne x1, ug_ne x2] at hx
      have x3 := ne_of_free hx he'
      simp [ug_ne x1, ug_ne x2, ug_ne x3, hx]
/-! records -/
def recd (s : List Nat) : List Nat := TL.numL s.length ++ [58] ++ s
def sp_raw_record : SpD := fun ds G k => match ds with
  | [.str s] => s.length ≤ 1000000 ∧ k.ok (.str (recd s)) G
  | _ => False
theorem numL_short {n : Nat} (h : n ≤ 1000000) : (TL.numL n).length ≤ 7 := TL.numL_len (by decide) (by omega)
theorem k_raw_record : Keeps 1 c_raw_record sp_raw_record := by
  intro ds G k h
  unfold sp_raw_record at h
  split at h
  case h_2 => exact h.elim
  obtain ⟨hl, h⟩ := h
  rename_i s
  simp [c_raw_record, startD]
  have h7 := numL_short hl
  refine ⟨by omega, x_strC_i (by omega) ?_⟩
  simp [s_2]
  refine ⟨by omega, by omega, rWc h ?_⟩
  simp [recd]
def sp_record : SpD := fun ds G k => match ds with
  | [.str s] => s.length ≤ 1000000 ∧ sgL s = true ∧ k.ok (.str (recd s)) G
  | _ => False
theorem k_record : Keeps 1 (c_record sp_check_line sp_raw_record) sp_record := by
  intro ds G k h
  unfold sp_record at h
  split at h
  case h_2 => exact h.elim
  obtain ⟨hl, hs, h⟩ := h
  rename_i s
  simp [c_record, startD, sp_check_line, sp_raw_record, pls_str (show s.length ≤ 16777216 by omega), sgB, hs]
  exact ⟨hl, rW.of h⟩
/-- a word of figures without needless zeros -/
def canB (w : List Nat) : Bool := !w.isEmpty && w.all (fun c => decide (48 ≤ c) && decide (c ≤ 57)) && !(decide (w[0]? = some 48) && decide (1 < w.length))
def digB : D → Bool
  | .str [c] => decide (48 ≤ c) && decide (c ≤ 57)
  | _ => false
def numW (w : List Nat) : D := if canB w && decide (w.length < 20) then .int (NumText.digitsVal w : Nat) else .non
def sp_number_of_word : SpD := fun ds G k => match ds with
  | [.str w] => w.length ≤ 1000000 ∧ k.ok (numW w) G
  | _ => False
theorem k_number_of_word : Keeps 2 c_number_of_word sp_number_of_word := by
  intro ds G k h
  unfold sp_number_of_word at h
  split at h
  case h_2 => exact h.elim
  obtain ⟨hl, h⟩ := h
  rename_i w
  simp [c_number_of_word, startD]
  have e3 : s_3 = [] := rfl
  refine .dec (fun e => ?_) (fun e => ?_)
  · rw [e3] at e
    exact rWc h (by simp [numW, canB, e])
  · rw [e3] at e
    obtain ⟨c, r, rfl⟩ : ∃ c r, w = c :: r := by
      cases w with
      | nil => exact absurd rfl e
      | cons c r => exact ⟨c, r, rfl⟩
    refine lc_map (fun d => .bl (digB d)) (by simp at hl ⊢; omega) (fun _ _ _ => trivial) ?_ ?_
    · intro i d p acc Y Z hd hp hY
      simp at hd
      rw [← List.map_cons (f := fun c => D.str [c]), List.getElem?_map] at hd
      cases q : (c :: r)[i]? with
      | none => rw [q] at hd; cases hd
      | some u =>
        rw [q] at hd
        cases hd
        simp
        refine cst1 hY ?_
        congr 1
        simp [digB, s_4]
        by_cases h1 : 48 ≤ u <;> by_cases h2 : u ≤ 57 <;> simp [h1, h2] <;> omega
    · refine ⟨(c :: r).map fun c => digB (.str [c]), by simp, ?_⟩
      have ea : ((c :: r).map fun c => digB (.str [c])).all id = (c :: r).all (fun c => decide (48 ≤ c) && decide (c ≤ 57)) := by
        rw [List.all_map]; rfl
      rw [ea]
      refine .mk (fun e1 => ?_) (fun e1 => rWc h (by simp only [numW, canB, e1]; simp))
      have hl' : r.length ≤ 16777215 := by simp at hl; omega
      have hd : (48 ≤ c ∧ c ≤ 57) ∧ ∀ (a : Nat), a ∈ r → 48 ≤ a ∧ a ≤ 57 := by simpa using e1
      have fin : ¬ (c = 48 ∧ r ≠ []) → Bf (decide ((r.length : Int) + 1 < 20)) (r.length ≤ 639 ∧ ((48 ≤ c ∧ c ≤ 57) ∧ ∀ (a : Nat), a ∈ r → 48 ≤ a ∧ a ≤ 57) ∧ rW k (.int (NumText.digitsVal (c :: r) : Nat)) G) (rW k .non G) := by
        intro hz
        have hcan : canB (c :: r) = true := by
          simp only [canB, e1]
          simp
          by_cases h0 : c = 48
          · exact Or.inr (Classical.byContradiction fun q => hz ⟨h0, q⟩)
          · exact Or.inl h0
        refine .dec (fun h2 => ⟨by omega, hd, rWc h ?_⟩) (fun h2 => rWc h ?_)
        · have : r.length + 1 < 20 := by omega
          simp [numW, hcan, this]
        · have : ¬ r.length + 1 < 20 := by omega
          simp [numW, this]
      simp
      have e5 : s_5 = [48] := rfl
      rw [e5]
      refine ⟨hl', .dec (fun h0 => ⟨hl', .dec (fun h1 => ?_) (fun h1 => ⟨hl', fin ?_⟩)⟩) (fun h0 => ⟨hl', fin ?_⟩)⟩
      · refine rWc h ?_
        have hr : 0 < r.length := by omega
        have hn : canB (c :: r) = false := by
          simp only [List.cons.injEq, and_true] at h0
          subst h0
          simp [canB]
          intro _
          exact hr
        simp [numW, hn]
      · rintro ⟨_, q⟩
        exact q (List.length_eq_zero_iff.mp (by omega))
      · rintro ⟨q, _⟩
        exact h0 (by rw [q])
theorem chr_nat : ∀ d : Nat, d < 10 → (Char.ofNat (48 + d)).toNat = 48 + d := by decide
theorem num_head : ∀ (n : Nat), 1 ≤ n → (TL.numL n)[0]? ≠ some 48 := by
  intro n
  induction n using Nat.strongRecOn with
  | _ n ih =>
    intro h1
    by_cases h : n < 10
    · rw [TL.numL_lt h]
      simp
      omega
    · rw [TL.numL_step (by omega)]
      have := ih (n / 10) (by omega) (by omega)
      cases q : TL.numL (n / 10) with
      | nil => exact absurd q (TL.numL_ne _)
      | cons c r => rw [q] at this; simpa using this
theorem canB_num (n : Nat) : canB (TL.numL n) = true := by
  have hd := TL.numL_digits n
  have hne := TL.numL_ne n
  have e1 : (TL.numL n).all (fun c => decide (48 ≤ c) && decide (c ≤ 57)) = true := by
    rw [List.all_eq_true]
    intro c hc
    have := hd c hc
    simp [this]
  unfold canB
  rw [e1]
  simp
  refine ⟨hne, ?_⟩
  by_cases h1 : 1 ≤ n
  · exact Or.inl (num_head n h1)
  · have : n = 0 := by omega
    subst this
    rw [TL.numL_lt (by decide)]
    simp
theorem num_can {w : List Nat} (h : canB w = true) : TL.numL (NumText.digitsVal w) = w := by
  unfold canB at h
  simp at h
  obtain ⟨⟨hne, hd⟩, h0⟩ := h
  have hD : NumText.AllDigits w := hd
  obtain ⟨c, r, rfl⟩ : ∃ c r, w = c :: r := by
    cases w with
    | nil => exact absurd rfl hne
    | cons c r => exact ⟨c, r, rfl⟩
  have hc := hd c List.mem_cons_self
  unfold TL.numL
  rw [NumText.toDigits_digitsVal r.length (c :: r) rfl hD]
  · rw [List.map_map]
    have : ∀ l : List Nat, (∀ x ∈ l, 48 ≤ x ∧ x ≤ 57) → l.map (Char.toNat ∘ Char.ofNat) = l := by
      intro l
      induction l with
      | nil => intro _; rfl
      | cons x l ih =>
        intro hx
        have hx1 := hx x List.mem_cons_self
        have e := chr_nat (x - 48) (by omega)
        rw [show 48 + (x - 48) = x by omega] at e
        rw [List.map_cons, ih fun y hy => hx y (List.mem_cons_of_mem _ hy)]
        show (Char.ofNat x).toNat :: l = x :: l
        rw [e]
    exact this _ hd
  · by_cases q : c = 48
    · left
      simpa [q] using h0
    · right
      exact ⟨c, r, rfl, by omega⟩
theorem ne_numW {w : List Nat} {m : Nat} {q : D → Gm → Prop} {G : Gm} (hm : m ≤ 1000000) : neD (numW w) (.int (m : Int)) q G = q (.bl (!decide (w = TL.numL m))) G := by
  unfold numW
  by_cases hc : (canB w && decide (w.length < 20)) = true
  · rw [if_pos hc]
    simp
    have hc1 : canB w = true := (Bool.and_eq_true_iff.mp hc).1
    have e : decide ((NumText.digitsVal w : Int) = (m : Int)) = decide (w = TL.numL m) := by
      apply decide_eq_decide.mpr
      constructor
      · intro h
        have h' : NumText.digitsVal w = m := by omega
        rw [← h', num_can hc1]
      · intro h
        rw [h, TL.numL_val]
    rw [e]
  · rw [if_neg hc]
    have hn : ¬ w = TL.numL m := by
      intro h
      apply hc
      rw [h, canB_num]
      have := numL_short hm
      simp; omega
    simp [neD, dok, deq, hn]
theorem find_rng (t : List Nat) : ∀ (s : List Nat) (i : Nat), findAt t s i = -1 ∨ ((i : Int) ≤ findAt t s i ∧ findAt t s i < i + s.length)
  | [], _ => Or.inl rfl
  | c :: r, i => by
    unfold findAt
    split
    · right; simp; omega
    · rcases find_rng t r (i + 1) with h | ⟨h1, h2⟩
      · exact Or.inl h
      · right; simp at *; omega
/-- the contents of a record -/
def conts (s : List Nat) : Option (List Nat) :=
  let f := findAt [58] s 0
  if f < 0 then none else if s.take f.toNat = TL.numL (s.length - f.toNat - 1) then some (s.drop (f.toNat + 1)) else none
def optS : Option (List Nat) → D
  | none => .non
  | some s => .str s
def sp_raw_contents : SpD := fun ds G k => match ds with
  | [.str s] => s.length ≤ 1000000 ∧ k.ok (optS (conts s)) G
  | _ => False
theorem k_raw_contents : Keeps 2 (c_raw_contents sp_number_of_word) sp_raw_contents := by
  intro ds G k h
  unfold sp_raw_contents at h
  split at h
  case h_2 => exact h.elim
  obtain ⟨hl, h⟩ := h
  rename_i s
  have e2 : s_2 = [58] := rfl
  simp [c_raw_contents, startD, e2]
  have hc : conts s = (if findAt [58] s 0 < 0 then none else if s.take (findAt [58] s 0).toNat = TL.numL (s.length - (findAt [58] s 0).toNat - 1) then some (s.drop ((findAt [58] s 0).toNat + 1)) else none) := rfl
  refine .dec (fun e => rWc h (by rw [hc, if_pos e]; rfl)) (fun e => ?_)
  have hr : 0 ≤ findAt [58] s 0 ∧ findAt [58] s 0 < s.length := by
    rcases find_rng [58] s 0 with q | q
    · omega
    · simpa using q
  generalize findAt [58] s 0 = f at *
  obtain ⟨f, rfl⟩ := Int.eq_ofNat_of_zero_le hr.1
  have hf : f < s.length := by omega
  have em : ((s.length : Int) - (f : Int) - 1) = ((s.length - f - 1 : Nat) : Int) := by omega
  simp [sp_number_of_word, em, cut_to (i := (f : Int)) (by omega)]
  rw [if_neg e] at hc
  simp at hc
  refine ⟨by omega, by omega, by omega, ?_⟩
  rw [ne_numW (by omega)]
  simp
  refine .dec (fun e1 => ⟨by omega, ?_⟩) (fun e1 => ?_)
  · rw [cut_from (by omega)]
    refine rWc h ?_
    rw [hc, if_pos e1]
    have : ((f : Int) + 1).toNat = f + 1 := by omega
    rw [this]; rfl
  · refine rWc h ?_
    rw [hc, if_neg e1]; rfl
def sp_read_record : SpD := fun ds G k => match ds with
  | [.str s] => s.length ≤ 1000000 ∧ sgL s = true ∧ k.ok (optS (conts s)) G
  | _ => False
theorem k_read_record : Keeps 1 (c_read_record sp_check_line sp_raw_contents) sp_read_record := by
  intro ds G k h
  unfold sp_read_record at h
  split at h
  case h_2 => exact h.elim
  obtain ⟨hl, hs, h⟩ := h
  rename_i s
  simp [c_read_record, startD, sp_check_line, sp_raw_contents, pls_str (show s.length ≤ 16777216 by omega), sgB, hs]
  exact ⟨hl, rW.of h⟩
end Kx
set_option maxHeartbeats 4000000
/-! k50, the plain part: the law's defs. -/
namespace Kx
open PySem PySem.Spec PyProof.Rows L2 Dl
/-! ### the hand -/
def Hand (h : List D) : Prop := ∃ (cs : List Int) (i b s n : Int), h = [.lst (cs.map D.int), .int i, .int b, .int s, .int n] ∧ 0 ≤ i
def sp__law_hand : SpD := fun ds G k => match ds with
  | [.seq xs] => ∃ ns : List Int, xs = ns.map D.int ∧ ns.length ≤ 63 ∧ ∀ p h, G p = none → Hand h → k.ok (.adr p) (ug G p (.lst h))
  | _ => False
theorem k__law_hand : Keeps 2 c__law_hand sp__law_hand := by
  intro ds G k h
  unfold sp__law_hand at h
  split at h
  case h_2 => exact h.elim
  obtain ⟨ns, rfl, hl, h⟩ := h
  simp [c__law_hand, startD, cut_map, cut_to (i := (63 : Int)) (by omega)]
  refine lc_map (fun d => d) (by simp; omega) (fun _ _ _ => trivial) ?_ ?_
  · intro i d p acc Y Z hd hp hY
    obtain ⟨n, hn, rfl⟩ := List.mem_map.mp (List.mem_of_mem_take (List.mem_of_getElem? hd))
    simpa using hY
  · simp
    intro p hp
    refine rW.of (h p _ hp ⟨ns.take 63, 0, 0, 1 + (min 63 ns.length : Nat), 0, ?_, by omega⟩)
    simp [Function.comp_def, List.map_take]
/-- a draw: some number below the bound -/
def sp__law_draw : SpD := fun ds G k => match ds with
  | [.adr a, .int m] => ∃ h, G a = some (.lst h) ∧ Hand h ∧ 0 < m ∧ m < 1073741824 ∧ ∀ (r : Nat) h', (r : Int) < m → Hand h' → k.ok (.int r) (ug G a (.lst h'))
  | _ => False
theorem k__law_draw : Keeps 5 c__law_draw sp__law_draw := by
  intro ds G k h
  unfold sp__law_draw at h
  split at h
  case h_2 => exact h.elim
  obtain ⟨hh, hG, hH, hm0, hm, h⟩ := h
  rename_i a m
  unfold c__law_draw
  refine seq_gen (fun env1 G1 => ∃ h' x, Hand h' ∧ env1 = [some (.adr a), some (.int m), x, none, none] ∧ G1 = ug G a (.lst h')) ?_ ?_
  · rintro env1 G1 ⟨h', x, ⟨cs, i, b, s, n, rfl, hi⟩, rfl, rfl⟩
    simp
    refine .dec (fun hb => ?_) (fun hb => ?_)
    · refine ⟨by omega, ⟨hm0, hm⟩, ?_⟩
      have := Int.fmod_eq_emod_of_nonneg b (show 0 ≤ m by omega)
      have h0 := Int.emod_nonneg b (show m ≠ 0 by omega)
      have h1 := Int.emod_lt_of_pos b hm0
      obtain ⟨r, hr⟩ := Int.eq_ofNat_of_zero_le h0
      refine rWc2 (h r _ (by omega) ⟨cs, i, b / m, s, n, rfl, hi⟩) ?_ rfl
      rw [this, hr]
    · have e1 : ∀ x : Int, x.fmod 2147483647 = x % 2147483647 := fun x => Int.fmod_eq_emod_of_nonneg x (by omega)
      have e2 : ∀ x : Int, x.fmod 2147483399 = x % 2147483399 := fun x => Int.fmod_eq_emod_of_nonneg x (by omega)
      have e3 : ∀ x : Int, x.fmod m = x % m := fun x => Int.fmod_eq_emod_of_nonneg x (by omega)
      simp [e1, e2, e3]
      have fin : ∀ z : Int, rW k (.int (z % m)) (ug G a (.lst [.lst (cs.map D.int), .int i, .int b, .int s, .int (n + 1)])) := by
        intro z
        have h0 := Int.emod_nonneg z (show m ≠ 0 by omega)
        have h1 := Int.emod_lt_of_pos z hm0
        obtain ⟨r, hr⟩ := Int.eq_ofNat_of_zero_le h0
        refine rWc2 (h r _ (by omega) ⟨cs, i, b, s, n + 1, rfl, hi⟩) ?_ rfl
        rw [hr]
      exact ⟨Or.inl ⟨by omega, by omega⟩, Or.inl ⟨by omega, by omega⟩, by omega, fin _⟩
  · intro c2 hc
    obtain ⟨cs, i, b, s, n, rfl, hi⟩ := hH
    simp [startD, hG]
    have stay : c2 (enOf k) [some (D.adr a), some (D.int m), none, none, none] G := hc _ _ ⟨_, none, ⟨cs, i, b, s, n, rfl, hi⟩, rfl, (ug_self hG).symm⟩
    refine .dec (fun hb => .dec (fun h1 => ?_) fun _ => stay) fun _ => stay
    obtain ⟨i, rfl⟩ := Int.eq_ofNat_of_zero_le hi
    have hlt : i < cs.length := by omega
    refine ⟨.int cs[i], by simp [List.getElem?_eq_getElem hlt], ?_⟩
    simp
    refine ⟨⟨by decide, by decide, by decide⟩, .mk (fun _ => hc _ _ ?_) fun _ => hc _ _ ?_⟩
    · exact ⟨_, _, ⟨cs, (i : Int) + 1, cs[i], _, n, rfl, by omega⟩, rfl, rfl⟩
    · exact ⟨_, _, ⟨cs, (i : Int) + 1, b, _, n, rfl, by omega⟩, rfl, rfl⟩
/-! ### equal in kind -/
mutual
def isok : Nat → D → Bool
  | _, .non => true
  | _, .bl _ => true
  | _, .int _ => true
  | _, .str s => true
  | n + 1, .tup xs => decide (xs.length ≤ 16777216) && isokL n xs
  | n + 1, .lst xs => decide (xs.length ≤ 16777216) && isokL n xs
  | _, _ => false
def isokL : Nat → List D → Bool
  | _, [] => true
  | n, x :: xs => isok n x && isokL n xs
end
theorem isokL_mem {n : Nat} : ∀ {xs : List D}, isokL n xs = true → ∀ x ∈ xs, isok n x = true
  | [], _, x, hx => by simp at hx
  | y :: ys, h, x, hx => by
    rw [isokL] at h
    have h' := Bool.and_eq_true_iff.mp h
    rcases List.mem_cons.mp hx with e | e
    · rw [e]; exact h'.1
    · exact isokL_mem h'.2 x e
/-- two equal ones -/
def sp__law_is (n : Nat) : SpD := fun ds G k => match ds with
  | [x, y] => x = y ∧ isok n x = true ∧ k.ok (.bl true) G
  | _ => False
theorem zip_same {xs : List D} {i : Nat} {d : D} (h : (zipD xs xs)[i]? = some d) : ∃ x, d = .tup [x, x] ∧ x ∈ xs := by
  obtain ⟨u, v, h1, h2, rfl⟩ := zipD_get h
  rw [h1] at h2
  cases h2
  exact ⟨u, rfl, List.mem_of_getElem? h1⟩
theorem k__law_is_leaf {sp : SpD} {d : D} {G : Gm} {k : Kn D} (hd : d = .non ∨ (∃ b, d = .bl b) ∨ (∃ i, d = .int i) ∨ ∃ s, d = .str s) (h : k.ok (.bl true) G) : c__law_is sp (enOf k) (startD 4 [d, d]) G := by
  rcases hd with rfl | ⟨b, rfl⟩ | ⟨b, rfl⟩ | ⟨b, rfl⟩ <;> simp [c__law_is, startD, subT]
  · simp [eqD, dok, deq]; exact rW.of h
  · exact rW.of h
  · exact rW.of h
  · exact rW.of h
theorem k__law_is0 : Keeps 4 (c__law_is sp0) (sp__law_is 0) := by
  intro ds G k h
  unfold sp__law_is at h
  split at h
  case h_2 => exact h.elim
  obtain ⟨rfl, hk, h⟩ := h
  rename_i d
  refine k__law_is_leaf ?_ h
  cases d <;> simp [isok] at hk ⊢
theorem k__law_is {n : Nat} : Keeps 4 (c__law_is (sp__law_is n)) (sp__law_is (n + 1)) := by
  intro ds G k h
  unfold sp__law_is at h
  split at h
  case h_2 => exact h.elim
  obtain ⟨rfl, hk, h⟩ := h
  rename_i d
  have seq : ∀ xs : List D, xs.length ≤ 16777216 → isokL n xs = true → LC false ⟨zipD xs xs, fun _ => True⟩ (gTupD 2 (gConsD (gNm 2) (gConsD (gNm 3) gNilD))) cYes (cCall (sp__law_is n) (cCons (cVar 2) (cCons (cVar 3) cNil))) [2, 3]
      (fun x G1 => ∃ bs : List Bool, lstOf x G1 = some (bs.map D.bl) ∧ rW k (.bl (bs.all id)) G1) [some d, some d, none, none] G := by
    intro xs hl hx
    refine lc_map (fun _ => .bl true) (by simp [zipD_len]; omega) (fun _ _ _ => trivial) ?_ ?_
    · intro i d p acc Y Z hd hp hY
      obtain ⟨x, rfl, hm⟩ := zip_same hd
      simp [sp__law_is]
      exact ⟨isokL_mem hx x hm, hY⟩
    · refine ⟨List.replicate (zipD xs xs).length true, by simp [List.map_const'], rWc h ?_⟩
      simp
  cases d with
  | tup xs =>
    simp [isok] at hk
    simp [c__law_is, startD, subT]
    exact seq xs hk.1 hk.2
  | lst xs =>
    simp [isok] at hk
    simp [c__law_is, startD, subT]
    exact seq xs hk.1 hk.2
  | non => exact k__law_is_leaf (.inl rfl) h
  | bl b => exact k__law_is_leaf (.inr (.inl ⟨b, rfl⟩)) h
  | int b => exact k__law_is_leaf (.inr (.inr (.inl ⟨b, rfl⟩))) h
  | str b => exact k__law_is_leaf (.inr (.inr (.inr ⟨b, rfl⟩))) h
  | _ => simp [isok] at hk
end Kx
set_option maxHeartbeats 4000000
/-! k50, the plain part: drawn signs, texts, lines. -/
namespace Kx
open PySem PySem.Spec PyProof.Rows L2 Dl
theorem dg_two {G : Gm} {p a : Addr} {o u : MO} (h : G p = none) (hne : p ≠ a) : dg (ug (ug G p o) a u) p = ug G a u := by
  rw [ug_comm hne, dg_ug]
  rw [ug_ne hne]; exact h
/-- a comprehension whose elements draw -/
theorem lc_hand {it : DI} {g : CG} {t : CT} {ce : CE} {J : List Nat} {env : Dl.Env} {G : Gm} {k : D → Gm → Prop} {a : Addr} {h : List D} (Py : D → Prop) (hz : it.items.length ≤ 16777216) (hk : ∀ G', it.keep G') (hG : G a = some (.lst h)) (hH : Hand h)
    (hs : ∀ (i : Nat) d p acc h' (Y : D → Gm → Prop) (Z : Gm → Prop), it.items[i]? = some d → Hand h' → p ≠ a → G p = none → (∀ y h'', Py y → Hand h'' → Y y (ug (ug G p (.lst acc)) a (.lst h''))) → LT g t ce J env d Y Z (ug (ug G p (.lst acc)) a (.lst h')))
    (hq : ∀ ys h', (∀ y ∈ ys, Py y) → ys.length = it.items.length → Hand h' → k (.lst ys) (ug G a (.lst h'))) : LC false it g t ce J k env G := by
  refine lc_any hz (fun i acc p G' => G p = none ∧ acc.length = i ∧ (∀ y ∈ acc, Py y) ∧ ∃ h', Hand h' ∧ G' = ug (ug G p (.lst acc)) a (.lst h')) ?_ ?_ ?_ ?_
  · intro p hp
    have hne : p ≠ a := (ne_of_free hG hp).symm
    exact ⟨hp, rfl, by simp, h, hH, (ug_self (by rw [ug_ne (Ne.symm hne)]; exact hG)).symm⟩
  · rintro i acc p G' _ ⟨_, e, _⟩
    exact ⟨hk _, by omega⟩
  · rintro i d acc p G' hd ⟨hp, e, hy, h', hH', rfl⟩
    have hne : p ≠ a := (ne_of_free hG hp).symm
    refine hs i d p acc h' _ _ hd hH' hne hp fun y h'' hy' hH'' => ⟨?_, hp, by simp; omega, ?_, h'', hH'', ?_⟩
    · rw [ug_ne hne, ug_same]
    · intro z hz
      rcases List.mem_append.mp hz with q | q
      · exact hy z q
      · rw [List.mem_singleton.mp q]; exact hy'
    · rw [ug_comm (Ne.symm hne), x_ug2]
  · rintro acc p G' ⟨hp, e, hy, h', hH', rfl⟩
    have hne : p ≠ a := (ne_of_free hG hp).symm
    refine ⟨by rw [ug_ne hne, ug_same], ?_⟩
    rw [dg_two hp hne]
    exact hq acc h' hy e hH'
def sgC (c : Nat) : Prop := 32 ≤ c ∧ c ≤ 126
theorem sgL_iff {s : List Nat} : sgL s = true ↔ ∀ c ∈ s, sgC c := by
  unfold sgL sgC
  simp
/-- what a draw of a sign tells -/
def isSg (y : D) : Prop := ∃ c, y = .str [c] ∧ sgC c
theorem sgs_of : ∀ {ys : List D}, (∀ y ∈ ys, isSg y) → ∃ s : List Nat, ys = (s.map fun c => [c]).map D.str ∧ sgL s = true ∧ s.length = ys.length
  | [], _ => ⟨[], rfl, rfl, rfl⟩
  | y :: ys, h => by
    obtain ⟨c, rfl, hc⟩ := h y List.mem_cons_self
    obtain ⟨s, e, h1, h2⟩ := sgs_of fun z hz => h z (List.mem_cons_of_mem _ hz)
    refine ⟨c :: s, by rw [e]; rfl, ?_, by simp [h2]⟩
    rw [sgL_iff] at h1 ⊢
    intro d hd
    rcases List.mem_cons.mp hd with q | q
    · rw [q]; exact hc
    · exact h1 d q
theorem join_one : ∀ s : List Nat, TL.joinL [] (s.map fun c => [c]) = s := by
  intro s
  induction s with
  | nil => rfl
  | cons c s ih =>
    cases s with
    | nil => rfl
    | cons d s =>
      show [c] ++ [] ++ TL.joinL [] ((d :: s).map fun c => [c]) = _
      rw [ih]; rfl
theorem sum_one (s : List Nat) : ((s.map fun c => [c]).map (·.length)).sum = s.length := by
  induction s with
  | nil => rfl
  | cons c s ih => rw [List.map_cons, List.map_cons, List.sum_cons, ih, List.length_cons]; simp; omega
/-- a drawn sign -/
def sp__law_any_sign : SpD := fun ds G k => match ds with
  | [.adr a] => ∃ h, G a = some (.lst h) ∧ Hand h ∧ ∀ y h', isSg y → Hand h' → k.ok y (ug G a (.lst h'))
  | _ => False
theorem k__law_any_sign : Keeps 2 (c__law_any_sign sp__law_draw) sp__law_any_sign := by
  intro ds G k h
  unfold sp__law_any_sign at h
  split at h
  case h_2 => exact h.elim
  obtain ⟨hh, hG, hH, h⟩ := h
  have hl : 0 < s_6.length ∧ s_6.length ≤ 100 ∧ s_7.length ≤ 100 := by decide +kernel
  have hs : sgL (s_6 ++ s_7) = true := by decide +kernel
  simp [c__law_any_sign, startD, sp__law_draw]
  refine ⟨by omega, hh, hG, hH, by omega, by omega, fun r h' hr hH' => ⟨by omega, ?_⟩⟩
  have hr' : r < (s_6 ++ s_7).length := by rw [List.length_append]; omega
  exact ⟨_, List.getElem?_eq_getElem hr', rW.of (h _ h' ⟨_, rfl, sgL_iff.mp hs _ (List.getElem_mem hr')⟩ hH')⟩
def sp__law_sign : SpD := fun ds G k => match ds with
  | [.adr a, .int m] => ∃ h, G a = some (.lst h) ∧ Hand h ∧ 0 ≤ m ∧ m ≤ 4 ∧ ∀ y h', isSg y → Hand h' → k.ok y (ug G a (.lst h'))
  | _ => False
theorem k__law_sign : Keeps 3 (c__law_sign sp__law_any_sign sp__law_draw) sp__law_sign := by
  intro ds G k h
  unfold sp__law_sign at h
  split at h
  case h_2 => exact h.elim
  obtain ⟨hh, hG, hH, h0, h4, h⟩ := h
  rename_i a m
  simp [c__law_sign, startD, sp__law_draw, sp__law_any_sign]
  refine .dec (fun e => ⟨hh, hG, hH, fun y h' hy hH' => rW.of (h y h' hy hH')⟩) (fun e => ?_)
  have fin : ∀ s : List Nat, s ≠ [] → s.length ≤ 100 → sgL s = true → (s.length ≤ 16777216 ∧ ∃ x, G a = some (.lst x) ∧ Hand x ∧ 0 < s.length ∧ (s.length : Int) < 1073741824 ∧ ∀ (r : Nat) (h' : List D), r < s.length → Hand h' → s.length ≤ 16777216 ∧ ∃ c, s[r]? = some c ∧ rW k (.str [c]) (ug G a (.lst h'))) := by
    intro s hne hl hs
    have hp : 0 < s.length := by cases s with
      | nil => exact absurd rfl hne
      | cons _ _ => simp
    refine ⟨by omega, hh, hG, hH, hp, by omega, fun r h' hr hH' => ?_⟩
    exact ⟨by omega, _, List.getElem?_eq_getElem hr, rW.of (h _ h' ⟨_, rfl, sgL_iff.mp hs _ (List.getElem_mem hr)⟩ hH')⟩
  have hm : m = 0 ∨ m = 1 ∨ m = 2 ∨ m = 3 := by omega
  rcases hm with rfl | rfl | rfl | rfl <;> simp <;> exact fin _ (by decide) (by decide) (by decide +kernel)
/-- a drawn text of so many signs at most -/
def sp__law_text : SpD := fun ds G k => match ds with
  | [.adr a, .int m] => ∃ h, G a = some (.lst h) ∧ Hand h ∧ 0 ≤ m ∧ m ≤ 1000 ∧ ∀ s h', sgL s = true → (s.length : Int) ≤ m → Hand h' → k.ok (.str s) (ug G a (.lst h'))
  | _ => False
theorem sgL_app {s t : List Nat} (h : sgL s = true) (h' : sgL t = true) : sgL (s ++ t) = true := by
  rw [sgL_iff] at *
  intro c hc
  rcases List.mem_append.mp hc with q | q
  · exact h c q
  · exact h' c q
theorem sgL_take {s : List Nat} {n : Nat} (h : sgL s = true) : sgL (s.take n) = true := by
  rw [sgL_iff] at *
  exact fun c hc => h c (List.mem_of_mem_take hc)
theorem sgL_drop {s : List Nat} {n : Nat} (h : sgL s = true) : sgL (s.drop n) = true := by
  rw [sgL_iff] at *
  exact fun c hc => h c (List.mem_of_mem_drop hc)
theorem sgL_rep {s : List Nat} {n : Nat} (h : sgL s = true) : sgL (List.replicate n s).flatten = true := by
  rw [sgL_iff] at *
  intro c hc
  obtain ⟨t, ht, hc⟩ := List.mem_flatten.mp hc
  rw [(List.mem_replicate.mp ht).2] at hc
  exact h c hc
theorem rep_len {s : List Nat} {n : Nat} : (List.replicate n s).flatten.length = n * s.length := by
  rw [List.length_flatten, List.map_replicate, List.sum_replicate_nat]
/-- .. n drawn signs -/
theorem lc_sg {g : CG} {t : CT} {ce : CE} {J : List Nat} {env : Dl.Env} {G : Gm} {a : Addr} {h : List D} {n : Nat} {k : D → Gm → Prop} (hG : G a = some (.lst h)) (hH : Hand h) (hn : n ≤ 1000)
    (hs : ∀ (d : D) p acc h' (Y : D → Gm → Prop) (Z : Gm → Prop), Hand h' → p ≠ a → (∀ y h'', isSg y → Hand h'' → Y y (ug (ug G p (.lst acc)) a (.lst h''))) → LT g t ce J env d Y Z (ug (ug G p (.lst acc)) a (.lst h')))
    (hq : ∀ s h', sgL s = true → s.length = n → Hand h' → k (.lst ((s.map fun c => [c]).map D.str)) (ug G a (.lst h'))) : LC false ⟨rngD 0 n, fun _ => True⟩ g t ce J k env G := by
  refine lc_hand isSg (by simp [rngD_len]; omega) (fun _ => trivial) hG hH (fun i d p acc h' Y Z hd hH' hne hp hy => hs d p acc h' Y Z hH' hne hy) ?_
  intro ys h' hy hl hH'
  obtain ⟨s, rfl, h1, h2⟩ := sgs_of hy
  exact hq s h' h1 (by rw [h2, hl]; exact rngD_len 0 n) hH'
theorem join3 {s : List Nat} (hl : s.length ≤ 16777216) : ∃ ys : List (List Nat), ((s.map fun c => [c]).map D.str) = ys.map D.str ∧ (ys.map (·.length)).sum + ys.length * s_3.length ≤ 16777216 ∧ TL.joinL s_3 ys = s := by
  have e3 : s_3 = [] := rfl
  refine ⟨s.map fun c => [c], rfl, ?_, ?_⟩
  · rw [sum_one, e3]; simpa using hl
  · rw [e3, join_one]
theorem k__law_text : Keeps 8 (c__law_text sp__law_draw sp__law_sign) sp__law_text := by
  intro ds G k h
  unfold sp__law_text at h
  split at h
  case h_2 => exact h.elim
  obtain ⟨hh, hG, hH, h0, hm, h⟩ := h
  rename_i a m
  simp [c__law_text, startD, sp__law_draw, hG]
  refine ⟨hH, fun kd h1 hkd hH1 => ⟨hH1, fun wy h2 hwy hH2 => ⟨hH2, by omega, by omega, fun mn h3 hmn hH3 => ?_⟩⟩⟩
  have hG3 : ug G a (.lst h3) a = some (.lst h3) := ug_same
  have turn : ∀ (d : D) (p : Addr) (acc h' : List D) (Y : D → Gm → Prop) (Z : Gm → Prop) (env : Dl.Env) (h0 : List D), env.length = 8 → env[0]? = some (some (D.adr a)) → env[2]? = some (some (D.int kd)) → Hand h' → p ≠ a → (∀ y h'', isSg y → Hand h'' → Y y (ug (ug (ug G a (.lst h0)) p (.lst acc)) a (.lst h''))) →
      LT (gNm 7) cYes (cCall sp__law_sign (cCons (cVar 0) (cCons (cVar 2) cNil))) [7] env d Y Z (ug (ug (ug G a (.lst h0)) p (.lst acc)) a (.lst h')) := by
    intro d p acc h' Y Z env h0 he e0 e2 hH' hne hy
    simp [e0, e2, sp__law_sign]
    exact ⟨hH', by omega, fun y h'' hy1 hH'' => hy y h'' hy1 hH''⟩
  refine .dec (fun hw => ?_) (fun hw => ?_)
  · refine ⟨smallI_nat (by omega), ?_⟩
    refine lc_sg hG3 hH3 (by omega) (fun d p acc h' Y Z => turn d p acc h' Y Z _ _ rfl rfl rfl) fun s h' hs hl hH' => ?_
    simp only [x_items_l, Option.some.injEq]
    obtain ⟨ys, e1, e2, e3⟩ := join3 (s := s) (by omega)
    refine ⟨ys, e1, e2, ?_⟩
    rw [e3]
    simp
    exact rW.of (h s h' hs (by omega) hH')
  · refine ⟨hH3, fun r h4 hr hH4 => ⟨smallI_nat (n := 1 + r) (by omega), ?_⟩⟩
    have hG4 : ug G a (.lst h4) a = some (.lst h4) := ug_same
    have ern : ((1 + (r : Int)).toNat) = 1 + r := by omega
    rw [ern]
    refine lc_sg hG4 hH4 (by omega) (fun d p acc h' Y Z => turn d p acc h' Y Z _ _ rfl rfl rfl) fun s h5 hs hl hH5 => ?_
    simp only [x_items_l, Option.some.injEq]
    obtain ⟨ys, e1, e2, e3⟩ := join3 (s := s) (by omega)
    refine ⟨ys, e1, e2, ?_⟩
    rw [e3]
    refine .dec (fun hw0 => ?_) (fun hw0 => ?_)
    · refine ⟨by omega, ?_, ?_, ?_⟩
      · exact Nat.le_trans (Nat.mul_le_mul (show s.length ≤ 4 by omega) (show mn ≤ 1000 by omega)) (by decide)
      · rw [Nat.mul_comm]
        exact Nat.le_trans (Nat.mul_le_mul (show s.length ≤ 4 by omega) (show mn ≤ 1000 by omega)) (by decide)
      · rw [cut_to (by omega)]
        simp
        refine rW.of (h _ h5 (sgL_take (sgL_rep hs)) ?_ hH5)
        rw [List.length_take]; omega
    · simp [sp__law_sign]
      refine ⟨hH5, by omega, fun y h6 hy hH6 => ⟨smallI_nat (n := 8) (by omega), ?_⟩⟩
      obtain ⟨c, rfl, hc⟩ := hy
      refine for_inv (fun i env1 G1 => ∃ (u v : List Nat) (x : Option D), env1 = [some (.adr a), some (.int m), some (.int kd), some (.int wy), some (.int mn), some (.str u), some (.str v), x] ∧ G1 = ug G a (.lst h6) ∧ sgL u = true ∧ sgL v = true ∧ u.length ≤ 5 * 2 ^ i ∧ v.length ≤ 5 * 2 ^ i)
        ⟨s, [c], none, rfl, rfl, hs, sgL_iff.mpr (by simpa using hc), by omega, by simp⟩ (fun _ _ _ _ _ => trivial) ?_ ?_
      · rintro i d env1 G1 hd ⟨u, v, x, rfl, rfl, hu, hv, lu, lv⟩
        have hi : i < 8 := by
          have := (List.getElem?_eq_some_iff.mp hd).1
          rwa [rngD_len] at this
        have p8 : 2 ^ i ≤ 128 := Nat.le_trans (Nat.pow_le_pow_right (by decide) (show i ≤ 7 by omega)) (by decide)
        simp
        refine ⟨by omega, .dec (fun _ => ?_) (fun _ => ⟨by omega, ?_⟩)⟩
        · refine ⟨by omega, ?_⟩
          rw [cut_to (by omega)]
          exact rW.of (h _ h6 (sgL_take hu) (by rw [List.length_take]; omega) hH6)
        · refine ⟨u ++ v, u, ⟨rfl, rfl⟩, sgL_app hu hv, hu, ?_, ?_⟩
          · rw [List.length_append, Nat.pow_succ]; omega
          · rw [Nat.pow_succ]; omega
      · rintro env1 G1 ⟨u, v, x, rfl, rfl, hu, hv, lu, lv⟩
        have : u.length ≤ 5 * 2 ^ 8 := by simpa [rngD_len] using lu
        simp
        refine ⟨by omega, ?_⟩
        rw [cut_to (by omega)]
        exact rW.of (h _ h6 (sgL_take hu) (by rw [List.length_take]; omega) hH6)
/-! ### lines -/
def LnOk (s : List Nat) : Prop := sgL s = true ∧ s.length ≤ 30
def sp__law_line : SpD := fun ds G k => match ds with
  | [.adr a] => ∃ h, G a = some (.lst h) ∧ Hand h ∧ ∀ s h', LnOk s → Hand h' → k.ok (.str s) (ug G a (.lst h'))
  | _ => False
theorem k__law_line : Keeps 3 (c__law_line sp__law_draw sp__law_text sp__law_any_sign) sp__law_line := by
  intro ds G k h
  unfold sp__law_line at h
  split at h
  case h_2 => exact h.elim
  obtain ⟨hh, hG, hH, h⟩ := h
  rename_i a
  simp [c__law_line, startD, sp__law_draw, hG, sp__law_text, sp__law_any_sign]
  refine ⟨hH, fun kd h1 hkd hH1 => .dec (fun e => ⟨hH1, fun r h2 hr hH2 => ?_⟩) (fun e => .dec (fun e1 => ⟨hH1, fun s h2 hs hl hH2 => rW.of (h s h2 ⟨hs, by omega⟩ hH2)⟩) fun e1 => ⟨hH1, fun r h2 hr hH2 => ⟨smallI_nat (by omega), ?_⟩⟩)⟩
  · have hall : ∀ d ∈ [D.str s_3, D.str s_17, D.str s_16, D.str s_15, D.str s_14, D.str s_2, D.str s_13, D.str s_12], ∃ s, d = .str s ∧ LnOk s := by
      intro d hd
      simp only [List.mem_cons, List.not_mem_nil, or_false] at hd
      rcases hd with rfl | rfl | rfl | rfl | rfl | rfl | rfl | rfl <;> exact ⟨_, rfl, by decide +kernel, by decide +kernel⟩
    have hr' : r < [D.str s_3, D.str s_17, D.str s_16, D.str s_15, D.str s_14, D.str s_2, D.str s_13, D.str s_12].length := by simp; omega
    refine ⟨_, List.getElem?_eq_getElem hr', ?_⟩
    obtain ⟨s, e1, hs⟩ := hall _ (List.getElem_mem hr')
    rw [e1]
    exact rW.of (h s h2 hs hH2)
  · refine lc_sg (a := a) (h := h2) ug_same hH2 (by omega) (fun d p acc h' Y Z hH' hne hy => ?_) fun s h' hs hl hH' => ?_
    · simp [sp__law_any_sign]
      exact ⟨hH', fun y h'' hy1 hH'' => hy y h'' hy1 hH''⟩
    · simp only [x_items_l, Option.some.injEq]
      obtain ⟨ys, e1, e2, e3⟩ := join3 (s := s) (by omega)
      refine ⟨ys, e1, e2, ?_⟩
      rw [e3]
      simp
      exact rW.of (h s h' ⟨hs, by omega⟩ hH')
def sp__law_record : SpD := fun ds G k => match ds with
  | [.str s] => s.length ≤ 1000000 ∧ k.ok (.str (recd s)) G
  | _ => False
theorem k__law_record : Keeps 1 c__law_record sp__law_record := by
  intro ds G k h
  unfold sp__law_record at h
  split at h
  case h_2 => exact h.elim
  obtain ⟨hl, h⟩ := h
  rename_i s
  simp [c__law_record, startD]
  have h7 := numL_short hl
  refine ⟨by omega, x_strC_i (by omega) ?_⟩
  simp [s_2]
  refine ⟨by omega, by omega, rWc h ?_⟩
  simp [recd]
def sp__law_contents : SpD := fun ds G k => match ds with
  | [.str s] => s.length ≤ 1000000 ∧ k.ok (optS (conts s)) G
  | _ => False
theorem k__law_contents : Keeps 2 c__law_contents sp__law_contents := by
  intro ds G k h
  unfold sp__law_contents at h
  split at h
  case h_2 => exact h.elim
  obtain ⟨hl, h⟩ := h
  rename_i s
  have e2 : s_2 = [58] := rfl
  simp [c__law_contents, startD, e2]
  have hc : conts s = (if findAt [58] s 0 < 0 then none else if s.take (findAt [58] s 0).toNat = TL.numL (s.length - (findAt [58] s 0).toNat - 1) then some (s.drop ((findAt [58] s 0).toNat + 1)) else none) := rfl
  refine .dec (fun e => rWc h (by rw [hc, if_pos e]; rfl)) (fun e => ?_)
  have hr : 0 ≤ findAt [58] s 0 ∧ findAt [58] s 0 < s.length := by
    rcases find_rng [58] s 0 with q | q
    · omega
    · simpa using q
  generalize findAt [58] s 0 = f at *
  obtain ⟨f, rfl⟩ := Int.eq_ofNat_of_zero_le hr.1
  have hf : f < s.length := by omega
  have em : ((s.length : Int) - (f : Int) - 1) = ((s.length - f - 1 : Nat) : Int) := by omega
  rw [em]
  rw [if_neg e] at hc
  simp at hc
  refine ⟨by omega, x_strC_i (by omega) ?_⟩
  simp [cut_to (i := (f : Int)) (by omega)]
  refine ⟨by omega, .dec (fun e1 => ⟨by omega, ?_⟩) (fun e1 => ?_)⟩
  · rw [cut_from (by omega)]
    refine rWc h ?_
    rw [hc, if_pos e1.symm]
    have : ((f : Int) + 1).toNat = f + 1 := by omega
    rw [this]; rfl
  · refine rWc h ?_
    rw [hc, if_neg (fun q => e1 q.symm)]; rfl
def sp__law_is_number : SpD := fun ds G k => match ds with
  | [d, .int lo, .int hi] => pl d ∧ k.ok (.bl (inB d lo hi)) G
  | _ => False
theorem k__law_is_number : Keeps 3 c__law_is_number sp__law_is_number := by
  intro ds G k h
  unfold sp__law_is_number at h
  split at h
  case h_2 => exact h.elim
  obtain ⟨⟨T, hT⟩, h⟩ := h
  rename_i d lo hi
  cases d <;> simp [ty0] at hT <;> simp [c__law_is_number, startD, subT] <;> first | exact rW.of h | skip
  refine .dec (fun h1 => rWc h ?_) (fun h1 => rWc h ?_) <;> simp [inB, h1]
def sp__law_is_line : SpD := fun ds G k => match ds with
  | [d] => pls d ∧ k.ok (.bl (sgB d)) G
  | _ => False
theorem k__law_is_line : Keeps 2 c__law_is_line sp__law_is_line := by
  intro ds G k h
  unfold sp__law_is_line at h
  split at h
  case h_2 => exact h.elim
  obtain ⟨⟨⟨T, hT⟩, hl⟩, h⟩ := h
  rename_i d
  cases d <;> simp [ty0] at hT <;> simp [c__law_is_line, startD, subT] <;> first | exact rW.of (by assumption) | skip
  rename_i s
  refine lc_map (fun d => .bl (sgB d)) (by simpa using hl s rfl) (fun _ _ _ => trivial) ?_ ?_
  · intro i d p acc Y Z hd hp hY
    simp at hd
    obtain ⟨c, hc, rfl⟩ := hd
    simp [s_0, s_1, x_lt1]
    refine .dec (fun h1 => cst1 hY ?_) (fun h1 => cst1 hY ?_)
    · simp [sgB, sgL]; omega
    · simp [sgB, sgL, show 32 ≤ c by omega, notlt]
  · refine ⟨s.map fun c => sgB (.str [c]), by simp, rWc h ?_⟩
    simp [sgB, sgL]
end Kx
set_option maxHeartbeats 4000000
/-! k50, the plain part: deeds. -/
namespace Kx
open PySem PySem.Spec PyProof.Rows L2 Dl
/-- nothing but what stands at a, b is touched -/
def Fr (a b : Addr) (G G' : Gm) : Prop := ∀ x o, x ≠ a → x ≠ b → G x = some o → G' x = some o
theorem Fr.rf {a b : Addr} {G : Gm} : Fr a b G G := fun _ _ _ _ h => h
theorem fr_b {a b : Addr} {G : Gm} {o : MO} : Fr a b G (ug G b o) := fun x o' _ h2 h => by rw [ug_ne h2]; exact h
theorem fr_a {a b : Addr} {G : Gm} {o : MO} : Fr a b G (ug G a o) := fun x o' h1 _ h => by rw [ug_ne h1]; exact h
theorem fr_new {a b c : Addr} {G : Gm} {o o' : MO} (hc : G c = none) : Fr a b G (ug (ug G c o) a o') := fun x u h1 _ h => by
  rw [ug_ne h1, ug_ne (ne_of_free h hc)]; exact h
/-- a call: what is asked, and of what -/
inductive Deed : D → Prop
  | write {x : D} (h : pls x) : Deed (.tup [.str s_18, x])
  | sync : Deed (.tup [.str s_20])
  | drop {x : D} (h : pl x) : Deed (.tup [.str s_26, x])
  | cut {x : D} (h : CutOk x) : Deed (.tup [.str s_21, x])
def strD : D → List Nat
  | .str s => s
  | _ => []
abbrev tld (x : D) : D := .tup [.str s_19, x]
abbrev rfd (w : List Nat) : D := .tup [.str s_23, .str w]
/-- what the account's call tells, and the lines, and how many are synced, behind it -/
def eff (ls : List (List Nat)) (n : Nat) (d : D) : D × List (List Nat) × Nat := match d with
  | .tup [.str w, x] =>
    if w = s_18 then (if sgB x then (tld (.int ls.length), ls ++ [strD x], n) else (rfd s_25, ls, n))
    else if w = s_26 then (if inB x 0 ls.length then (tld .non, ls.take (natD x), min n (natD x)) else (rfd s_24, ls, n))
    else (if cutB x (ls.drop n) then (tld .non, ls.take n ++ cutR x (ls.drop n), (ls.take n ++ cutR x (ls.drop n)).length) else (rfd s_21, ls, n))
  | _ => (tld (.int (ls.length - n)), ls, ls.length)
theorem s_ne : s_26 ≠ s_18 ∧ s_21 ≠ s_18 ∧ s_21 ≠ s_26 ∧ s_20 ≠ s_18 ∧ s_26 ≠ s_20 ∧ s_26 ≠ s_21 ∧ s_20 ≠ s_26 ∧ s_20 ≠ s_21 ∧ s_21 ≠ s_20 ∧ s_18 ≠ s_20 := by decide +kernel
def LsS (ls : List (List Nat)) : Prop := ls.length ≤ 1000 ∧ ∀ s ∈ ls, s.length ≤ 16777216
theorem LsS.ok {ls : List (List Nat)} (h : LsS ls) : LsOk ls := ⟨by have := h.1; omega, fun s hs => h.2 s hs⟩
def sp__law_called : SpD := fun ds G k => match ds with
  | [.adr a, d] => ∃ b ls n, DkD G a b ls n ∧ LsS ls ∧ Deed d ∧ ∀ b' G', DkD G' a b' (eff ls n d).2.1 (eff ls n d).2.2 → Fr a b G G' → (b' = b ∨ G b' = none) → k.ok (eff ls n d).1 G'
  | _ => False
theorem k__law_called : Keeps 2 (c__law_called sp_Disk_write sp_Disk_sync sp_Disk_cut sp_Disk_drop) sp__law_called := by
  intro ds G k h
  unfold sp__law_called at h
  split at h
  case h_2 => exact h.elim
  obtain ⟨b, ls, n, hD, hl, hd, h⟩ := h
  rename_i a d
  obtain ⟨n1, n2, n3, n4, n5, n6, n7, n8, n9, n10⟩ := s_ne
  cases hd with
  | write hx =>
    rename_i x
    simp [c__law_called, startD, sp_Disk_write, hD.1]
    refine ⟨b, ls, ⟨n, hD⟩, hx, by have := hl.1; omega, fun s e hs => ?_, fun hs => ?_⟩
    · subst e
      have hs' : sgB (.str s) = true := hs
      simp [eff, hs', strD] at h
      try simp
      refine rW.of (h b _ ⟨(ug_ne hD.ne).trans hD.1, ?_⟩ fr_b (.inl rfl))
      rw [ug_same]; simp
    · simp [eff, hs] at h
      try simp
      exact rW.of (h b G hD Fr.rf (.inl rfl))
  | sync =>
    simp [c__law_called, startD, sp_Disk_sync, hD.1, n4]
    simp [eff] at h
    exact ⟨b, ls, n, hD, rW.of (h b _ ⟨ug_same, (ug_ne hD.ne.symm).trans hD.2⟩ fr_a (.inl rfl))⟩
  | drop hx =>
    rename_i x
    simp [c__law_called, startD, sp_Disk_drop, hD.1, n1, n5, n6]
    refine ⟨b, ls, n, hD, hx, fun i e hi c hc => ?_, fun hs => ?_⟩
    · subst e
      have hin : inB (.int (i : Int)) 0 ls.length = true := by simp [inB]; omega
      simp [eff, n1, hin, natD] at h
      refine rW.of (h c _ ⟨ug_same, ?_⟩ (fr_new hc) (.inr hc))
      rw [ug_ne (ne_of_free hD.1 hc).symm, ug_same, List.map_take]
    · simp [eff, n1, hs] at h
      try simp
      exact rW.of (h b G hD Fr.rf (.inl rfl))
  | cut hx =>
    rename_i x
    simp [c__law_called, startD, sp_Disk_cut, hD.1, n2, n3, n9]
    refine ⟨b, ls, n, hD, hx, hl.ok, .mk (fun hs c hc => ?_) fun hs => ?_⟩
    · simp [eff, n2, n3, hs] at h
      refine rW.of (h c _ ⟨?_, ?_⟩ (fr_new hc) (.inr hc))
      · rw [ug_same]; simp
      · rw [ug_ne (ne_of_free hD.1 hc).symm, ug_same]; simp
    · simp [eff, n2, n3, hs] at h
      try simp
      exact rW.of (h b G hD Fr.rf (.inl rfl))
/-- the own account: the lines, how many are synced -/
def acc (ls : List (List Nat)) (n : Nat) : MO := .lst [.lst (ls.map D.str), .int n]
def sp__law_did : SpD := fun ds G k => match ds with
  | [.adr c, d] => ∃ ls n, G c = some (acc ls n) ∧ LsS ls ∧ n ≤ ls.length ∧ Deed d ∧ k.ok (eff ls n d).1 (ug G c (acc (eff ls n d).2.1 (eff ls n d).2.2))
  | _ => False
theorem k__law_did : Keeps 7 (c__law_did sp__law_is_line sp__law_is_number) sp__law_did := by
  intro ds G k h
  unfold sp__law_did at h
  split at h
  case h_2 => exact h.elim
  obtain ⟨ls, n, hG, hl, hnl, hd, h⟩ := h
  rename_i c d
  unfold acc at hG
  obtain ⟨n1, n2, n3, n4, n5, n6, n7, n8, n9, n10⟩ := s_ne
  cases hd with
  | write hx =>
    rename_i x
    simp [c__law_did, startD, hG, sp__law_is_line, hx]
    refine .mk (fun hs => ?_) fun hs => ?_
    · cases x <;> try (cases hs; done)
      rename_i s
      simp [eff, hs, strD] at h
      simp [acc] at h
      exact ⟨by have := hl.1; omega, rW.of h⟩
    · simp [eff, hs] at h
      exact rWc2 h rfl (ug_self hG)
  | sync =>
    simp [c__law_did, startD, hG, n4]
    simp [eff, acc] at h
    exact rW.of h
  | drop hx =>
    rename_i x
    simp [c__law_did, startD, hG, n1, n5, sp__law_is_number, hx]
    refine .mk (fun hs => ?_) fun hs => ?_
    · obtain ⟨i, rfl, h0, hi⟩ := inB_true hs
      obtain ⟨i, rfl⟩ := Int.eq_ofNat_of_zero_le h0
      simp [eff, n1, hs, natD, acc] at h
      simp [cut_map, cut_to (i := (i : Int)) (by omega)]
      refine rWc2 h rfl ?_
      have e4 : ((min n i : Nat) : Int) = if i < n then (i : Int) else n := by split <;> omega
      simp [e4]
    · simp [eff, n1, hs] at h
      exact rWc2 h rfl (ug_self hG)
  | cut hx =>
    rename_i x
    have hc : cutL (ls.map D.str) (some (n : Int)) none = (ls.drop n).map D.str := by
      rw [cut_map, cut_from (by omega)]; rfl
    have hc2 : cutL (ls.map D.str) none (some (n : Int)) = (ls.take n).map D.str := by
      rw [cut_map, cut_to (by omega)]; rfl
    have hlen : (ls.drop n).length = ls.length - n := List.length_drop
    obtain ⟨hp, hx⟩ := hx
    have hs := hl.ok.2
    have hlo := hl.ok.1
    have hbad : cutB x (ls.drop n) = false → rW k (rfd s_21) G := fun hb => by
      simp [eff, n2, n3, hb] at h
      exact rWc2 h rfl (ug_self hG)
    have hnt : (∀ xs, x ≠ .tup xs) → cutB x (ls.drop n) = false := fun q => by
      cases x <;> first | rfl | exact absurd rfl (q _)
    by_cases ht : ∃ xs, x = .tup xs
    · obtain ⟨xs, rfl⟩ := ht
      obtain ⟨hx1, hx2⟩ := hx xs rfl
      simp [c__law_did, startD, hG, n2, n9, n3, hc, subT]
      refine .dec (fun e => ?_) (fun e => ?_)
      · have hxl : xs.length = (ls.drop n).length := by omega
        refine lc_map (fpr (fun x w => .bl (inB x 0 w.length)) .non) (by simp [zipD_len]; omega) (fun _ _ _ => trivial) ?_ ?_
        · intro i d p acc Y Z hd hp hY
          rw [← List.map_drop] at hd
          obtain ⟨x, w, rfl, hm⟩ := zip_item hd
          obtain ⟨m1, m2⟩ := mem_zip_l hm
          simp [sp__law_is_number, hx2 x m1]
          exact ⟨hs w (List.mem_of_mem_drop m2), hY⟩
        · rw [← List.map_drop, zip_map]
          refine ⟨(xs.zip (ls.drop n)).map fun q => inB q.1 0 q.2.length, by simp, ?_⟩
          have ec : cutB (.tup xs) (ls.drop n) = ((xs.zip (ls.drop n)).map fun q => inB q.1 0 q.2.length).all id := by
            simp [cutB, hxl]
          refine .mk (fun e2 => ?_) (fun e2 => hbad (by rw [ec, e2]))
          have hb : cutB (.tup xs) (ls.drop n) = true := by rw [ec, e2]
          simp [hc2, hG]
          refine lc_map (fpr (fun x w => .str (w.take (natD x))) .non) (by simp [zipD_len]; omega) (fun _ _ _ => trivial) ?_ ?_
          · intro i d p acc Y Z hd hp hY
            rw [← List.map_drop] at hd
            obtain ⟨x, w, rfl, hm⟩ := zip_item hd
            obtain ⟨m1, m2⟩ := mem_zip_l hm
            have hin : inB x 0 w.length = true := by
              rw [List.all_map] at e2
              exact List.all_eq_true.mp e2 _ hm
            obtain ⟨j, rfl, h0, hj⟩ := inB_true hin
            simp
            refine ⟨hs w (List.mem_of_mem_drop m2), ?_⟩
            rw [cut_to h0]
            exact hY
          · rw [← List.map_drop, zip_map]
            simp [eff, n2, n3, hb, acc] at h
            simp [hG]
            refine ⟨by omega, ?_⟩
            refine rWc2 h rfl ?_
            have e9 : min n ls.length + (cutR (.tup xs) (ls.drop n)).length = ls.length := by
              simp [cutR]; omega
            have e10 : ((ls.length : Nat) : Int) = ((min n ls.length : Nat) : Int) + ((cutR (.tup xs) (ls.drop n)).length : Nat) := by omega
            rw [← e10]
            simp [cutR, Function.comp_def]
      · refine hbad ?_
        have : ¬ xs.length = (ls.drop n).length := by omega
        simp [cutB]
        intro q; omega
    · have hb := hbad (hnt fun xs q => ht ⟨xs, q⟩)
      obtain ⟨T, hT⟩ := hp
      cases x <;> simp [ty0] at hT <;> first | exact absurd ⟨_, rfl⟩ ht | (simp [c__law_did, startD, hG, n2, n9, n3, hc, subT]; exact hb)
end Kx
set_option maxHeartbeats 4000000
/-! k50, the plain part: a drawn deed; disks and records looked at. -/
namespace Kx
open PySem PySem.Spec PyProof.Rows L2 Dl
def sp__law_deed : SpD := fun ds G k => match ds with
  | [.adr a, .adr c] => ∃ h ls n, G a = some (.lst h) ∧ Hand h ∧ G c = some (acc ls n) ∧ LsS ls ∧ a ≠ c ∧ ∀ d h', Deed d → Hand h' → k.ok d (ug G a (.lst h'))
  | _ => False
/-- one of some plain things, drawn -/
theorem pick {xs : List D} {P : D → Prop} {r : Nat} (h : r < xs.length) (hp : ∀ d ∈ xs, P d) : ∃ d, xs[r]? = some d ∧ P d := ⟨_, List.getElem?_eq_getElem h, hp _ (List.getElem_mem h)⟩
theorem k__law_deed : Keeps 7 (c__law_deed sp__law_draw sp__law_line) sp__law_deed := by
  intro ds G k h
  unfold sp__law_deed at h
  split at h
  case h_2 => exact h.elim
  obtain ⟨hh, ls, n, hG, hH, hC, hl, hne, h⟩ := h
  rename_i a c
  unfold acc at hC
  have hlo := hl.1
  simp [c__law_deed, startD, sp__law_draw, sp__law_line, hG, hC, ug_ne hne.symm]
  refine ⟨hH, fun kd h1 hkd hH1 => .dec (fun _ => ⟨hH1, fun s h2 hs hH2 => rW.of (h _ h2 (.write (pls_str (by have := hs.2; omega))) hH2)⟩) fun e4 => .dec (fun _ => ⟨hH1, fun r h2 hr hH2 => ?_⟩) fun e5 => .dec (fun _ => rW.of (h _ h1 .sync hH1)) fun e6 => .dec (fun _ => ?_) fun e7 => ?_⟩
  · obtain ⟨d, hd, hp⟩ := pick (xs := [.non, .int 7, .lst [.str s_9], .str s_27, .tup [.str s_9], .bl true]) (P := pls) (r := r) (by simp; omega) (by
      intro d hd
      simp only [List.mem_cons, List.not_mem_nil, or_false] at hd
      rcases hd with rfl | rfl | rfl | rfl | rfl | rfl
      · exact pls_of pl_non (fun _ q => nomatch q)
      · exact pls_of pl_int (fun _ q => nomatch q)
      · exact pls_of pl_lst (fun _ q => nomatch q)
      · exact pls_str (by decide +kernel)
      · exact pls_of pl_tup (fun _ q => nomatch q)
      · exact pls_of pl_bl (fun _ q => nomatch q))
    exact ⟨d, hd, rW.of (h _ h2 (.write hp) hH2)⟩
  · refine ⟨hH1, by omega, fun r h2 hr hH2 => ⟨hH2, fun r2 h3 hr2 hH3 => ?_⟩⟩
    obtain ⟨d, hd, hp⟩ := pick (xs := [.int ls.length, .int (ls.length + 1), .int (-1), .bl true, .non, .int r]) (P := pl) (r := r2) (by simp; omega) (by
      intro d hd
      simp only [List.mem_cons, List.not_mem_nil, or_false] at hd
      rcases hd with rfl | rfl | rfl | rfl | rfl | rfl <;> simp)
    exact ⟨d, hd, rW.of (h _ h3 (.drop hp) hH3)⟩
  · intro p hp
    have hpa : p ≠ a := fun z => by subst z; simp at hp
    have hp' : G p = none := by rwa [ug_ne hpa] at hp
    have hpc : p ≠ c := (ne_of_free hC hp').symm
    simp [ug_ne hpc.symm, ug_ne hne.symm, hC]
    rw [cut_map, cut_from (by omega)]
    refine for_inv (fun i env1 G1 => ∃ (h' ks : List D) (x : Option D), Hand h' ∧ ks.length = i ∧ (∀ y ∈ ks, pl y) ∧ env1 = [some (.adr a), some (.adr c), some (.int kd), none, some (.adr p), x, none] ∧ G1 = ug (ug G p (.lst ks)) a (.lst h'))
      ⟨h1, [], none, hH1, rfl, by simp, rfl, by rw [ug_comm hpa.symm]⟩ (fun _ _ _ _ _ => trivial) ?_ ?_
    · rintro i d env1 G1 hd ⟨h', ks, x, hH', hki, hk, rfl, rfl⟩
      obtain ⟨s, hs, rfl⟩ := List.mem_map.mp (List.mem_of_getElem? hd)
      have hs' := hl.2 s (List.mem_of_mem_drop hs)
      have hi : i < 1001 := by
        have := (List.getElem?_eq_some_iff.mp hd).1
        simp at this; omega
      have hsl := hs'
      simp [sp__law_draw, ug_ne hpa]
      refine ⟨by omega, hH', by omega, fun r h2 hr hH2 => ⟨hH2, fun r2 h3 hr2 hH3 => ?_⟩⟩
      obtain ⟨d, hd, hp⟩ := pick (xs := [.int s.length, .int 0, .int r]) (P := pl) (r := r2) (by simp; omega) (by
        intro d hd
        simp only [List.mem_cons, List.not_mem_nil, or_false] at hd
        rcases hd with rfl | rfl | rfl <;> simp)
      refine ⟨d, hd, by omega, h3, hH3, ks ++ [d], by simp; omega, ?_, ?_⟩
      · intro y hy
        rcases List.mem_append.mp hy with q | q
        · exact hk y q
        · rw [List.mem_singleton.mp q]; exact hp
      · rw [ug_comm hpa.symm, x_ug2]
    · rintro env1 G1 ⟨h', ks, x, hH', hki, hk, rfl, rfl⟩
      have hks : ks.length ≤ 1000 := by rw [hki]; simp; omega
      have sub : ∀ h2, subG (ug G a (.lst h2)) (ug (ug G p (.lst ks)) a (.lst h2)) := fun h2 => by
        rw [ug_comm hpa]
        exact sub_new (by rw [ug_ne hpa]; exact hp')
      have dpl : ∀ y ∈ ks.dropLast, pl y := fun y hy => hk y (List.dropLast_subset ks hy)
      have cok : ∀ xs : List D, xs.length ≤ 1001 → (∀ y ∈ xs, pl y) → CutOk (.tup xs) := fun xs hx hy => ⟨pl_tup, fun zs e => by cases e; exact ⟨by omega, hy⟩⟩
      simp [ug_ne hpa, sp__law_draw]
      refine .dec (fun _ => rWs (h _ h' (.cut (cok ks (by omega) hk)) hH') rfl (sub h')) (fun _ => ?_)
      rw [cut_but, cut_from (by omega)]
      have l1 : (ks.drop (1 : Int).toNat).length ≤ 1000 := by rw [List.length_drop]; omega
      have l2 : ks.dropLast.length ≤ 1000 := by rw [List.length_dropLast]; omega
      refine ⟨by omega, ⟨by decide, by decide, by decide⟩, by omega, by omega, hH', fun r h2 hr hH2 => ?_⟩
      have app : ∀ (xs : List D) (y : D), xs.length ≤ 1000 → (∀ z ∈ xs, pl z) → pl y → CutOk (.tup (xs ++ [y])) := fun xs y hx hz hy => cok _ (by simp; omega) fun z hm => by
        rcases List.mem_append.mp hm with q | q
        · exact hz z q
        · rw [List.mem_singleton.mp q]; exact hy
      obtain ⟨d, hd, hp⟩ := pick (xs := [.lst ks, .tup (ks ++ [.int 0]), .tup (ks.drop (1 : Int).toNat ++ [.int 1000000000]), .non, .tup (ks.dropLast ++ [.bl true]), .tup [.int (-1)]]) (P := CutOk) (r := r) (by simp; omega) (by
        intro d hd
        simp only [List.mem_cons, List.not_mem_nil, or_false] at hd
        rcases hd with rfl | rfl | rfl | rfl | rfl | rfl
        · exact ⟨pl_lst, fun _ q => nomatch q⟩
        · exact app ks _ hks hk pl_int
        · exact app _ _ l1 (fun z hz => hk z (List.mem_of_mem_drop hz)) pl_int
        · exact ⟨pl_non, fun _ q => nomatch q⟩
        · exact app _ _ l2 dpl pl_bl
        · exact cok _ (by simp) (by simp))
      exact ⟨d, hd, rWs (h _ h2 (.cut hp) hH2) rfl (sub h2)⟩
def sp__law_is_disk : SpD := fun ds G k => match ds with
  | [.adr a, .adr c] => ∃ b ls n, DkD G a b ls n ∧ G c = some (acc ls n) ∧ LsS ls ∧ k.ok (.bl true) G
  | _ => False
theorem isok_strs {ls : List (List Nat)} {m : Nat} : isokL m (ls.map D.str) = true := by
  induction ls with
  | nil => simp [isokL]
  | cons s ls ih => simp [isokL, isok, ih]
theorem k__law_is_disk : Keeps 2 (c__law_is_disk (sp__law_is 3) sp_Disk_synced sp_Disk_lines) sp__law_is_disk := by
  intro ds G k h
  unfold sp__law_is_disk at h
  split at h
  case h_2 => exact h.elim
  obtain ⟨b, ls, n, hD, hC, hl, h⟩ := h
  rename_i a c
  unfold acc at hC
  simp [c__law_is_disk, startD, sp_Disk_lines, hD.1]
  refine ⟨b, ls, ⟨n, hD⟩, fun p hp => ?_⟩
  simp [dg_ug hp, hD.1, hC, sp_Disk_synced, sp__law_is]
  have hlo := hl.1
  exact ⟨b, ls, n, hD, rfl, by simp [isok, isokL, isok_strs]; omega, rW.of h⟩
/-! ### records -/
theorem pre58 {c : Nat} {r : List Nat} : TL.pre [58] (c :: r) = decide (c = 58) := by
  by_cases h : c = 58
  · subst h; simp [TL.pre]
  · simp [TL.pre, h]
theorem find_no : ∀ (s : List Nat) (i : Nat), 58 ∉ s → findAt [58] s i = -1
  | [], _, _ => rfl
  | c :: r, i, h => by
    unfold findAt
    rw [pre58, if_neg]
    · exact find_no r (i + 1) fun q => h (List.mem_cons_of_mem _ q)
    · simp
      exact fun q => h (by rw [q]; exact List.mem_cons_self)
theorem find_yes : ∀ (s r : List Nat) (i : Nat), 58 ∉ s → findAt [58] (s ++ 58 :: r) i = (i + s.length : Nat)
  | [], r, i, _ => by
    unfold findAt
    rw [List.nil_append]
    simp [pre58]
  | c :: s, r, i, h => by
    have hc : c ≠ 58 := fun q => h (by rw [q]; exact List.mem_cons_self)
    show (if TL.pre [58] (c :: (s ++ 58 :: r)) = true then (i : Int) else findAt [58] (s ++ 58 :: r) (i + 1)) = _
    rw [pre58, if_neg (by simpa using hc), find_yes s r (i + 1) fun q => h (List.mem_cons_of_mem _ q)]
    simp; omega
theorem num_free (n : Nat) : 58 ∉ TL.numL n := TL.numL_free (Or.inr (by decide))
theorem conts_of {w r : List Nat} (hw : 58 ∉ w) : conts (w ++ 58 :: r) = if w = TL.numL r.length then some r else none := by
  have hf := find_yes w r 0 hw
  unfold conts
  rw [hf]
  have e1 : ¬ (((0 + w.length : Nat) : Int) < 0) := by omega
  have e2 : (((0 + w.length : Nat) : Int)).toNat = w.length := by omega
  simp only [e1, e2, if_false]
  have e3 : (w ++ 58 :: r).take w.length = w := by simp
  have e4 : (w ++ 58 :: r).length - w.length - 1 = r.length := by simp
  have e5 : (w ++ 58 :: r).drop (w.length + 1) = r := by
    rw [show w ++ 58 :: r = (w ++ [58]) ++ r by simp]
    rw [List.drop_left' (by simp)]
  rw [e3, e4, e5]
theorem conts_rec (s : List Nat) : conts (recd s) = some s := by
  have : recd s = TL.numL s.length ++ 58 :: s := by simp [recd]
  rw [this, conts_of (num_free _), if_pos rfl]
theorem conts_cut {s : List Nat} {n : Nat} (h : n < (recd s).length) : conts ((recd s).take n) = none := by
  have e : recd s = TL.numL s.length ++ 58 :: s := by simp [recd]
  rw [e] at h ⊢
  by_cases hn : n ≤ (TL.numL s.length).length
  · rw [List.take_append_of_le_length hn]
    have : 58 ∉ (TL.numL s.length).take n := fun q => num_free _ (List.mem_of_mem_take q)
    unfold conts
    rw [find_no _ _ this]
    rfl
  · obtain ⟨m, rfl⟩ : ∃ m, n = (TL.numL s.length).length + 1 + m := ⟨n - (TL.numL s.length).length - 1, by omega⟩
    have hm : m < s.length := by simp at h; omega
    have e2 : (TL.numL s.length ++ 58 :: s).take ((TL.numL s.length).length + 1 + m) = TL.numL s.length ++ 58 :: s.take m := by
      rw [show TL.numL s.length ++ 58 :: s = (TL.numL s.length ++ [58]) ++ s by simp, List.take_append]
      rw [List.take_of_length_le (by simp)]
      simp
    rw [e2, conts_of (num_free _), if_neg]
    intro q
    have := TL.numL_inj q
    rw [List.length_take] at this
    omega
theorem rec_sg {s : List Nat} (h : sgL s = true) : sgL (recd s) = true := by
  unfold recd
  refine sgL_app (sgL_app ?_ (by decide)) h
  rw [sgL_iff]
  intro c hc
  have := TL.numL_digits s.length c hc
  exact ⟨by omega, by omega⟩
theorem rec_len {s : List Nat} (h : s.length ≤ 30) : (recd s).length ≤ 38 := by
  have := numL_short (n := s.length) (by omega)
  simp [recd]; omega
def sp__law_are_records : SpD := fun ds G k => match ds with
  | [.adr a] => ∃ h, G a = some (.lst h) ∧ Hand h ∧ ∀ h', Hand h' → k.ok (.bl true) (ug G a (.lst h'))
  | _ => False
theorem k__law_are_records : Keeps 6 (c__law_are_records sp__law_line sp_record (sp__law_is 3) sp__law_record sp_read_record sp__law_draw sp__law_any_sign sp__law_contents) sp__law_are_records := by
  intro ds G k h
  unfold sp__law_are_records at h
  split at h
  case h_2 => exact h.elim
  obtain ⟨hh, hG, hH, h⟩ := h
  rename_i a
  have e2 : s_2 = [58] := rfl
  simp [c__law_are_records, startD, sp__law_line, sp_record, sp__law_is, sp__law_record, sp_read_record, hG]
  refine ⟨hH, fun s h1 ⟨hs, hl⟩ hH1 => ?_⟩
  have l1 := rec_len hl
  have g1 := rec_sg hs
  simp [hs, g1, conts_rec, optS, isok]
  refine ⟨by omega, by omega, by omega, smallI_nat (by omega), ?_⟩
  refine lc_map (fun _ => .bl true) (by simp [rngD_len]; omega) (fun _ _ _ => trivial) ?_ ?_
  · intro i d p acc Y Z hd hp hY
    obtain ⟨hi, rfl⟩ := rngD_get hd
    simp [sp_read_record, cut_to (i := (i : Int)) (by omega)]
    refine ⟨by omega, by omega, sgL_take g1, ?_⟩
    rw [conts_cut hi]
    simpa [optS] using hY
  · refine ⟨List.replicate (rngD 0 (recd s).length).length true, by simp [List.map_const'], ?_⟩
    simp [sp__law_draw, sp__law_any_sign]
    refine ⟨by omega, hH1, by omega, fun at_ h2 hat hH2 => ⟨hH2, fun y h3 hy hH3 => ⟨hH3, fun r h4 hr hH4 => ?_⟩⟩⟩
    obtain ⟨c, rfl, hc⟩ := hy
    obtain ⟨d, hd, sg, rfl, hsg, lsg⟩ := pick (xs := [.str s_5, .str s_2, .str s_28, .str [c]]) (P := fun d => ∃ t, d = .str t ∧ sgL t = true ∧ t.length ≤ 3) (r := r) (by simp; omega) (by
      intro d hd
      simp only [List.mem_cons, List.not_mem_nil, or_false] at hd
      rcases hd with rfl | rfl | rfl | rfl
      · exact ⟨_, rfl, by decide +kernel, by decide +kernel⟩
      · exact ⟨_, rfl, by decide +kernel, by decide +kernel⟩
      · exact ⟨_, rfl, by decide +kernel, by decide +kernel⟩
      · exact ⟨_, rfl, sgL_iff.mpr (by simpa using hc), by simp⟩)
    refine ⟨_, hd, ?_⟩
    have t1 : sgL ((recd s).take at_) = true := sgL_take g1
    have t2 : ∀ m, sgL ((recd s).drop m) = true := fun m => sgL_drop g1
    have e1 : ((at_ : Int) + 1).toNat = at_ + 1 := by omega
    simp [cut_to (i := (at_ : Int)) (by omega), cut_from (i := (at_ : Int)) (by omega), cut_from (i := (at_ : Int) + 1) (by omega), e1]
    refine ⟨by omega, by omega, by omega, by omega, by omega, by omega, by omega, by omega, by omega, by omega, ?_⟩
    have all : ∀ d ∈ [D.str (List.take at_ (recd s) ++ (sg ++ List.drop at_ (recd s))), D.str (List.take at_ (recd s) ++ (sg ++ List.drop (at_ + 1) (recd s))), D.str (List.take at_ (recd s) ++ List.drop (at_ + 1) (recd s)), D.str s],
        ∃ t, d = .str t ∧ sgL t = true ∧ t.length ≤ 200 := by
      intro d hd
      simp only [List.mem_cons, List.not_mem_nil, or_false] at hd
      rcases hd with rfl | rfl | rfl | rfl
      · exact ⟨_, rfl, sgL_app t1 (sgL_app hsg (t2 _)), by simp; omega⟩
      · exact ⟨_, rfl, sgL_app t1 (sgL_app hsg (t2 _)), by simp; omega⟩
      · exact ⟨_, rfl, sgL_app t1 (t2 _), by simp; omega⟩
      · exact ⟨_, rfl, hs, by omega⟩
    refine for_inv (fun i env1 G1 => ∃ x : Option D, env1 = [some (.adr a), some (.str s), some (.str (recd s)), some (.int at_), some (.str sg), x] ∧ G1 = ug G a (.lst h4)) ⟨none, rfl, rfl⟩ (fun _ _ _ _ _ => trivial) ?_ ?_
    · rintro i d env1 G1 hd ⟨x, rfl, rfl⟩
      obtain ⟨t, rfl, ht, tl⟩ := all d (List.mem_of_getElem? hd)
      simp [sp_read_record, sp__law_contents, sp__law_is, ht]
      exact ⟨by omega, by cases conts t <;> simp [optS, isok]⟩
    · rintro env1 G1 ⟨x, rfl, rfl⟩
      exact rW.of (h h4 hH4)
end Kx
set_option maxHeartbeats 4000000
/-! k50, the plain part: the law. -/
namespace Kx
open PySem PySem.Spec PyProof.Rows L2 Dl
def LsM (m : Nat) (ls : List (List Nat)) : Prop := ls.length ≤ m ∧ ∀ s ∈ ls, s.length ≤ 16777216
theorem LsM.ok {m : Nat} {ls : List (List Nat)} (h : LsM m ls) (hm : m ≤ 1000) : LsS ls := ⟨Nat.le_trans h.1 hm, h.2⟩
theorem LsM.up {m m' : Nat} {ls : List (List Nat)} (h : LsM m ls) (hm : m ≤ m') : LsM m' ls := ⟨Nat.le_trans h.1 hm, h.2⟩
theorem LsM.take {m n : Nat} {ls : List (List Nat)} (h : LsM m ls) : LsM m (ls.take n) := ⟨by rw [List.length_take]; have := h.1; omega, fun s hs => h.2 s (List.mem_of_mem_take hs)⟩
theorem eff_ok {m n : Nat} {ls : List (List Nat)} {d : D} (hd : Deed d) (hl : LsM m ls) (hn : n ≤ ls.length) : LsM (m + 1) (eff ls n d).2.1 ∧ (eff ls n d).2.2 ≤ (eff ls n d).2.1.length ∧ isok 3 (eff ls n d).1 = true := by
  obtain ⟨n1, n2, n3, n4, n5, n6, n7, n8, n9, n10⟩ := s_ne
  have hl1 := hl.1
  cases hd with
  | write hx =>
    rename_i x
    by_cases h : sgB x = true
    · cases x <;> try (cases h; done)
      rename_i s
      simp [eff, h, strD, isok, isokL]
      refine ⟨⟨by simp; omega, fun t ht => ?_⟩, by omega⟩
      rcases List.mem_append.mp ht with q | q
      · exact hl.2 t q
      · rw [List.mem_singleton.mp q]; exact hx.2 s rfl
    · simp [eff, h, isok, isokL]
      exact ⟨hl.up (by omega), hn⟩
  | sync =>
    simp [eff, isok, isokL]
    exact hl.up (by omega)
  | drop hx =>
    rename_i x
    by_cases h : inB x 0 ls.length = true
    · simp [eff, n1, h, isok, isokL]
      exact ⟨hl.take.up (by omega), by omega⟩
    · simp [eff, n1, h, isok, isokL]
      exact ⟨hl.up (by omega), hn⟩
  | cut hx =>
    rename_i x
    by_cases h : cutB x (ls.drop n) = true
    · simp [eff, n2, n3, h, isok, isokL]
      have hc : (cutR x (ls.drop n)).length ≤ ls.length - n := by
        cases x <;> simp [cutR]; omega
      refine ⟨by simp; omega, fun t ht => ?_⟩
      rcases List.mem_append.mp ht with q | q
      · exact hl.2 t (List.mem_of_mem_take q)
      · cases x <;> simp [cutR] at q
        obtain ⟨u, w, hm, rfl⟩ := q
        have := hl.2 w (List.mem_of_mem_drop (mem_zip_l hm).2)
        rw [List.length_take]; omega
    · simp [eff, n2, n3, h, isok, isokL]
      exact ⟨hl.up (by omega), hn⟩
/-- a disk, its account, and the hand -/
structure HS (G : Gm) (ah a b c : Addr) (ls : List (List Nat)) (n m : Nat) : Prop where
  nd : [ah, a, b, c].Nodup
  hh : ∃ h, G ah = some (.lst h) ∧ Hand h
  d1 : DkD G a b ls n
  e1 : G c = some (acc ls n)
  l1 : LsM m ls
  n1 : n ≤ ls.length
variable {G G' : Gm} {ah a b c a2 b2 c2 : Addr} {ls ls2 : List (List Nat)} {n n2 m : Nat}
theorem HS.sm (h : HS G ah a b c ls n m) (e : ∀ x ∈ [ah, a, b, c], G' x = G x) : HS G' ah a b c ls n m := by
  obtain ⟨nd, ⟨u, h1, h2⟩, ⟨d1, d2⟩, e1, l1, n1⟩ := h
  exact ⟨nd, ⟨u, (e ah (by simp)).trans h1, h2⟩, ⟨(e a (by simp)).trans d1, (e b (by simp)).trans d2⟩, (e c (by simp)).trans e1, l1, n1⟩
theorem HS.up {m' : Nat} (h : HS G ah a b c ls n m) (e : m ≤ m') : HS G ah a b c ls n m' := { h with l1 := h.l1.up e }
theorem HS.ne (h : HS G ah a b c ls n m) : ah ≠ a ∧ ah ≠ b ∧ ah ≠ c ∧ a ≠ b ∧ a ≠ c ∧ b ≠ c := by
  have := h.nd
  simp at this
  obtain ⟨⟨h1, h2, h3⟩, ⟨h4, h5⟩, h6⟩ := this
  exact ⟨h1, h2, h3, h4, h5, h6⟩
theorem HS.some (h : HS G ah a b c ls n m) : ∀ x ∈ [ah, a, b, c], ∃ o, G x = some o := by
  intro x hx
  simp only [List.mem_cons, List.not_mem_nil, or_false] at hx
  rcases hx with rfl | rfl | rfl | rfl
  · obtain ⟨u, h1, _⟩ := h.hh; exact ⟨_, h1⟩
  · exact ⟨_, h.d1.1⟩
  · exact ⟨_, h.d1.2⟩
  · exact ⟨_, h.e1⟩
theorem HS.hand {h' : List D} (h : HS G ah a b c ls n m) (hH : Hand h') : HS (ug G ah (.lst h')) ah a b c ls n m := by
  obtain ⟨n1, n2, n3, _⟩ := h.ne
  exact ⟨h.nd, ⟨_, ug_same, hH⟩, ⟨(ug_ne n1.symm).trans h.d1.1, (ug_ne n2.symm).trans h.d1.2⟩, (ug_ne n3.symm).trans h.e1, h.l1, h.n1⟩
/-- something new beside -/
theorem HS.new {p : Addr} {o : MO} (h : HS G ah a b c ls n m) (hp : G p = none) : HS (ug G p o) ah a b c ls n m :=
  h.sm fun x hx => by obtain ⟨u, hu⟩ := h.some x hx; exact ug_ne (ne_of_free hu hp)
/-- both sides -/
structure LS (G : Gm) (ah a b c : Addr) (ls : List (List Nat)) (n : Nat) (a2 b2 c2 : Addr) (ls2 : List (List Nat)) (n2 m : Nat) : Prop where
  x : HS G ah a b c ls n m
  y : HS G ah a2 b2 c2 ls2 n2 m
  ap : ∀ u ∈ [a, b, c], u ∉ [a2, b2, c2]
theorem LS.swap (h : LS G ah a b c ls n a2 b2 c2 ls2 n2 m) : LS G ah a2 b2 c2 ls2 n2 a b c ls n m := ⟨h.y, h.x, fun u hu hv => h.ap u hv hu⟩
theorem LS.hand {h' : List D} (h : LS G ah a b c ls n a2 b2 c2 ls2 n2 m) (hH : Hand h') : LS (ug G ah (.lst h')) ah a b c ls n a2 b2 c2 ls2 n2 m := ⟨h.x.hand hH, h.y.hand hH, h.ap⟩
theorem LS.op {b' : Addr} {d : D} (h : LS G ah a b c ls n a2 b2 c2 ls2 n2 m) (hd : Deed d) (hD : DkD G' a b' (eff ls n d).2.1 (eff ls n d).2.2) (hf : Fr a b G G') (hb : b' = b ∨ G b' = none) :
    LS (ug G' c (acc (eff ls n d).2.1 (eff ls n d).2.2)) ah a b' c (eff ls n d).2.1 (eff ls n d).2.2 a2 b2 c2 ls2 n2 (m + 1) := by
  obtain ⟨k1, k2, k3⟩ := eff_ok hd h.x.l1 h.x.n1
  obtain ⟨q1, q2, q3, q4, q5, q6⟩ := h.x.ne
  obtain ⟨r1, r2, r3, r4, r5, r6⟩ := h.y.ne
  have nb : ∀ x o, x ≠ b → G x = some o → b' ≠ x := fun x o hx ho => by
    rcases hb with e | e
    · rw [e]; exact hx.symm
    · exact (ne_of_free ho e).symm
  obtain ⟨u, hu, hH⟩ := h.x.hh
  have b1 := nb ah _ q2 hu
  have b3 := nb c _ q6.symm h.x.e1
  have b2' := hD.ne
  have out : ∀ x ∈ [a2, b2, c2], x ≠ a ∧ x ≠ b ∧ x ≠ c := fun x hx => by
    refine ⟨fun e => h.ap a (by simp) (e ▸ hx), fun e => h.ap b (by simp) (e ▸ hx), fun e => h.ap c (by simp) (e ▸ hx)⟩
  refine ⟨⟨?_, ⟨u, (ug_ne q3).trans (hf _ _ q1 q2 hu), hH⟩, ⟨(ug_ne q5).trans hD.1, (ug_ne b3).trans hD.2⟩, ug_same, k1, k2⟩, ?_, ?_⟩
  · simp
    exact ⟨⟨q1, b1.symm, q3⟩, ⟨b2', q5⟩, b3⟩
  · refine (h.y.sm fun x hx => ?_).up (Nat.le_succ _)
    obtain ⟨o, ho⟩ := h.y.some x hx
    have hx3 : x ≠ a ∧ x ≠ b ∧ x ≠ c := by
      rcases List.mem_cons.mp hx with e | e
      · rw [e]; exact ⟨q1, q2, q3⟩
      · exact out x e
    rw [ug_ne hx3.2.2, ho]
    exact hf x o hx3.1 hx3.2.1 ho
  · intro x hx hy
    obtain ⟨o, ho⟩ := h.y.some x (List.mem_cons_of_mem _ hy)
    have hx3 := out x hy
    simp only [List.mem_cons, List.not_mem_nil, or_false] at hx
    rcases hx with e | e | e
    · exact hx3.1 e
    · exact nb x o hx3.2.1 ho e.symm
    · exact hx3.2.2 e
/-- a copy, with a copy of the account -/
theorem HS.copy {p q r : Addr} (h : HS G ah a b c ls n m) (hp : G p = none) (hq : G q = none) (hpq : p ≠ q) (hr : ug (ug G q (.lst (ls.map D.str))) p (dk0 q n) r = none) :
    LS (ug (ug (ug G q (.lst (ls.map D.str))) p (dk0 q n)) r (acc ls n)) ah a b c ls n p q r ls n m := by
  have rp : r ≠ p := fun z => by subst z; rw [ug_same] at hr; cases hr
  have rq : r ≠ q := fun z => by subst z; rw [ug_ne (Ne.symm hpq), ug_same] at hr; cases hr
  have hr' : G r = none := by rwa [ug_ne rp, ug_ne rq] at hr
  obtain ⟨u, hu, hH⟩ := h.hh
  have ap := ne_of_free hu hp
  have aq := ne_of_free hu hq
  have ar := ne_of_free hu hr'
  have hx : HS (ug (ug (ug G q (.lst (ls.map D.str))) p (dk0 q n)) r (acc ls n)) ah a b c ls n m := by
    refine ((h.new hq).new ?_).new hr
    rw [ug_ne hpq]; exact hp
  refine ⟨hx, ⟨?_, hx.hh, ⟨?_, ?_⟩, ug_same, h.l1, h.n1⟩, ?_⟩
  · simp
    exact ⟨⟨ap, aq, ar⟩, ⟨hpq, rp.symm⟩, rq.symm⟩
  · rw [ug_ne rp.symm, ug_same]
  · rw [ug_ne rq.symm, ug_ne hpq.symm, ug_same]
  · intro x hx hy
    obtain ⟨o, ho⟩ := h.some x (List.mem_cons_of_mem _ hx)
    simp only [List.mem_cons, List.not_mem_nil, or_false] at hy
    rcases hy with rfl | rfl | rfl
    · exact absurd hp (by rw [ho]; simp)
    · exact absurd hq (by rw [ho]; simp)
    · exact absurd hr' (by rw [ho]; simp)
theorem LS.new {p : Addr} {o : MO} (h : LS G ah a b c ls n a2 b2 c2 ls2 n2 m) (hp : G p = none) : LS (ug G p o) ah a b c ls n a2 b2 c2 ls2 n2 m := ⟨h.x.new hp, h.y.new hp, h.ap⟩
theorem LS.up {m' : Nat} (h : LS G ah a b c ls n a2 b2 c2 ls2 n2 m) (e : m ≤ m') : LS G ah a b c ls n a2 b2 c2 ls2 n2 m' := ⟨h.x.up e, h.y.up e, h.ap⟩
def sp_law : SpD := fun ds G k => match ds with
  | [.seq xs] => ∃ ns : List Int, xs = ns.map D.int ∧ ns.length ≤ 63 ∧ ∀ G', k.ok (.bl true) G'
  | _ => False
/-- the store in the loop -/
def Lp (xs : List D) (m : Nat) (env : Dl.Env) (G : Gm) : Prop := ∃ ah a b c ls n a2 b2 c2 ls2 n2 x y, LS G ah a b c ls n a2 b2 c2 ls2 n2 m ∧ env = [some (.seq xs), some (.adr ah), some (.adr a), some (.adr c), some (.adr a2), some (.adr c2), x, y]
theorem lp_end {E : En} {v x y : Option D} (L : LS G ah a b c ls n a2 b2 c2 ls2 n2 m) (hm : m ≤ 900) (hn : ∀ h', Hand h' → E.nx [v, some (.adr ah), some (.adr a), some (.adr c), some (.adr a2), some (.adr c2), x, y] (ug G ah (.lst h'))) :
    (cIfS (cOr (cNot (cB (cCall sp__law_is_disk (cCons (cVar 4) (cCons (cVar 5) cNil))))) (cNot (cB (cCall sp__law_are_records (cCons (cVar 1) cNil))))) (cRet (cC (.bl false))) cNext) E [v, some (.adr ah), some (.adr a), some (.adr c), some (.adr a2), some (.adr c2), x, y] G := by
  obtain ⟨u, hu, hU⟩ := L.x.hh
  simp
  simp only [sp__law_is_disk, sp__law_are_records]
  refine ⟨b2, ls2, n2, L.y.d1, L.y.e1, L.y.l1.ok (by omega), ?_⟩
  simp
  exact ⟨u, hu, hU, hn⟩
theorem k_law : Keeps 8 (c_law sp__law_hand sp_Disk_init sp_Disk_copy sp__law_draw sp__law_deed (sp__law_is 3) sp__law_did sp__law_called sp__law_is_disk sp_Disk_lines sp__law_are_records) sp_law := by
  intro ds G k h
  unfold sp_law at h
  split at h
  case h_2 => exact h.elim
  obtain ⟨ns, rfl, hl, h⟩ := h
  simp [c_law, startD, sp__law_hand, sp_Disk_init, sp_Disk_copy]
  refine ⟨ns, rfl, hl, fun ah hd hah hH a ha b hb c hc => ?_⟩
  have nba : b ≠ a := fun z => by subst z; simp at hb
  have nah : a ≠ ah := fun z => by subst z; simp at ha
  have hb' : ug G ah (.lst hd) b = none := by rwa [ug_ne nba] at hb
  have nbh : b ≠ ah := fun z => by subst z; simp at hb'
  have nca : c ≠ a := fun z => by subst z; simp at hc
  have hc1 : ug (ug (ug G ah (.lst hd)) a (.ins "Disk" [])) b (.lst []) c = none := by rwa [ug_ne nca] at hc
  have ncb : c ≠ b := fun z => by subst z; simp at hc1
  have hc2 : ug G ah (.lst hd) c = none := by rwa [ug_ne ncb, ug_ne nca] at hc1
  have nch : c ≠ ah := fun z => by subst z; simp at hc2
  have H0 : HS (ug (ug (ug (ug (ug G ah (.lst hd)) a (.ins "Disk" [])) b (.lst [])) a (dk0 b 0)) c (.lst [.lst [], .int 0])) ah a b c [] 0 0 := by
    refine ⟨?_, ⟨hd, ?_, hH⟩, ⟨?_, ?_⟩, ug_same, ⟨by simp, by simp⟩, by simp⟩
    · simp
      exact ⟨⟨nah.symm, nbh.symm, nch.symm⟩, ⟨nba.symm, nca.symm⟩, ncb.symm⟩
    · rw [ug_ne nch.symm, ug_ne nah.symm, ug_ne nbh.symm, ug_ne nah.symm, ug_same]
    · rw [ug_ne nca.symm, ug_same]; rfl
    · rw [ug_ne ncb.symm, ug_ne nba, ug_same]; rfl
  generalize ug (ug (ug (ug (ug G ah (.lst hd)) a (.ins "Disk" [])) b (.lst [])) a (dk0 b 0)) c (.lst [.lst [], .int 0]) = G0 at H0
  refine ⟨by simp [H0.d1.1], b, [], 0, H0.d1, fun a2 b2 ha2 hb2 hne c2 hc2 => ?_⟩
  have L1 : LS (ug (ug (ug G0 b2 (MO.lst (List.map D.str []))) a2 (dk0 b2 ((0 : Nat) : Int))) c2 (MO.lst [D.lst [], D.int 0])) ah a b c [] 0 a2 b2 c2 [] 0 0 := H0.copy ha2 hb2 hne hc2
  clear hc2
  generalize ug (ug (ug G0 b2 (MO.lst (List.map D.str []))) a2 (dk0 b2 ((0 : Nat) : Int))) c2 (MO.lst [D.lst [], D.int 0]) = G1 at L1 ⊢
  obtain ⟨u, hu, hU⟩ := L1.x.hh
  simp [sp__law_draw, hu]
  refine ⟨hU, fun r h2 hr hH2 => ⟨smallI_nat (n := 1 + r) (by omega), ?_⟩⟩
  have L2 := L1.hand hH2
  refine for_inv (fun i env1 G1 => Lp (ns.map D.int) (2 * i) env1 G1) ⟨ah, a, b, c, _, _, a2, b2, c2, _, _, none, none, L2, rfl⟩ (fun _ _ _ _ _ => trivial) ?_ ?_
  · clear L1 L2 hu hU H0 ha2 hb2 hne
    rintro i d env1 G1 hd ⟨ah, a, b, c, ls, n, a2, b2, c2, ls2, n2, x, y, L, rfl⟩
    obtain ⟨hi, rfl⟩ := rngD_get hd
    have hi' : i < 25 := by omega
    rw [x_gNm]
    generalize hfin : cIfS (cOr (cNot (cB (cCall sp__law_is_disk (cCons (cVar 4) (cCons (cVar 5) cNil))))) (cNot (cB (cCall sp__law_are_records (cCons (cVar 1) cNil))))) (cRet (cC (.bl false))) cNext = fin
    refine seq_gen (fun env G => ∃ a2 b2 c2 ls2 n2 y, LS G ah a b c ls n a2 b2 c2 ls2 n2 (2 * i) ∧ env = [some (.seq (ns.map D.int)), some (.adr ah), some (.adr a), some (.adr c), some (.adr a2), some (.adr c2), some (.int (0 + (i : Nat))), y]) ?_ ?_
    · clear L
      rintro env1 G1 ⟨a2, b2, c2, ls2, n2, y, L, rfl⟩
      obtain ⟨u, hu, hU⟩ := L.x.hh
      simp
      simp only [sp__law_deed]
      refine ⟨u, ls, n, hu, hU, L.x.e1, L.x.l1.ok (by omega), L.x.ne.2.2.1, fun d h' hd hH' => ?_⟩
      have L' := L.hand hH'
      generalize ug G1 ah (.lst h') = G' at L' ⊢
      simp
      simp only [sp__law_called]
      refine ⟨b, ls, n, L'.x.d1, L'.x.l1.ok (by omega), hd, fun b' G'' hD hf hb => ?_⟩
      have L'' := L'.op hd hD hf hb
      have hk := (eff_ok hd L'.x.l1 L'.x.n1).2.2
      have hGc : G'' c = some (acc ls n) := hf _ _ L'.x.ne.2.2.2.2.1.symm L'.x.ne.2.2.2.2.2.symm L'.x.e1
      simp only [sp__law_did]
      refine ⟨ls, n, hGc, L'.x.l1.ok (by omega), L'.x.n1, hd, ?_⟩
      simp only [sp__law_is]
      refine ⟨trivial, hk, ?_⟩
      simp
      simp only [sp__law_is_disk]
      generalize ug G'' c (acc (eff ls n d).2.1 (eff ls n d).2.2) = G3 at L'' ⊢
      generalize (eff ls n d).2.1 = ls' at *
      generalize (eff ls n d).2.2 = n' at *
      refine ⟨b', ls', n', L''.x.d1, L''.x.e1, L''.x.l1.ok (by omega), ?_⟩
      simp [L''.x.d1.1]
      simp only [sp_Disk_lines]
      refine ⟨b', ls', n', L''.x.d1, fun p hp => ?_⟩
      have hlm := L''.x.l1.1
      have L4 := L''.new (o := .lst (ls'.map D.str ++ [.str s_29])) hp
      simp
      refine ⟨by omega, ?_⟩
      generalize ug G3 p (.lst (ls'.map D.str ++ [.str s_29])) = G4 at L4 ⊢
      refine .dec (fun e3 => ?_) (fun e3 => ?_)
      · have L5 := L4.swap
        obtain ⟨u5, hu5, hU5⟩ := L5.x.hh
        refine ⟨u5, hu5, hU5, ls2, ⟨n2, L5.x.e1⟩, L5.x.l1.ok (by omega), L5.x.ne.2.2.1, fun d5 h5 hd5 hH5 => ?_⟩
        have L6 := L5.hand hH5
        generalize ug G4 ah (.lst h5) = G6 at L6 ⊢
        refine ⟨b2, ls2, n2, L6.x.d1, L6.x.l1.ok (by omega), hd5, fun b5 G7 hD7 hf7 hb7 => ?_⟩
        have L7 := (L6.op hd5 hD7 hf7 hb7).swap
        have hk7 := (eff_ok hd5 L6.x.l1 L6.x.n1).2.2
        have hGc7 : G7 c2 = some (acc ls2 n2) := hf7 _ _ L6.x.ne.2.2.2.2.1.symm L6.x.ne.2.2.2.2.2.symm L6.x.e1
        refine ⟨ls2, n2, hGc7, L6.x.l1.ok (by omega), L6.x.n1, hd5, rfl, hk7, ?_⟩
        rw [← hfin]
        exact lp_end L7 (by omega) fun h' hH' => ⟨_, _, _, _, _, _, _, _, _, _, _, _, _, (L7.hand hH').up (by omega), rfl⟩
      · rw [← hfin]
        exact lp_end L4 (by omega) fun h' hH' => ⟨_, _, _, _, _, _, _, _, _, _, _, _, _, (L4.hand hH').up (by omega), rfl⟩
    · intro c2' hc
      obtain ⟨u, hu, hU⟩ := L.x.hh
      simp
      simp only [sp__law_draw]
      refine ⟨u, hu, hU, by decide, by decide, fun r8 h8 hr8 hH8 => ?_⟩
      have L8 := L.hand hH8
      generalize ug G1 ah (.lst h8) = G8 at L8 ⊢
      simp
      refine .dec (fun e8 => ?_) (fun e8 => hc _ _ ⟨a2, b2, c2, ls2, n2, y, L8, by simp⟩)
      simp [L8.x.d1.1]
      simp only [sp_Disk_copy]
      refine ⟨b, ls, n, L8.x.d1, fun p q hp hq hpq => ?_⟩
      have hcc : ug (ug G8 q (.lst (ls.map D.str))) p (dk0 q n) c = some (acc ls n) := by
        rw [ug_ne (ne_of_free L8.x.e1 hp), ug_ne (ne_of_free L8.x.e1 hq)]; exact L8.x.e1
      simp [hcc, acc]
      intro r9 hr9
      exact hc _ _ ⟨p, q, r9, ls, n, y, L8.x.copy hp hq hpq hr9, by simp⟩
  · rintro env1 G1 ⟨ah, a, b, c, ls, n, a2, b2, c2, ls2, n2, x, y, L, rfl⟩
    have hm : 2 * (rngD 0 (1 + (r : Int)).toNat).length ≤ 100 := by rw [rngD_len]; omega
    simp
    simp only [sp__law_is_disk]
    exact ⟨b, ls, n, L.x.d1, L.x.e1, L.x.l1.ok (Nat.le_trans hm (by decide)), rW.of (h _)⟩
end Kx
set_option maxHeartbeats 0
/-! k50: the defs joined, the head, the theorem. -/
namespace Kx
open PySem PySem.Spec PyProof.Rows L2 Dl
theorem law_ok {P : Program} {w : World} {K : PySem.W.Frag} {mg : Str → Option Value} {base : Heap} {fd : FuncData} (T : Tx K mg) (F : FunD K d35.name d35.qual d35.params d35.body d35.scope (d35.dvs K) (d35.kws K) (He.fAd K d35.at_) fd) : FnOk P w K mg base (L2.CX P w) 7 (He.fAd K d35.at_) fd ["_law_script"] (sp2 K sp_law) := by
  have h__law_hand : FnG P w K mg base "_law_hand" 1 (sp__law_hand) := ok__law_hand (k := 0) T  (by intro ds G k h; unfold sp__law_hand at h; split at h <;> first | rfl | exact h.elim) k__law_hand
  have h_Disk_init : FnC P w K mg base "Disk" 1 (sp_Disk_init) := ok_Disk_init (k := 0) T  (by intro ds G k h; unfold sp_Disk_init at h; split at h <;> first | rfl | exact h.elim) k_Disk_init
  have h_Disk_copy : FnM P w K mg base "Disk" "copy" 3 (sp_Disk_copy) := ok_Disk_copy (k := 2) (j := 1) T (h_Disk_init.mono (by decide)) (by decide) (by intro ds G k h; unfold sp_Disk_copy at h; split at h <;> first | rfl | exact h.elim) k_Disk_copy
  have h__law_draw : FnG P w K mg base "_law_draw" 1 (sp__law_draw) := ok__law_draw (k := 0) T  (by intro ds G k h; unfold sp__law_draw at h; split at h <;> first | rfl | exact h.elim) k__law_draw
  have h__law_any_sign : FnG P w K mg base "_law_any_sign" 2 (sp__law_any_sign) := ok__law_any_sign (k := 1) T (h__law_draw.mono (by decide)) (by intro ds G k h; unfold sp__law_any_sign at h; split at h <;> first | rfl | exact h.elim) k__law_any_sign
  have h__law_sign : FnG P w K mg base "_law_sign" 3 (sp__law_sign) := ok__law_sign (k := 2) T (h__law_any_sign.mono (by decide)) (h__law_draw.mono (by decide)) (by intro ds G k h; unfold sp__law_sign at h; split at h <;> first | rfl | exact h.elim) k__law_sign
  have h__law_text : FnG P w K mg base "_law_text" 4 (sp__law_text) := ok__law_text (k := 3) T (h__law_draw.mono (by decide)) (h__law_sign.mono (by decide)) (by intro ds G k h; unfold sp__law_text at h; split at h <;> first | rfl | exact h.elim) k__law_text
  have h__law_line : FnG P w K mg base "_law_line" 5 (sp__law_line) := ok__law_line (k := 4) T (h__law_draw.mono (by decide)) (h__law_text.mono (by decide)) (h__law_any_sign.mono (by decide)) (by intro ds G k h; unfold sp__law_line at h; split at h <;> first | rfl | exact h.elim) k__law_line
  have h__law_deed : FnG P w K mg base "_law_deed" 6 (sp__law_deed) := ok__law_deed (k := 5) T (h__law_draw.mono (by decide)) (h__law_line.mono (by decide)) (by intro ds G k h; unfold sp__law_deed at h; split at h <;> first | rfl | exact h.elim) k__law_deed
  have h__law_is_0 : FnG P w K mg base "_law_is" 1 (sp__law_is 0) := ok__law_is (k := 0) T (no__law_is T) (by intro ds G k h; unfold sp__law_is at h; split at h <;> first | rfl | exact h.elim) k__law_is0
  have h__law_is_1 : FnG P w K mg base "_law_is" 2 (sp__law_is 1) := ok__law_is (k := 1) T h__law_is_0 (by intro ds G k h; unfold sp__law_is at h; split at h <;> first | rfl | exact h.elim) (k__law_is (n := 0))
  have h__law_is_2 : FnG P w K mg base "_law_is" 3 (sp__law_is 2) := ok__law_is (k := 2) T h__law_is_1 (by intro ds G k h; unfold sp__law_is at h; split at h <;> first | rfl | exact h.elim) (k__law_is (n := 1))
  have h__law_is_3 : FnG P w K mg base "_law_is" 4 (sp__law_is 3) := ok__law_is (k := 3) T h__law_is_2 (by intro ds G k h; unfold sp__law_is at h; split at h <;> first | rfl | exact h.elim) (k__law_is (n := 2))
  have h__law_is := h__law_is_3
  have h__law_is_line : FnG P w K mg base "_law_is_line" 1 (sp__law_is_line) := ok__law_is_line (k := 0) T  (by intro ds G k h; unfold sp__law_is_line at h; split at h <;> first | rfl | exact h.elim) k__law_is_line
  have h__law_is_number : FnG P w K mg base "_law_is_number" 1 (sp__law_is_number) := ok__law_is_number (k := 0) T  (by intro ds G k h; unfold sp__law_is_number at h; split at h <;> first | rfl | exact h.elim) k__law_is_number
  have h__law_did : FnG P w K mg base "_law_did" 2 (sp__law_did) := ok__law_did (k := 1) T (h__law_is_line.mono (by decide)) (h__law_is_number.mono (by decide)) (by intro ds G k h; unfold sp__law_did at h; split at h <;> first | rfl | exact h.elim) k__law_did
  have h_are_signs : FnG P w K mg base "are_signs" 1 (sp_are_signs) := ok_are_signs (k := 0) T  (by intro ds G k h; unfold sp_are_signs at h; split at h <;> first | rfl | exact h.elim) k_are_signs
  have h_check_line : FnG P w K mg base "check_line" 2 (sp_check_line) := ok_check_line (k := 1) T (h_are_signs.mono (by decide)) (by intro ds G k h; unfold sp_check_line at h; split at h <;> first | rfl | exact h.elim) k_check_line
  have h_Disk_write : FnM P w K mg base "Disk" "write" 3 (sp_Disk_write) := ok_Disk_write (k := 2) T (h_check_line.mono (by decide)) (by intro ds G k h; unfold sp_Disk_write at h; split at h <;> first | rfl | exact h.elim) k_Disk_write
  have h_Disk_sync : FnM P w K mg base "Disk" "sync" 1 (sp_Disk_sync) := ok_Disk_sync (k := 0) T  (by intro ds G k h; unfold sp_Disk_sync at h; split at h <;> first | rfl | exact h.elim) k_Disk_sync
  have h_is_sized : FnG P w K mg base "is_sized" 1 (sp_is_sized) := ok_is_sized (k := 0) T  (by intro ds G k h; unfold sp_is_sized at h; split at h <;> first | rfl | exact h.elim) k_is_sized
  have h_is_integer : FnG P w K mg base "is_integer" 1 (sp_is_integer) := ok_is_integer (k := 0) T  (by intro ds G k h; unfold sp_is_integer at h; split at h <;> first | rfl | exact h.elim) k_is_integer
  have h_is_within : FnG P w K mg base "is_within" 2 (sp_is_within) := ok_is_within (k := 1) T (h_is_integer.mono (by decide)) (by intro ds G k h; unfold sp_is_within at h; split at h <;> first | rfl | exact h.elim) k_is_within
  have h_Disk_cut : FnM P w K mg base "Disk" "cut" 3 (sp_Disk_cut) := ok_Disk_cut (k := 2) T (h_is_sized.mono (by decide)) (h_is_within.mono (by decide)) (by intro ds G k h; unfold sp_Disk_cut at h; split at h <;> first | rfl | exact h.elim) k_Disk_cut
  have h_check_within : FnG P w K mg base "check_within" 3 (sp_check_within) := ok_check_within (k := 2) T (h_is_within.mono (by decide)) (by intro ds G k h; unfold sp_check_within at h; split at h <;> first | rfl | exact h.elim) k_check_within
  have h_Disk_drop : FnM P w K mg base "Disk" "drop" 4 (sp_Disk_drop) := ok_Disk_drop (k := 3) T (h_check_within.mono (by decide)) (by intro ds G k h; unfold sp_Disk_drop at h; split at h <;> first | rfl | exact h.elim) k_Disk_drop
  have h__law_called : FnG P w K mg base "_law_called" 5 (sp__law_called) := ok__law_called (k := 4) T (h_Disk_write.mono (by decide)) (h_Disk_sync.mono (by decide)) (h_Disk_cut.mono (by decide)) (h_Disk_drop.mono (by decide)) (by intro ds G k h; unfold sp__law_called at h; split at h <;> first | rfl | exact h.elim) k__law_called
  have h_Disk_synced : FnM P w K mg base "Disk" "synced" 1 (sp_Disk_synced) := ok_Disk_synced (k := 0) T  (by intro ds G k h; unfold sp_Disk_synced at h; split at h <;> first | rfl | exact h.elim) k_Disk_synced
  have h_Disk_lines : FnM P w K mg base "Disk" "lines" 1 (sp_Disk_lines) := ok_Disk_lines (k := 0) T  (by intro ds G k h; unfold sp_Disk_lines at h; split at h <;> first | rfl | exact h.elim) k_Disk_lines
  have h__law_is_disk : FnG P w K mg base "_law_is_disk" 5 (sp__law_is_disk) := ok__law_is_disk (k := 4) T (h__law_is.mono (by decide)) (h_Disk_synced.mono (by decide)) (h_Disk_lines.mono (by decide)) (by intro ds G k h; unfold sp__law_is_disk at h; split at h <;> first | rfl | exact h.elim) k__law_is_disk
  have h_raw_record : FnG P w K mg base "raw_record" 1 (sp_raw_record) := ok_raw_record (k := 0) T  (by intro ds G k h; unfold sp_raw_record at h; split at h <;> first | rfl | exact h.elim) k_raw_record
  have h_record : FnG P w K mg base "record" 3 (sp_record) := ok_record (k := 2) T (h_check_line.mono (by decide)) (h_raw_record.mono (by decide)) (by intro ds G k h; unfold sp_record at h; split at h <;> first | rfl | exact h.elim) k_record
  have h__law_record : FnG P w K mg base "_law_record" 1 (sp__law_record) := ok__law_record (k := 0) T  (by intro ds G k h; unfold sp__law_record at h; split at h <;> first | rfl | exact h.elim) k__law_record
  have h_number_of_word : FnG P w K mg base "number_of_word" 1 (sp_number_of_word) := ok_number_of_word (k := 0) T  (by intro ds G k h; unfold sp_number_of_word at h; split at h <;> first | rfl | exact h.elim) k_number_of_word
  have h_raw_contents : FnG P w K mg base "raw_contents" 2 (sp_raw_contents) := ok_raw_contents (k := 1) T (h_number_of_word.mono (by decide)) (by intro ds G k h; unfold sp_raw_contents at h; split at h <;> first | rfl | exact h.elim) k_raw_contents
  have h_read_record : FnG P w K mg base "read_record" 3 (sp_read_record) := ok_read_record (k := 2) T (h_check_line.mono (by decide)) (h_raw_contents.mono (by decide)) (by intro ds G k h; unfold sp_read_record at h; split at h <;> first | rfl | exact h.elim) k_read_record
  have h__law_contents : FnG P w K mg base "_law_contents" 1 (sp__law_contents) := ok__law_contents (k := 0) T  (by intro ds G k h; unfold sp__law_contents at h; split at h <;> first | rfl | exact h.elim) k__law_contents
  have h__law_are_records : FnG P w K mg base "_law_are_records" 6 (sp__law_are_records) := ok__law_are_records (k := 5) T (h__law_line.mono (by decide)) (h_record.mono (by decide)) (h__law_is.mono (by decide)) (h__law_record.mono (by decide)) (h_read_record.mono (by decide)) (h__law_draw.mono (by decide)) (h__law_any_sign.mono (by decide)) (h__law_contents.mono (by decide)) (by intro ds G k h; unfold sp__law_are_records at h; split at h <;> first | rfl | exact h.elim) k__law_are_records
  exact okF_law (k := 6) (j := 1) T F (h__law_hand.mono (by decide)) (h_Disk_init.mono (by decide)) (h_Disk_copy.mono (by decide)) (h__law_draw.mono (by decide)) (h__law_deed.mono (by decide)) (h__law_is.mono (by decide)) (h__law_did.mono (by decide)) (h__law_called.mono (by decide)) (h__law_is_disk.mono (by decide)) (h_Disk_lines.mono (by decide)) (h__law_are_records.mono (by decide)) (by decide) (by intro ds G k h; unfold sp_law at h; split at h <;> first | rfl | exact h.elim) k_law
abbrev R : PySem.W.OpenRow := PySem.W.OpenLaw.row PySem.Challenge.rw_everypiece_k50_whole_disks_and_records
abbrev hk : PySem.W.Hook := He.hookD 5 fa fn
def ob (s : PySem.W.SharedT) : He.AlD := He.obsDG 5 fa fn (HandSHeadRun.getT s)
theorem ob_eq (s : PySem.W.SharedT) : ob s = hk.obs s.abs := He.obsDG_eq (HandSHeadRun.getT_eq s)
theorem run (w : World) : HandSHeadRun.RunEq R (PySem.W.view R.prog [40]) hk ob 6000 loose w := by
  intro os
  kernel_rfl
end Kx
open PySem PySem.W PySem.Calls PyProof.Rows
theorem PySem.Challenge.cw_everypiece_k50_whole_disks_and_records_holds : PySem.Challenge.rw_everypiece_k50_whole_disks_and_records.Holds := by
  w_on; o_law
  refine HandSHeadRun.head_any (r := OpenLaw.row PySem.Challenge.rw_everypiece_k50_whole_disks_and_records) (q := view (OpenLaw.row PySem.Challenge.rw_everypiece_k50_whole_disks_and_records).prog [40]) (H := Kx.hk) (ob := Kx.ob) (M := 6000) (loose := Kx.loose) (d := HandSHeadRun.topDef (OpenLaw.row PySem.Challenge.rw_everypiece_k50_whole_disks_and_records).prog 40) (kwd := []) Kx.ob_eq
    (by kernel_rfl) (fun s => by kernel_rfl) Kx.run (by kernel_rfl) (by kernel_rfl) (by kernel_rfl) (by rfl) (by first | assumption | decide +kernel) (by decide +kernel) ⟨rfl, rfl, rfl, rfl, rfl, by decide +kernel⟩ ?hw ?hc
  case hw => w_witness2
  case hc =>
    refine L2.walk_ofE (l := PySem.Challenge.rw_everypiece_k50_whole_disks_and_records) (n := 63) (k := 7) (x := "_law_script") (CX := fun _ _ _ _ _ _ => False) rfl (by decide) (by kernel_rfl) ⟨rfl, by decide, by decide⟩ ?F (fun _ _ _ _ z => z)
    intro w mg fa h Y G hmg0
    obtain ⟨K, X, c⟩ := Y
    have hmg : mg ("law" : PySem.Str) = some (.ref fa) := by
      have e : (HandSHeadRun.topDef (OpenLaw.row PySem.Challenge.rw_everypiece_k50_whole_disks_and_records).prog 40).name = ("law" : PySem.Str) := by kernel_rfl
      rw [← e]
      exact hmg0
    have T : Kx.Tx K mg := ⟨⟨h, X, G⟩, c⟩
    obtain ⟨fd, F⟩ := T.c.def_ 35 (d := Kx.d35) rfl
    have e := hmg.symm.trans (T.glo 61)
    cases e
    have b := L2.FunD.bindsA (ps := ["_law_script"]) F fun _ _ _ _ _ _ us hl => match us, hl with | [_], _ => rfl
    exact ⟨K, fd, fun vs H Q _ => Dl.sp2 K Kx.sp_law vs H Q fun _ _ _ => False, X, fun s v => b s [v] rfl, fun H a ns hl _ hS => Dl.law_sp hS fun G k hk => ⟨ns, rfl, hl, hk⟩, fun base _ _ => Dl.fn_quiet (Kx.law_ok T F)⟩
