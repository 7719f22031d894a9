import PyProof.Rows.All
import Wide.All
import OpenK.AllK
import Wide.FinOn
import HandS.ForMost
import HandS.Wide
import HandS.IsInst
import HandS.Zip
import HandS.Conv
import HandS.Style
import HandS.Flow
import HandS.Deep
import HandS.TupAny
import HandS.TupMul
import HandS.Exc
import HandS.TryOnly
import HandS.ExcOwn
import HandS.WordsExc
import HandS.ExcInit
import HandS.RaiseMore
import KE.GoesComp
import KE.GoesRaise
import HandS.ExcField
import PyProof.ReprRoads
import HandS.Ends
import HandS.CallSlots
import HandS.Defaults
import HandS.TupSets
import KE.GoesMore
import KE.GoesEnum
import HandS.OwnEq
import HandS.More
import HandS.Codes
import PyProof.P3Eq
import HandS.TryMany
import HandS.Lambda
import HandS.EndTab
import KE.KNestM
import KE.KLam
import Open.SpecLaws
import KE.OsGo
import HandS.ForSpec
import PySem.Challenge.RW_allscales_k77_whole_letters_become_one
set_option Elab.async false
set_option linter.all false
set_option maxRecDepth 100000
set_option maxHeartbeats 4000000
set_option exponentiation.threshold 40000
/-! AS1: the abstract state over the layer: data D, slots En, owned objects Cn; ST says how a heap bears them; EV, EA, ET, SD evaluate readings over it. -/
namespace AS
open PySem L2

/-- immutable data -/
inductive D where
  | non | bl (b : Bool) | int (i : Int) | str (x : Str) | ty (n : String) | rf (a : Addr)
  | tup (l : List D) | lst (l : List D) | rl (l : List D) | obj (C : Addr) (ns : List Str) (l : List D) | key (l : List Int) | kd (ks : List (List Int)) (l : List D)

mutual
inductive Dt (K : PySem.W.Frag) (H : Hp) : V → D → Prop
  | non : Dt K H .non .non
  | bl (b : Bool) : Dt K H (.bl b) (.bl b)
  | int (i : Int) : Dt K H (.int i) (.int i)
  | str (x : Str) : Dt K H (.str x) (.str x)
  | ty (n : String) : Dt K H (.ty n) (.ty n)
  | rf (a : Addr) : Dt K H (.ref a) (.rf a)
  | tup {a : Addr} {xs : List V} {l : List D} : SqT K H a xs → DtA K H xs l → Dt K H (.ref a) (.tup l)
  | lst {a : Addr} {xs : List V} {l : List D} : H a = some (.lst xs) → DtA K H xs l → Dt K H (.ref a) (.lst l)
  | rl {a : Addr} {xs : List V} {l : List D} : SqL K H a xs → DtA K H xs l → Dt K H (.ref a) (.rl l)
  | obj {a C dx : Addr} {fs : List (Str × V)} {ns : List Str} {l : List D} : H a = some (.ins C dx fs) → fs.map (·.1) = ns → DtA K H (fs.map (·.2)) l → Dt K H (.ref a) (.obj C ns l)
  | key {a : Addr} {l : List Int} : H a = some (.tup (l.map V.int)) → Dt K H (.ref a) (.key l)
  | kd {a : Addr} {od : Obj} {ys : List (List Key × V)} {ks : List (List Int)} {l : List D} : H a = some (.frz od (.dT ys)) → ys.map (·.1) = ks.map (fun k => k.map Sum.inl) → DtA K H (ys.map (·.2)) l → Dt K H (.ref a) (.kd ks l)
inductive DtA (K : PySem.W.Frag) (H : Hp) : List V → List D → Prop
  | nil : DtA K H [] []
  | cons {v : V} {vs : List V} {d : D} {ds : List D} : Dt K H v d → DtA K H vs ds → DtA K H (v :: vs) (d :: ds)
end

theorem same_l {K : PySem.W.Frag} {H H' : Hp} {a : Addr} {xs : List V} (e : Same H H') (h : SqL K H a xs) : SqL K H' a xs := e.seq h
theorem same_rd {H H' : Hp} {a : Addr} {u : HO} (e : Same H H') (h : Rd H a u) : Rd H' a u := by
  rcases h with h | ⟨o, h⟩
  · exact .inl (e _ _ h)
  · exact .inr ⟨o, e _ _ h⟩
theorem same_t {K : PySem.W.Frag} {H H' : Hp} {a : Addr} {xs : List V} (e : Same H H') (h : SqT K H a xs) : SqT K H' a xs := by
  rcases h with (h | ⟨o, h⟩) | h
  · exact .inl (.inl (e _ _ h))
  · exact .inl (.inr ⟨o, e _ _ h⟩)
  · exact .inr h

mutual
theorem Dt.mono {K : PySem.W.Frag} {H H' : Hp} (e : Same H H') : ∀ (d : D) (v : V), Dt K H v d → Dt K H' v d
  | .non, _, .non => .non
  | .bl _, _, .bl b => .bl b
  | .int _, _, .int b => .int b
  | .str _, _, .str b => .str b
  | .ty _, _, .ty b => .ty b
  | .rf _, _, .rf b => .rf b
  | .tup l, _, .tup h1 h2 => .tup (same_t e h1) (DtA.mono e l _ h2)
  | .lst l, _, .lst h1 h2 => .lst (e _ _ h1) (DtA.mono e l _ h2)
  | .rl l, _, .rl h1 h2 => .rl (same_l e h1) (DtA.mono e l _ h2)
  | .obj _ _ l, _, .obj h1 h2 h3 => .obj (e _ _ h1) h2 (DtA.mono e l _ h3)
  | .key _, _, .key h1 => .key (e _ _ h1)
  | .kd _ l, _, .kd h1 h2 h3 => .kd (e _ _ h1) h2 (DtA.mono e l _ h3)
theorem DtA.mono {K : PySem.W.Frag} {H H' : Hp} (e : Same H H') : ∀ (ds : List D) (vs : List V), DtA K H vs ds → DtA K H' vs ds
  | [], _, .nil => .nil
  | d :: ds, _, .cons h1 h2 => .cons (Dt.mono e d _ h1) (DtA.mono e ds _ h2)
end
theorem DtA.length {K : PySem.W.Frag} {H : Hp} : ∀ {vs : List V} {ds : List D}, DtA K H vs ds → vs.length = ds.length
  | _, _, .nil => rfl
  | _, _, .cons _ h => by simp [DtA.length h]
theorem DtA.get {K : PySem.W.Frag} {H : Hp} : ∀ {vs : List V} {ds : List D} {i : Nat} {d : D}, DtA K H vs ds → ds[i]? = some d → ∃ v, vs[i]? = some v ∧ Dt K H v d
  | _, _, _, _, .nil, e => by simp at e
  | _, _, 0, _, .cons h _, e => by simp at e; subst e; exact ⟨_, rfl, h⟩
  | _, _, i + 1, _, .cons _ t, e => by
    obtain ⟨v, h1, h2⟩ := DtA.get (i := i) t (by simpa using e)
    exact ⟨v, by simpa using h1, h2⟩
theorem DtA.getV {K : PySem.W.Frag} {H : Hp} {vs : List V} {ds : List D} {i : Nat} {v : V} (h : DtA K H vs ds) (e : vs[i]? = some v) : ∃ d, ds[i]? = some d ∧ Dt K H v d := by
  have hl := h.length
  have hi : i < vs.length := (List.getElem?_eq_some_iff.mp e).1
  obtain ⟨w, h1, h2⟩ := h.get (i := i) (d := ds[i]'(by omega)) (by simp)
  rw [e] at h1; cases h1
  exact ⟨_, by simp, h2⟩
theorem DtA.append {K : PySem.W.Frag} {H : Hp} : ∀ {vs ws : List V} {ds es : List D}, DtA K H vs ds → DtA K H ws es → DtA K H (vs ++ ws) (ds ++ es)
  | _, _, _, _, .nil, h => h
  | _, _, _, _, .cons h t, k => .cons h (DtA.append t k)
theorem DtA.ints {K : PySem.W.Frag} {H : Hp} : ∀ (ns : List Int), DtA K H (ns.map V.int) (ns.map D.int)
  | [] => .nil
  | n :: r => .cons (.int n) (DtA.ints r)
theorem DtA.ints_of {K : PySem.W.Frag} {H : Hp} : ∀ {vs : List V} (ns : List Int), DtA K H vs (ns.map D.int) → vs = ns.map V.int
  | _, [], .nil => rfl
  | _, n :: r, .cons h t => by cases h; rw [DtA.ints_of r t]; rfl

/-- what a slot bears: nothing told, data, the owned object number i -/
inductive En where
  | un | dat (d : D) | ptr (i : Nat)
/-- an owned object: given up, a list, a dict, an instance -/
inductive Cn where
  | gone | lst (l : List En) | dct (kvs : List (Key × En)) | ins (C : Addr) (fs : List (Str × En)) | dt (kvs : List (List Int × D))

def RE (K : PySem.W.Frag) (Hb : Hp) (as : List Addr) (v : V) : En → Prop
  | .un => True
  | .dat d => Dt K Hb v d
  | .ptr i => ∃ a, as[i]? = some a ∧ v = .ref a
def RS (K : PySem.W.Frag) (Hb : Hp) (as : List Addr) (o : Option (Option V)) : En → Prop
  | .un => True
  | .dat d => ∃ v, o = some (some v) ∧ Dt K Hb v d
  | .ptr i => ∃ a, as[i]? = some a ∧ o = some (some (.ref a))
/-- a dict whose keys are tuples of whole numbers -/
def KD (K : PySem.W.Frag) (Hb : Hp) : List Key × V → List Int × D → Prop := fun p q => p.1 = q.1.map Sum.inl ∧ Dt K Hb p.2 q.2
def RC (K : PySem.W.Frag) (Hb : Hp) (as : List Addr) (H : Hp) (a : Addr) : Cn → Prop
  | .gone => True
  | .lst l => ∃ xs, H a = some (.lst xs) ∧ Paired (RE K Hb as) xs l
  | .dct kvs => ∃ ys, H a = some (.dK ys) ∧ Paired (fun (p : Key × V) (q : Key × En) => p.1 = q.1 ∧ RE K Hb as p.2 q.2) ys kvs
  | .ins C fs => ∃ dx ys, H a = some (.ins C dx ys) ∧ Paired (fun (p : Str × V) (q : Str × En) => p.1 = q.1 ∧ RE K Hb as p.2 q.2) ys fs
  | .dt kvs => ∃ ys, H a = some (.dT ys) ∧ Paired (KD K Hb) ys kvs
def live : Cn → Bool
  | .gone => false
  | _ => true
def Gr (as as' : List Addr) : Prop := ∃ bs, as' = as ++ bs
theorem Gr.refl (as : List Addr) : Gr as as := ⟨[], by simp⟩
theorem Gr.trans {a b c : List Addr} (h : Gr a b) (k : Gr b c) : Gr a c := by
  obtain ⟨x, rfl⟩ := h
  obtain ⟨y, rfl⟩ := k
  exact ⟨x ++ y, by simp⟩
theorem Gr.get {as as' : List Addr} (h : Gr as as') {i : Nat} {a : Addr} (e : as[i]? = some a) : as'[i]? = some a := by
  obtain ⟨x, rfl⟩ := h
  have := (List.getElem?_eq_some_iff.mp e).1
  rw [List.getElem?_append_left this]; exact e

/-- no tuple -/
def NT (o : HO) : Prop := ∀ xs, o ≠ .tup xs
theorem NT.lst {l : List V} : NT (.lst l) := fun _ e => nomatch e
structure ST (K : PySem.W.Frag) (F Hb H : Hp) (σ : L2.St) (es : List En) (W : List Cn) (as : List Addr) : Prop where
  base : Same Hb H
  frm : Same F H
  dis : ∀ a o, F a = some o → Hb a = none ∧ NT o
  len : as.length = W.length
  own : ∀ (i : Nat) (a : Addr) (c : Cn), as[i]? = some a → W[i]? = some c → live c = true → Hb a = none ∧ F a = none ∧ RC K Hb as H a c
  inj : ∀ (i j : Nat) (a : Addr) (c d : Cn), as[i]? = some a → as[j]? = some a → W[i]? = some c → W[j]? = some d → live c = true → live d = true → i = j
  sl : σ.length = es.length
  slot : ∀ (i : Nat) (e : En), es[i]? = some e → RS K Hb as σ[i]? e

section
variable {K : PySem.W.Frag} {F Hb Hb' H H' : Hp} {as as' : List Addr} {v : V} {e : En} {o : Option (Option V)}
theorem RE.mono (g : Gr as as') (s : Same Hb Hb') (h : RE K Hb as v e) : RE K Hb' as' v e := by
  cases e with
  | un => trivial
  | dat d => exact Dt.mono s d v h
  | ptr i => obtain ⟨a, h1, h2⟩ := h; exact ⟨a, g.get h1, h2⟩
theorem RS.mono (g : Gr as as') (s : Same Hb Hb') (h : RS K Hb as o e) : RS K Hb' as' o e := by
  cases e with
  | un => trivial
  | dat d => obtain ⟨v, h1, h2⟩ := h; exact ⟨v, h1, Dt.mono s d v h2⟩
  | ptr i => obtain ⟨a, h1, h2⟩ := h; exact ⟨a, g.get h1, h2⟩
theorem RS.of (h : RE K Hb as v e) : RS K Hb as (some (some v)) e := by
  cases e with
  | un => trivial
  | dat d => exact ⟨v, rfl, h⟩
  | ptr i => obtain ⟨a, h1, h2⟩ := h; exact ⟨a, h1, by rw [h2]⟩
theorem paired_mono {α β : Type} {P Q : α → β → Prop} (h : ∀ a b, P a b → Q a b) : ∀ {l : List α} {m : List β}, Paired P l m → Paired Q l m
  | _, _, .nil => .nil
  | _, _, .cons r t => .cons (h _ _ r) (paired_mono h t)
theorem RC.mono {a : Addr} {c : Cn} (g : Gr as as') (s : Same Hb Hb') (hH : H' a = H a) (h : RC K Hb as H a c) : RC K Hb' as' H' a c := by
  cases c with
  | gone => trivial
  | lst l => obtain ⟨xs, h1, h2⟩ := h; exact ⟨xs, by rw [hH]; exact h1, paired_mono (fun _ _ => RE.mono g s) h2⟩
  | dct l => obtain ⟨xs, h1, h2⟩ := h; exact ⟨xs, by rw [hH]; exact h1, paired_mono (fun _ _ r => ⟨r.1, RE.mono g s r.2⟩) h2⟩
  | ins C l => obtain ⟨dx, xs, h1, h2⟩ := h; exact ⟨dx, xs, by rw [hH]; exact h1, paired_mono (fun _ _ r => ⟨r.1, RE.mono g s r.2⟩) h2⟩
  | dt l => obtain ⟨xs, h1, h2⟩ := h; exact ⟨xs, by rw [hH]; exact h1, paired_mono (fun _ _ r => ⟨r.1, Dt.mono s _ _ r.2⟩) h2⟩
theorem RC.some {a : Addr} {c : Cn} (hl : live c = true) (h : RC K Hb as H a c) : ∃ o, H a = some o := by
  cases c with
  | gone => cases hl
  | lst l => obtain ⟨xs, h1, _⟩ := h; exact ⟨_, h1⟩
  | dct l => obtain ⟨xs, h1, _⟩ := h; exact ⟨_, h1⟩
  | ins C l => obtain ⟨dx, xs, h1, _⟩ := h; exact ⟨_, h1⟩
  | dt l => obtain ⟨xs, h1, _⟩ := h; exact ⟨_, h1⟩
theorem RC.nt {a : Addr} {c : Cn} (hl : live c = true) (h : RC K Hb as H a c) (xs : List V) : H a ≠ Option.some (HO.tup xs) := by
  intro e
  cases c with
  | gone => cases hl
  | lst l => obtain ⟨xs, h1, _⟩ := h; rw [h1] at e; cases e
  | dct l => obtain ⟨xs, h1, _⟩ := h; rw [h1] at e; cases e
  | ins C l => obtain ⟨dx, xs, h1, _⟩ := h; rw [h1] at e; cases e
  | dt l => obtain ⟨xs, h1, _⟩ := h; rw [h1] at e; cases e
end

section
variable {K : PySem.W.Frag} {F Hb H : Hp} {σ : L2.St} {es : List En} {W : List Cn} {as : List Addr}
/-- a new object is laid: it joins the base -/
theorem ST.new {p : Addr} {o : HO} (S : ST K F Hb H σ es W as) (hp : H p = none) : ST K F (upd Hb p o) (upd H p o) σ es W as ∧ Same Hb (upd Hb p o) := by
  have hb : Hb p = none := S.base.free hp
  have hF : F p = none := S.frm.free hp
  have s1 : Same Hb (upd Hb p o) := fun a u e => by rw [upd_ne (ne_of_none e hb)]; exact e
  refine ⟨⟨fun a u e => ?_, fun a u e => ?_, fun a u e => ?_, S.len, fun i a c h1 h2 h3 => ?_, S.inj, S.sl, fun i e h => RS.mono (Gr.refl _) s1 (S.slot i e h)⟩, s1⟩
  · by_cases h : a = p
    · subst h; rw [upd_same] at e ⊢; exact e
    · rw [upd_ne h] at e ⊢; exact S.base a u e
  · rw [upd_ne (ne_of_none (S.frm a u e) hp)]; exact S.frm a u e
  · have z := S.dis a u e; exact ⟨by rw [upd_ne (ne_of_none (S.frm a u e) hp)]; exact z.1, z.2⟩
  · obtain ⟨k1, k2, k3⟩ := S.own i a c h1 h2 h3
    obtain ⟨u, hu⟩ := k3.some h3
    have ne : a ≠ p := ne_of_none hu hp
    refine ⟨by rw [upd_ne ne]; exact k1, k2, k3.mono (Gr.refl _) s1 (by rw [upd_ne ne])⟩
/-- a slot is set -/
theorem ST.set {i : Nat} {v : V} {e : En} (S : ST K F Hb H σ es W as) (h : RE K Hb as v e) : ST K F Hb H (σ.set i (some v)) (es.set i e) W as := by
  refine ⟨S.base, S.frm, S.dis, S.len, S.own, S.inj, by simp [S.sl], fun j u hu => ?_⟩
  by_cases hj : i = j
  · subst hj
    by_cases hlt : i < es.length
    · rw [List.getElem?_set_self hlt] at hu; cases hu
      rw [List.getElem?_set_self (by rw [S.sl]; exact hlt)]
      exact RS.of h
    · rw [List.getElem?_eq_none (by simpa using hlt)] at hu; cases hu
  · rw [List.getElem?_set_ne hj] at hu ⊢
    exact S.slot j u hu
theorem ST.unset {i : Nat} (S : ST K F Hb H σ es W as) : ST K F Hb H (σ.set i none) (es.set i .un) W as := by
  refine ⟨S.base, S.frm, S.dis, S.len, S.own, S.inj, by simp [S.sl], fun j u hu => ?_⟩
  by_cases hj : i = j
  · subst hj
    by_cases hlt : i < es.length
    · rw [List.getElem?_set_self hlt] at hu; cases hu
      trivial
    · rw [List.getElem?_eq_none (by simpa using hlt)] at hu; cases hu
  · rw [List.getElem?_set_ne hj] at hu ⊢
    exact S.slot j u hu
/-- an owned object is written -/
theorem ST.write {i : Nat} {a : Addr} {c c' : Cn} {o : HO} (S : ST K F Hb H σ es W as) (h1 : as[i]? = some a) (h2 : W[i]? = some c) (h3 : live c = true) (hc : RC K Hb as (upd H a o) a c') : ST K F Hb (upd H a o) σ es (W.set i c') as := by
  obtain ⟨k1, k2, k3⟩ := S.own i a c h1 h2 h3
  refine ⟨fun b u e => ?_, fun b u e => ?_, S.dis, by simp [S.len], fun j b d g1 g2 g3 => ?_, fun j k b d d' g1 g2 g3 g4 g5 g6 => ?_, S.sl, S.slot⟩
  · rw [upd_ne (ne_of_none e k1)]; exact S.base b u e
  · rw [upd_ne (ne_of_none e k2)]; exact S.frm b u e
  · by_cases hj : i = j
    · subst hj
      rw [h1] at g1; cases g1
      have hlt : i < W.length := (List.getElem?_eq_some_iff.mp h2).1
      rw [List.getElem?_set_self hlt] at g2; cases g2
      exact ⟨k1, k2, hc⟩
    · rw [List.getElem?_set_ne hj] at g2
      obtain ⟨m1, m2, m3⟩ := S.own j b d g1 g2 g3
      have ne : b ≠ a := fun q => by subst q; exact hj (S.inj i j b c d h1 g1 h2 g2 h3 g3)
      exact ⟨m1, m2, m3.mono (Gr.refl _) (Same.refl _) (by rw [upd_ne ne])⟩
  · have aux : ∀ (j : Nat) (d : Cn), (W.set i c')[j]? = some d → live d = true → as[j]? = some b → ∃ d0, W[j]? = some d0 ∧ live d0 = true := fun j d g q _ => by
      by_cases hj : i = j
      · subst hj; exact ⟨c, h2, h3⟩
      · rw [List.getElem?_set_ne hj] at g; exact ⟨d, g, q⟩
    obtain ⟨d0, q1, q2⟩ := aux j d g3 g5 g1
    obtain ⟨d1, q3, q4⟩ := aux k d' g4 g6 g2
    exact S.inj j k b d0 d1 g1 g2 q1 q3 q2 q4
/-- a new owned object -/
theorem ST.newOwn {p : Addr} {o : HO} {c : Cn} (S : ST K F Hb H σ es W as) (hp : H p = none) (hc : RC K Hb (as ++ [p]) (upd H p o) p c) : ST K F Hb (upd H p o) σ es (W ++ [c]) (as ++ [p]) := by
  have hb : Hb p = none := S.base.free hp
  have hF : F p = none := S.frm.free hp
  have g : Gr as (as ++ [p]) := ⟨[p], rfl⟩
  have old : ∀ (j : Nat) (b : Addr) (d : Cn), (as ++ [p])[j]? = some b → (W ++ [c])[j]? = some d → (as[j]? = some b ∧ W[j]? = some d) ∨ (b = p ∧ d = c ∧ j = as.length) := fun j b d h1 h2 => by
    by_cases hj : j < as.length
    · rw [List.getElem?_append_left hj] at h1
      rw [List.getElem?_append_left (by rw [← S.len]; exact hj)] at h2
      exact .inl ⟨h1, h2⟩
    · have hl : j < (as ++ [p]).length := (List.getElem?_eq_some_iff.mp h1).1
      have e : j = as.length := by simp at hl; omega
      subst e
      rw [List.getElem?_append_right (Nat.le_refl _)] at h1
      rw [S.len, List.getElem?_append_right (Nat.le_refl _)] at h2
      simp at h1 h2
      exact .inr ⟨h1.symm, h2.symm, rfl⟩
  have liveNe : ∀ (j : Nat) (b : Addr) (d : Cn), as[j]? = some b → W[j]? = some d → live d = true → b ≠ p := fun j b d h1 h2 h3 => by
    obtain ⟨_, _, k3⟩ := S.own j b d h1 h2 h3
    obtain ⟨u, hu⟩ := k3.some h3
    exact ne_of_none hu hp
  refine ⟨fun b u e => ?_, fun b u e => ?_, S.dis, by simp [S.len], fun j b d g1 g2 g3 => ?_, fun j k b d d' g1 g2 g3 g4 g5 g6 => ?_, S.sl, fun j e h => RS.mono g (Same.refl _) (S.slot j e h)⟩
  · rw [upd_ne (ne_of_none e hb)]; exact S.base b u e
  · rw [upd_ne (ne_of_none e hF)]; exact S.frm b u e
  · rcases old j b d g1 g2 with ⟨q1, q2⟩ | ⟨rfl, rfl, rfl⟩
    · obtain ⟨k1, k2, k3⟩ := S.own j b d q1 q2 g3
      exact ⟨k1, k2, k3.mono g (Same.refl _) (by rw [upd_ne (liveNe j b d q1 q2 g3)])⟩
    · exact ⟨hb, hF, hc⟩
  · rcases old j b d g1 g3 with ⟨q1, q2⟩ | ⟨rfl, rfl, rfl⟩
    · rcases old k b d' g2 g4 with ⟨q3, q4⟩ | ⟨rfl, rfl, rfl⟩
      · exact S.inj j k b d d' q1 q3 q2 q4 g5 g6
      · exact absurd rfl (liveNe j b d q1 q2 g5)
    · rcases old k b d' g2 g4 with ⟨q3, q4⟩ | ⟨_, rfl, rfl⟩
      · exact absurd rfl (liveNe k b d' q3 q4 g6)
      · rfl
/-- an owned list of data is given up: it is data from here on -/
theorem DtA.of_dat {xs : List V} : ∀ {l : List D} {xs : List V}, Paired (RE K Hb as) xs (l.map En.dat) → DtA K Hb xs l
  | [], _, .nil => .nil
  | d :: l, _, .cons h t => .cons h (DtA.of_dat (l := l) (xs := xs) t)
theorem DtA.to_dat : ∀ {l : List D} {xs : List V}, DtA K Hb xs l → Paired (RE K Hb as) xs (l.map En.dat)
  | [], _, .nil => .nil
  | d :: l, _, .cons h t => .cons h (DtA.to_dat t)
theorem ST.freeze {i : Nat} {a : Addr} {l : List D} (S : ST K F Hb H σ es W as) (h1 : as[i]? = some a) (h2 : W[i]? = some (.lst (l.map En.dat))) :
    ∃ Hb', Same Hb Hb' ∧ ST K F Hb' H σ es (W.set i .gone) as ∧ Dt K Hb' (.ref a) (.lst l) := by
  obtain ⟨k1, k2, xs, k3, k4⟩ := S.own i a _ h1 h2 rfl
  have s1 : Same Hb (upd Hb a (.lst xs)) := fun b u e => by rw [upd_ne (ne_of_none e k1)]; exact e
  refine ⟨upd Hb a (.lst xs), s1, ⟨fun b u e => ?_, S.frm, fun b u e => ?_, by simp [S.len], fun j b d g1 g2 g3 => ?_, fun j k b d d' g1 g2 g3 g4 g5 g6 => ?_, S.sl, fun j e h => RS.mono (Gr.refl _) s1 (S.slot j e h)⟩, .lst upd_same (DtA.mono s1 _ _ (DtA.of_dat (xs := xs) k4))⟩
  · by_cases hb : b = a
    · subst hb; rw [upd_same] at e; cases e; exact k3
    · rw [upd_ne hb] at e; exact S.base b u e
  · have nb : b ≠ a := fun q => by subst q; rw [k2] at e; cases e
    have z := S.dis b u e; exact ⟨by rw [upd_ne nb]; exact z.1, z.2⟩
  · by_cases hj : i = j
    · subst hj
      have hlt : i < W.length := (List.getElem?_eq_some_iff.mp h2).1
      rw [List.getElem?_set_self hlt] at g2; cases g2; cases g3
    · rw [List.getElem?_set_ne hj] at g2
      obtain ⟨m1, m2, m3⟩ := S.own j b d g1 g2 g3
      have ne : b ≠ a := fun q => by subst q; exact hj (S.inj i j b _ d h1 g1 h2 g2 rfl g3)
      exact ⟨by rw [upd_ne ne]; exact m1, m2, m3.mono (Gr.refl _) s1 rfl⟩
  · have aux : ∀ (j : Nat) (d : Cn), (W.set i Cn.gone)[j]? = some d → live d = true → W[j]? = some d := fun j d g q => by
      by_cases hj : i = j
      · subst hj
        have hlt : i < W.length := (List.getElem?_eq_some_iff.mp h2).1
        rw [List.getElem?_set_self hlt] at g; cases g; cases q
      · rw [List.getElem?_set_ne hj] at g; exact g
    exact S.inj j k b d d' g1 g2 (aux j d g3 g5) (aux k d' g4 g6) g5 g6
theorem KD.lists : ∀ {ys : List (List Key × V)} {kvs : List (List Int × D)}, Paired (KD K Hb) ys kvs → ys.map (·.1) = (kvs.map (·.1)).map (fun k => k.map Sum.inl) ∧ DtA K Hb (ys.map (·.2)) (kvs.map (·.2))
  | _, _, .nil => ⟨rfl, .nil⟩
  | _, _, .cons r t => by
    obtain ⟨e1, e2⟩ := KD.lists t
    exact ⟨by simp only [List.map_cons]; rw [e1, r.1], .cons r.2 e2⟩
/-- a dict that is locked for good is data from here on -/
theorem ST.freezeT {i : Nat} {a : Addr} {kvs : List (List Int × D)} (S : ST K F Hb H σ es W as) (h1 : as[i]? = some a) (h2 : W[i]? = some (.dt kvs)) :
    ∃ ys, H a = some (.dT ys) ∧ ∀ od, ∃ Hb', Same Hb Hb' ∧ ST K F Hb' (upd H a (.frz od (.dT ys))) σ es (W.set i .gone) as ∧ Dt K Hb' (.ref a) (.kd (kvs.map (·.1)) (kvs.map (·.2))) := by
  obtain ⟨k1, k2, ys, k3, k4⟩ := S.own i a _ h1 h2 rfl
  refine ⟨ys, k3, fun od => ?_⟩
  have s1 : Same Hb (upd Hb a (.frz od (.dT ys))) := fun b u e => by rw [upd_ne (ne_of_none e k1)]; exact e
  obtain ⟨e1, e2⟩ := KD.lists k4
  refine ⟨upd Hb a (.frz od (.dT ys)), s1, ⟨fun b u e => ?_, fun b u e => ?_, fun b u e => ?_, by simp [S.len], fun j b d g1 g2 g3 => ?_, fun j k b d d' g1 g2 g3 g4 g5 g6 => ?_, S.sl, fun j e h => RS.mono (Gr.refl _) s1 (S.slot j e h)⟩, .kd upd_same e1 (DtA.mono s1 _ _ e2)⟩
  · by_cases hb : b = a
    · subst hb; rw [upd_same] at e ⊢; exact e
    · rw [upd_ne hb] at e ⊢; exact S.base b u e
  · rw [upd_ne (ne_of_none e k2)]; exact S.frm b u e
  · have nb : b ≠ a := fun q => by subst q; rw [k2] at e; cases e
    have z := S.dis b u e; exact ⟨by rw [upd_ne nb]; exact z.1, z.2⟩
  · by_cases hj : i = j
    · subst hj
      have hlt : i < W.length := (List.getElem?_eq_some_iff.mp h2).1
      rw [List.getElem?_set_self hlt] at g2; cases g2; cases g3
    · rw [List.getElem?_set_ne hj] at g2
      obtain ⟨m1, m2, m3⟩ := S.own j b d g1 g2 g3
      have ne : b ≠ a := fun q => by subst q; exact hj (S.inj i j b _ d h1 g1 h2 g2 rfl g3)
      exact ⟨by rw [upd_ne ne]; exact m1, m2, m3.mono (Gr.refl _) s1 (by rw [upd_ne ne])⟩
  · have aux : ∀ (j : Nat) (d : Cn), (W.set i Cn.gone)[j]? = some d → live d = true → W[j]? = some d := fun j d g q => by
      by_cases hj : i = j
      · subst hj
        have hlt : i < W.length := (List.getElem?_eq_some_iff.mp h2).1
        rw [List.getElem?_set_self hlt] at g; cases g; cases q
      · rw [List.getElem?_set_ne hj] at g; exact g
    exact S.inj j k b d d' g1 g2 (aux j d g3 g5) (aux k d' g4 g6) g5 g6
/-- a tuple that stands in the heap joins the base -/
theorem ST.known {q : Addr} {xs : List V} (S : ST K F Hb H σ es W as) (hq : H q = some (.tup xs)) : ∃ Hb', Same Hb Hb' ∧ ST K F Hb' H σ es W as ∧ Hb' q = some (.tup xs) := by
  cases hb : Hb q with
  | some o =>
    have z := S.base q o hb
    rw [hq] at z; cases z
    exact ⟨Hb, Same.refl _, S, hb⟩
  | none =>
    have s1 : Same Hb (upd Hb q (.tup xs)) := fun b u e => by rw [upd_ne (ne_of_none e hb)]; exact e
    refine ⟨upd Hb q (.tup xs), s1, ⟨fun b u e => ?_, S.frm, fun b u e => ?_, S.len, fun j b d g1 g2 g3 => ?_, S.inj, S.sl, fun j e h => RS.mono (Gr.refl _) s1 (S.slot j e h)⟩, upd_same⟩
    · by_cases h : b = q
      · subst h; rw [upd_same] at e; cases e; exact hq
      · rw [upd_ne h] at e; exact S.base b u e
    · have z := S.dis b u e
      have nb : b ≠ q := fun h => by subst h; have y := S.frm b u e; rw [hq] at y; cases y; exact z.2 _ rfl
      exact ⟨by rw [upd_ne nb]; exact z.1, z.2⟩
    · obtain ⟨m1, m2, m3⟩ := S.own j b d g1 g2 g3
      have nb : b ≠ q := fun h => by subst h; exact RC.nt g3 m3 xs hq
      exact ⟨by rw [upd_ne nb]; exact m1, m2, m3.mono (Gr.refl _) s1 rfl⟩
end
end AS
/-! AS2: expressions over the abstract state. -/
namespace AS
open PySem L2

/-- what follows a value: the base grows, the owned objects are W', the value is e -/
def Kt (K : PySem.W.Frag) (F Hb : Hp) (σ : L2.St) (es : List En) (as : List Addr) (W' : List Cn) (e : En) (Q : VK) : Prop :=
  ∀ v Hb' H' as', Gr as as' → Same Hb Hb' → ST K F Hb' H' σ es W' as' → RE K Hb' as' v e → Q v H'
def KtA (K : PySem.W.Frag) (F Hb : Hp) (σ : L2.St) (es : List En) (as : List Addr) (W' : List Cn) (l : List En) (Q : List V → Hp → Prop) : Prop :=
  ∀ vs Hb' H' as', Gr as as' → Same Hb Hb' → ST K F Hb' H' σ es W' as' → Paired (RE K Hb' as') vs l → Q vs H'
def KtB (K : PySem.W.Frag) (F Hb : Hp) (σ : L2.St) (es : List En) (as : List Addr) (W' : List Cn) (b : Bool) (Q : Bool → Hp → Prop) : Prop :=
  ∀ Hb' H' as', Gr as as' → Same Hb Hb' → ST K F Hb' H' σ es W' as' → Q b H'
def EV (K : PySem.W.Frag) (te : TE) (es : List En) (W : List Cn) (e : En) (W' : List Cn) : Prop :=
  ∀ F Hb H σ as, ST K F Hb H σ es W as → ∀ Q : VK, Kt K F Hb σ es as W' e Q → te σ H Q
def EA (K : PySem.W.Frag) (ta : TA) (es : List En) (W : List Cn) (l : List En) (W' : List Cn) : Prop :=
  ∀ F Hb H σ as, ST K F Hb H σ es W as → ∀ Q : List V → Hp → Prop, KtA K F Hb σ es as W' l Q → ta σ H Q
def ET (K : PySem.W.Frag) (tt : TT) (es : List En) (W : List Cn) (b : Bool) (W' : List Cn) : Prop :=
  ∀ F Hb H σ as, ST K F Hb H σ es W as → ∀ Q : Bool → Hp → Prop, KtB K F Hb σ es as W' b Q → tt σ H Q

section
variable {K : PySem.W.Frag} {F Hb Hb' H H' : Hp} {σ : L2.St} {es : List En} {as as' : List Addr} {W W1 W2 W3 : List Cn} {e e1 e2 : En} {ta tb te tc : TE} {d d1 d2 : D} {v : V}
theorem Kt.here {Q : VK} (k : Kt K F Hb σ es as W e Q) (S : ST K F Hb H σ es W as) (r : RE K Hb as v e) : Q v H := k v Hb H as (Gr.refl _) (Same.refl _) S r
theorem Kt.on {Q : VK} (k : Kt K F Hb σ es as W e Q) (g : Gr as as') (s : Same Hb Hb') : Kt K F Hb' σ es as' W e Q := fun v Hb2 H2 as2 g2 s2 S r => k v Hb2 H2 as2 (g.trans g2) (s.trans s2) S r
theorem KtA.on {Q : List V → Hp → Prop} {l : List En} (k : KtA K F Hb σ es as W l Q) (g : Gr as as') (s : Same Hb Hb') : KtA K F Hb' σ es as' W l Q := fun v Hb2 H2 as2 g2 s2 S r => k v Hb2 H2 as2 (g.trans g2) (s.trans s2) S r
theorem KtB.on {Q : Bool → Hp → Prop} {b : Bool} (k : KtB K F Hb σ es as W b Q) (g : Gr as as') (s : Same Hb Hb') : KtB K F Hb' σ es as' W b Q := fun Hb2 H2 as2 g2 s2 S => k Hb2 H2 as2 (g.trans g2) (s.trans s2) S
/-- a new tracked object as data -/
theorem Kt.fresh {Q : VK} {p : Addr} {o : HO} (k : Kt K F Hb σ es as W e Q) (S : ST K F Hb H σ es W as) (hp : H p = none) (r : ∀ Hb', Same Hb Hb' → Hb' p = some o → RE K Hb' as (.ref p) e) : Q (.ref p) (upd H p o) := by
  obtain ⟨S1, s1⟩ := S.new (o := o) hp
  exact k _ _ _ _ (Gr.refl _) s1 S1 (r _ s1 upd_same)

theorem ev_var {i : Nat} (h : es[i]? = some e) (hu : e ≠ .un) : EV K (tVar i) es W e W := fun F Hb H σ as S Q k => by
  have r := S.slot i e h
  cases e with
  | un => exact absurd rfl hu
  | dat d =>
    obtain ⟨v, h1, h2⟩ := r
    exact ⟨v, h1, k.here S h2⟩
  | ptr j =>
    obtain ⟨a, h1, h2⟩ := r
    exact ⟨.ref a, h2, k.here S ⟨a, h1, rfl⟩⟩
theorem ev_vd {i : Nat} (h : es[i]? = some (.dat d)) : EV K (tVar i) es W (.dat d) W := ev_var h (fun q => nomatch q)
theorem ev_vp {i j : Nat} (h : es[i]? = some (.ptr j)) : EV K (tVar i) es W (.ptr j) W := ev_var h (fun q => nomatch q)
theorem ev_cst (h : ∀ H, Dt K H v d) : EV K (tC v) es W (.dat d) W := fun _ Hb _ _ _ S _ k => k.here S (h Hb)
theorem ev_int (i : Int) : EV K (tC (.int i)) es W (.dat (.int i)) W := ev_cst fun _ => .int i
theorem ev_bl (b : Bool) : EV K (tC (.bl b)) es W (.dat (.bl b)) W := ev_cst fun _ => .bl b
theorem ev_non : EV K (tC .non) es W (.dat .non) W := ev_cst fun _ => .non
theorem ev_str (x : Str) : EV K (tC (.str x)) es W (.dat (.str x)) W := ev_cst fun _ => .str x
theorem ev_ty (n : String) : EV K (tC (.ty n)) es W (.dat (.ty n)) W := ev_cst fun _ => .ty n
theorem ev_rf (a : Addr) : EV K (tC (.ref a)) es W (.dat (.rf a)) W := ev_cst fun _ => .rf a
theorem ev_is (h : EV K te es W e W1) (q : e = e1) : EV K te es W e1 W1 := q ▸ h

/-- two operands, then the operator by values -/
theorem ev_op2 {r : R2} (ha : EV K ta es W e1 W1) (hb : EV K tb es W1 e2 W2)
    (hr : ∀ F Hb H σ as v u, ST K F Hb H σ es W2 as → RE K Hb as v e1 → RE K Hb as u e2 → ∀ Q : VK, Kt K F Hb σ es as W3 e Q → r v u H Q) : EV K (tOp r ta tb) es W e W3 := fun F Hb H σ as S Q k =>
  ha F Hb H σ as S _ fun v Hb1 H1 as1 g1 s1 S1 r1 => hb F Hb1 H1 σ as1 S1 _ fun u Hb2 H2 as2 g2 s2 S2 r2 => hr F Hb2 H2 σ as2 v u S2 (RE.mono g2 s2 r1) r2 Q (k.on (g1.trans g2) (s1.trans s2))
theorem ev_un1 {r : V → Hp → VK → Prop} (ha : EV K ta es W e1 W1)
    (hr : ∀ F Hb H σ as v, ST K F Hb H σ es W1 as → RE K Hb as v e1 → ∀ Q : VK, Kt K F Hb σ es as W3 e Q → r v H Q) : EV K (tUn r ta) es W e W3 := fun F Hb H σ as S Q k =>
  ha F Hb H σ as S _ fun v Hb1 H1 as1 g1 s1 S1 r1 => hr F Hb1 H1 σ as1 v S1 r1 Q (k.on g1 s1)
theorem ev_I0 {g : Int → Int → V} {a b : Int} (ha : EV K ta es W (.dat (.int a)) W1) (hb : EV K tb es W1 (.dat (.int b)) W2) (hg : ∀ H, Dt K H (g a b) d) : EV K (tOp (rI0 g) ta tb) es W (.dat d) W2 :=
  ev_op2 ha hb fun F Hb H σ as v u S r1 r2 Q k => by
    cases r1; cases r2
    exact ⟨a, b, rfl, rfl, k.here S (hg Hb)⟩
theorem ev_I {C : Int → Int → Prop} {g : Int → Int → V} {a b : Int} (ha : EV K ta es W (.dat (.int a)) W1) (hb : EV K tb es W1 (.dat (.int b)) W2) (hc : C a b) (hg : ∀ H, Dt K H (g a b) d) : EV K (tOp (rI C g) ta tb) es W (.dat d) W2 :=
  ev_op2 ha hb fun F Hb H σ as v u S r1 r2 Q k => by
    cases r1; cases r2
    exact ⟨a, b, rfl, rfl, hc, k.here S (hg Hb)⟩
theorem ev_add {a b : Int} (ha : EV K ta es W (.dat (.int a)) W1) (hb : EV K tb es W1 (.dat (.int b)) W2) : EV K (tOp (rI0 fun i j => .int (i + j)) ta tb) es W (.dat (.int (a + b))) W2 := ev_I0 ha hb fun _ => .int _
theorem ev_sub {a b : Int} (ha : EV K ta es W (.dat (.int a)) W1) (hb : EV K tb es W1 (.dat (.int b)) W2) : EV K (tOp (rI0 fun i j => .int (i - j)) ta tb) es W (.dat (.int (a - b))) W2 := ev_I0 ha hb fun _ => .int _
theorem ev_lt {a b : Int} (ha : EV K ta es W (.dat (.int a)) W1) (hb : EV K tb es W1 (.dat (.int b)) W2) : EV K (tOp (rI0 fun i j => .bl (decide (i < j))) ta tb) es W (.dat (.bl (decide (a < b)))) W2 := ev_I0 ha hb fun _ => .bl _
theorem ev_le {a b : Int} (ha : EV K ta es W (.dat (.int a)) W1) (hb : EV K tb es W1 (.dat (.int b)) W2) : EV K (tOp (rI0 fun i j => .bl (decide (i ≤ j))) ta tb) es W (.dat (.bl (decide (a ≤ b)))) W2 := ev_I0 ha hb fun _ => .bl _
theorem ev_gt {a b : Int} (ha : EV K ta es W (.dat (.int a)) W1) (hb : EV K tb es W1 (.dat (.int b)) W2) : EV K (tOp (rI0 fun i j => .bl (decide (j < i))) ta tb) es W (.dat (.bl (decide (b < a)))) W2 := ev_I0 ha hb fun _ => .bl _
theorem ev_ge {a b : Int} (ha : EV K ta es W (.dat (.int a)) W1) (hb : EV K tb es W1 (.dat (.int b)) W2) : EV K (tOp (rI0 fun i j => .bl (decide (j ≤ i))) ta tb) es W (.dat (.bl (decide (b ≤ a)))) W2 := ev_I0 ha hb fun _ => .bl _
theorem ev_neg {a : Int} (ha : EV K ta es W (.dat (.int a)) W1) : EV K (tUn (rU fun i => .int (-i)) ta) es W (.dat (.int (-a))) W1 :=
  ev_un1 ha fun F Hb H σ as v S r1 Q k => by
    cases r1
    exact ⟨a, rfl, k.here S (.int _)⟩
end

/-! ### operators without a bound on one side -/
def CDivA (_ j : Int) : Prop := j ≠ 0 ∧ j.natAbs.log2 < 9000
section
variable {X : Cx}
theorem op_mulA : OpR X (binaryOp .Mult) (rI IntMulOk fun i j => .int (i * j)) := opI fun _ _ _ _ _ _ _ hc q => PyProof.Rows.mul_int q hc
theorem op_fdivA : OpR X (binaryOp .FloorDiv) (rI CDivA fun i j => .int (i.fdiv j)) := opI fun i j _ _ _ _ _ hc q => PyProof.Rows.floordiv_int hc.1 q (.inl (PyProof.noPylong_of_log2 hc.2))
/-- == of whole numbers, texts, truth values, None; of data -/
def rEqA (K : PySem.W.Frag) : R2 := fun x y H Q => rEq x y H Q ∨ rEqD K x y H Q
def rNeA (K : PySem.W.Frag) : R2 := fun x y H Q => rNe x y H Q ∨ rNeD K x y H Q
theorem op_eqA (hu : X.A.units + 64 < cLine) : OpR X (compareOp .Eq) (rEqA X.K) := OpR.or op_eq (op_eqD hu)
theorem op_neA (hu : X.A.units + 64 < cLine) : OpR X (compareOp .NotEq) (rNeA X.K) := OpR.or op_ne (op_neD hu)
def rInA (K : PySem.W.Frag) : R2 := fun x y H Q => rIn K false x y H Q ∨ rInD K x y H Q
end

/-! ### data without objects as the library's own data -/
mutual
def D.py : D → Option PyData
  | .non => some .none | .bl b => some (.bool b) | .int i => some (.int i) | .str x => some (.str x)
  | .tup l => (D.pys l).map .tuple | .lst l => (D.pys l).map .list
  | .ty _ => none | .rf _ => none | .obj _ _ _ => none
  | .rl l => (D.pys l).map .list
  | .key l => some (.tuple (l.map PyData.int)) | .kd _ _ => none
def D.pys : List D → Option (List PyData)
  | [] => some []
  | d :: l => match D.py d, D.pys l with
    | some x, some y => some (x :: y)
    | _, _ => none
end
theorem dpInts {K : PySem.W.Frag} {H : Hp} : ∀ l : List Int, DpAll K H (l.map V.int) (l.map PyData.int)
  | [] => .nil
  | i :: r => .cons (.int i) (dpInts r)
mutual
theorem Dt.py {K : PySem.W.Frag} {H : Hp} : ∀ (d : D) (v : V) (p : PyData), Dt K H v d → d.py = some p → Dp K H v p
  | .non, _, _, .non, e => by cases e; exact .non
  | .bl _, _, _, .bl b, e => by cases e; exact .bl b
  | .int _, _, _, .int b, e => by cases e; exact .int b
  | .str _, _, _, .str b, e => by cases e; exact .str b
  | .ty _, _, _, _, e => by cases e
  | .rf _, _, _, _, e => by cases e
  | .obj _ _ _, _, _, _, e => by cases e
  | .kd _ _, _, _, _, e => by cases e
  | .key l, _, _, .key h, e => by cases e; exact .tup (.inl (.inl h)) (dpInts l)
  | .tup l, _, p, .tup h1 h2, e => by
    unfold D.py at e
    cases q : D.pys l with
    | none => rw [q] at e; cases e
    | some x => rw [q] at e; cases e; exact .tup h1 (DtA.py l _ x h2 q)
  | .lst l, _, p, .lst h1 h2, e => by
    unfold D.py at e
    cases q : D.pys l with
    | none => rw [q] at e; cases e
    | some x => rw [q] at e; cases e; exact .lst (SqL.of h1) (DtA.py l _ x h2 q)
  | .rl l, _, p, .rl h1 h2, e => by
    unfold D.py at e
    cases q : D.pys l with
    | none => rw [q] at e; cases e
    | some x => rw [q] at e; cases e; exact .lst h1 (DtA.py l _ x h2 q)
theorem DtA.py {K : PySem.W.Frag} {H : Hp} : ∀ (l : List D) (vs : List V) (ps : List PyData), DtA K H vs l → D.pys l = some ps → DpAll K H vs ps
  | [], _, _, .nil, e => by cases e; exact .nil
  | d :: l, _, ps, .cons h t, e => by
    unfold D.pys at e
    cases q1 : D.py d with
    | none => rw [q1] at e; simp at e
    | some x =>
      cases q2 : D.pys l with
      | none => rw [q1, q2] at e; simp at e
      | some y =>
        rw [q1, q2] at e; cases e
        exact .cons (Dt.py d _ x h q1) (DtA.py l _ y t q2)
end

section
variable {K : PySem.W.Frag} {F Hb Hb' H H' : Hp} {σ : L2.St} {es : List En} {as as' : List Addr} {W W1 W2 W3 : List Cn} {e e1 e2 : En} {ta tb te tc : TE} {d d1 d2 : D} {v : V}
theorem ev_mul {a b : Int} (ha : EV K ta es W (.dat (.int a)) W1) (hb : EV K tb es W1 (.dat (.int b)) W2) (hc : IntMulOk a b) : EV K (tOp (rI IntMulOk fun i j => .int (i * j)) ta tb) es W (.dat (.int (a * b))) W2 := ev_I ha hb hc fun _ => .int _
theorem ev_fdiv {a b : Int} (ha : EV K ta es W (.dat (.int a)) W1) (hb : EV K tb es W1 (.dat (.int b)) W2) (hc : CDivA a b) : EV K (tOp (rI CDivA fun i j => .int (i.fdiv j)) ta tb) es W (.dat (.int (a.fdiv b))) W2 := ev_I ha hb hc fun _ => .int _
theorem ev_mod {a b : Int} (ha : EV K ta es W (.dat (.int a)) W1) (hb : EV K tb es W1 (.dat (.int b)) W2) (hc : b ≠ 0) : EV K (tOp (rI (fun _ j => j ≠ 0) fun i j => .int (i.fmod j)) ta tb) es W (.dat (.int (a.fmod b))) W2 := ev_I ha hb hc fun _ => .int _
theorem ev_pow {a b : Int} (ha : EV K ta es W (.dat (.int a)) W1) (hb : EV K tb es W1 (.dat (.int b)) W2) (hc : CPow a b) : EV K (tOp (rI CPow fun i j => .int (i ^ j.toNat)) ta tb) es W (.dat (.int (a ^ b.toNat))) W2 := ev_I ha hb hc fun _ => .int _
theorem ev_eqI {a b : Int} (ha : EV K ta es W (.dat (.int a)) W1) (hb : EV K tb es W1 (.dat (.int b)) W2) : EV K (tOp (rEqA K) ta tb) es W (.dat (.bl (decide (a = b)))) W2 :=
  ev_op2 ha hb fun F Hb H σ as v u S r1 r2 Q k => by
    cases r1; cases r2
    refine .inl ⟨rfl, ?_⟩
    have z : decide (V.int a = V.int b) = decide (a = b) := by simp
    rw [z]
    exact k.here S (.bl _)
theorem ev_neI {a b : Int} (ha : EV K ta es W (.dat (.int a)) W1) (hb : EV K tb es W1 (.dat (.int b)) W2) : EV K (tOp (rNeA K) ta tb) es W (.dat (.bl (!decide (a = b)))) W2 :=
  ev_op2 ha hb fun F Hb H σ as v u S r1 r2 Q k => by
    cases r1; cases r2
    refine .inl ⟨rfl, ?_⟩
    have z : decide (V.int a = V.int b) = decide (a = b) := by simp
    rw [z]
    exact k.here S (.bl _)
theorem ev_eqB {a b : Bool} (ha : EV K ta es W (.dat (.bl a)) W1) (hb : EV K tb es W1 (.dat (.bl b)) W2) : EV K (tOp (rEqA K) ta tb) es W (.dat (.bl (decide (a = b)))) W2 :=
  ev_op2 ha hb fun F Hb H σ as v u S r1 r2 Q k => by
    cases r1; cases r2
    refine .inl ⟨rfl, ?_⟩
    have z : decide (V.bl a = V.bl b) = decide (a = b) := by simp
    rw [z]
    exact k.here S (.bl _)
theorem ev_neB {a b : Bool} (ha : EV K ta es W (.dat (.bl a)) W1) (hb : EV K tb es W1 (.dat (.bl b)) W2) : EV K (tOp (rNeA K) ta tb) es W (.dat (.bl (!decide (a = b)))) W2 :=
  ev_op2 ha hb fun F Hb H σ as v u S r1 r2 Q k => by
    cases r1; cases r2
    refine .inl ⟨rfl, ?_⟩
    have z : decide (V.bl a = V.bl b) = decide (a = b) := by simp
    rw [z]
    exact k.here S (.bl _)
theorem ev_eqD {p q : PyData} (ha : EV K ta es W (.dat d1) W1) (hb : EV K tb es W1 (.dat d2) W2) (h1 : d1.py = some p) (h2 : d2.py = some q) (s1 : SeqAt.shaped p = true) (s2 : SeqAt.shaped q = true) : EV K (tOp (rEqA K) ta tb) es W (.dat (.bl (PyData.eqv p q))) W2 :=
  ev_op2 ha hb fun F Hb H σ as v u S r1 r2 Q k =>
    .inr ⟨p, q, Dt.py _ _ _ (Dt.mono S.base _ _ r1) h1, Dt.py _ _ _ (Dt.mono S.base _ _ r2) h2, s1, s2, k.here S (.bl _)⟩
theorem ev_neD {p q : PyData} (ha : EV K ta es W (.dat d1) W1) (hb : EV K tb es W1 (.dat d2) W2) (h1 : d1.py = some p) (h2 : d2.py = some q) (s1 : SeqAt.shaped p = true) (s2 : SeqAt.shaped q = true) : EV K (tOp (rNeA K) ta tb) es W (.dat (.bl (!PyData.eqv p q))) W2 :=
  ev_op2 ha hb fun F Hb H σ as v u S r1 r2 Q k =>
    .inr ⟨p, q, Dt.py _ _ _ (Dt.mono S.base _ _ r1) h1, Dt.py _ _ _ (Dt.mono S.base _ _ r2) h2, s1, s2, k.here S (.bl _)⟩
/-- x is None -/
def D.isN : D → Bool
  | .non => true
  | _ => false
theorem Dt.isN {K : PySem.W.Frag} {H : Hp} {v : V} {d : D} (h : Dt K H v d) : decide (v = .non) = d.isN := by
  cases h <;> simp [D.isN]
theorem ev_isN (ha : EV K ta es W (.dat d) W1) : EV K (tOp (fun x y H Q => y = .non ∧ Q (.bl (decide (x = .non))) H) ta (tC .non)) es W (.dat (.bl d.isN)) W1 :=
  ev_op2 ha ev_non fun F Hb H σ as v u S r1 r2 Q k => by
    cases r2
    refine ⟨rfl, ?_⟩
    rw [Dt.isN r1]
    exact k.here S (.bl _)
theorem ev_notN (ha : EV K ta es W (.dat d) W1) : EV K (tOp (fun x y H Q => y = .non ∧ Q (.bl (!decide (x = .non))) H) ta (tC .non)) es W (.dat (.bl (!d.isN))) W1 :=
  ev_op2 ha ev_non fun F Hb H σ as v u S r1 r2 Q k => by
    cases r2
    refine ⟨rfl, ?_⟩
    rw [Dt.isN r1]
    exact k.here S (.bl _)

/-! ### argument lists, displays -/
theorem ea_nil : EA K tNil es W [] W := fun F Hb H σ as S Q k => k [] Hb H as (Gr.refl _) (Same.refl _) S .nil
theorem ea_cons {t : TA} {l : List En} (ha : EV K ta es W e W1) (hr : EA K t es W1 l W2) : EA K (tCons ta t) es W (e :: l) W2 := fun F Hb H σ as S Q k =>
  ha F Hb H σ as S _ fun v Hb1 H1 as1 g1 s1 S1 r1 => hr F Hb1 H1 σ as1 S1 _ fun vs Hb2 H2 as2 g2 s2 S2 r2 => k (v :: vs) Hb2 H2 as2 (g1.trans g2) (s1.trans s2) S2 (.cons (RE.mono g2 s2 r1) r2)
theorem paired_length {α β : Type} {P : α → β → Prop} : ∀ {l : List α} {m : List β}, Paired P l m → l.length = m.length
  | _, _, .nil => rfl
  | _, _, .cons _ t => by simp [paired_length t]
theorem ev_tup {t : TA} {l : List D} (h : EA K t es W (l.map .dat) W1) (hl : l.length ≤ 16777216) : EV K (tTup t) es W (.dat (.tup l)) W1 := fun F Hb H σ as S Q k =>
  h F Hb H σ as S _ fun vs Hb1 H1 as1 g1 s1 S1 r1 => ⟨by have := paired_length r1; rw [sizeLine_eq]; simp at this; omega, fun p hp => (k.on g1 s1).fresh S1 hp fun Hb2 s2 e2 => .tup (.inl (.inl e2)) (DtA.mono s2 _ _ (DtA.of_dat (xs := vs) r1))⟩
theorem ev_lst {t : TA} {l : List D} (h : EA K t es W (l.map .dat) W1) (hl : l.length ≤ 16777216) : EV K (tLst t) es W (.dat (.lst l)) W1 := fun F Hb H σ as S Q k =>
  h F Hb H σ as S _ fun vs Hb1 H1 as1 g1 s1 S1 r1 => ⟨by have := paired_length r1; rw [sizeLine_eq]; simp at this; omega, fun p hp => (k.on g1 s1).fresh S1 hp fun Hb2 s2 e2 => .lst e2 (DtA.mono s2 _ _ (DtA.of_dat (xs := vs) r1))⟩
/-- a list that will be changed -/
theorem ev_lstO {t : TA} {l : List En} (h : EA K t es W l W1) (hl : l.length ≤ 16777216) : EV K (tLst t) es W (.ptr W1.length) (W1 ++ [.lst l]) := fun F Hb H σ as S Q k =>
  h F Hb H σ as S _ fun vs Hb1 H1 as1 g1 s1 S1 r1 => ⟨by have := paired_length r1; rw [sizeLine_eq]; omega, fun p hp => by
    have g2 : Gr as1 (as1 ++ [p]) := ⟨[p], rfl⟩
    refine k _ _ _ _ (g1.trans g2) s1 (S1.newOwn hp ⟨vs, upd_same, paired_mono (fun _ _ => RE.mono g2 (Same.refl _)) r1⟩) ⟨p, ?_, rfl⟩
    rw [← S1.len, List.getElem?_append_right (Nat.le_refl _)]
    simp⟩

/-! ### tests -/
theorem et_test {b : Bool} (h : EV K te es W (.dat (.bl b)) W1) : ET K (tTest te) es W b W1 := fun F Hb H σ as S Q k => h F Hb H σ as S _ fun v Hb1 H1 as1 g1 s1 S1 r1 => by
  cases r1
  exact ⟨b, rfl, k Hb1 H1 as1 g1 s1 S1⟩
theorem et_B {b : Bool} (h : EV K te es W (.dat (.bl b)) W1) : ET K (tB te) es W b W1 := fun F Hb H σ as S Q k => h F Hb H σ as S _ fun v Hb1 H1 as1 g1 s1 S1 r1 => by
  cases r1
  exact ⟨b, rfl, k Hb1 H1 as1 g1 s1 S1⟩
theorem et_andT {t u : TT} {b : Bool} (h : ET K t es W true W1) (h2 : ET K u es W1 b W2) : ET K (tAnd t u) es W b W2 := fun F Hb H σ as S Q k => h F Hb H σ as S _ fun Hb1 H1 as1 g1 s1 S1 => by
  show u σ H1 Q
  exact h2 F Hb1 H1 σ as1 S1 _ (k.on g1 s1)
theorem et_andF {t u : TT} (h : ET K t es W false W1) : ET K (tAnd t u) es W false W1 := fun F Hb H σ as S Q k => h F Hb H σ as S _ fun Hb1 H1 as1 g1 s1 S1 => by
  show Q false H1
  exact k Hb1 H1 as1 g1 s1 S1
theorem et_orT {t u : TT} (h : ET K t es W true W1) : ET K (tOr t u) es W true W1 := fun F Hb H σ as S Q k => h F Hb H σ as S _ fun Hb1 H1 as1 g1 s1 S1 => by
  show Q true H1
  exact k Hb1 H1 as1 g1 s1 S1
theorem et_orF {t u : TT} {b : Bool} (h : ET K t es W false W1) (h2 : ET K u es W1 b W2) : ET K (tOr t u) es W b W2 := fun F Hb H σ as S Q k => h F Hb H σ as S _ fun Hb1 H1 as1 g1 s1 S1 => by
  show u σ H1 Q
  exact h2 F Hb1 H1 σ as1 S1 _ (k.on g1 s1)
/-- where both parts leave the objects as they are -/
theorem et_and {t u : TT} {a b : Bool} (h : ET K t es W a W) (h2 : a = true → ET K u es W b W) : ET K (tAnd t u) es W (a && b) W := by
  cases a with
  | true => exact et_andT h (h2 rfl)
  | false => exact et_andF h
theorem et_or {t u : TT} {a b : Bool} (h : ET K t es W a W) (h2 : a = false → ET K u es W b W) : ET K (tOr t u) es W (a || b) W := by
  cases a with
  | true => exact et_orT h
  | false => exact et_orF h (h2 rfl)
theorem et_not {t : TT} {a : Bool} (h : ET K t es W a W1) : ET K (tNot t) es W (!a) W1 := fun F Hb H σ as S Q k => h F Hb H σ as S _ fun Hb1 H1 as1 g1 s1 S1 => k Hb1 H1 as1 g1 s1 S1
theorem et_is {t : TT} {a b : Bool} (h : ET K t es W a W1) (q : a = b) : ET K t es W b W1 := q ▸ h
theorem ev_andV {a b : Bool} (h : EV K ta es W (.dat (.bl a)) W) (h2 : a = true → EV K tb es W (.dat (.bl b)) W) : EV K (tAndV ta tb) es W (.dat (.bl (a && b))) W := fun F Hb H σ as S Q k =>
  h F Hb H σ as S _ fun v Hb1 H1 as1 g1 s1 S1 r1 => by
    cases r1
    refine ⟨a, rfl, ?_⟩
    cases a with
    | true =>
      show tb σ H1 Q
      exact h2 rfl F Hb1 H1 σ as1 S1 Q (k.on g1 s1)
    | false =>
      show Q (.bl false) H1
      exact (k.on g1 s1).here S1 (.bl false)
theorem ev_orV {a b : Bool} (h : EV K ta es W (.dat (.bl a)) W) (h2 : a = false → EV K tb es W (.dat (.bl b)) W) : EV K (tOrV ta tb) es W (.dat (.bl (a || b))) W := fun F Hb H σ as S Q k =>
  h F Hb H σ as S _ fun v Hb1 H1 as1 g1 s1 S1 r1 => by
    cases r1
    refine ⟨a, rfl, ?_⟩
    cases a with
    | true =>
      show Q (.bl true) H1
      exact (k.on g1 s1).here S1 (.bl true)
    | false =>
      show tb σ H1 Q
      exact h2 rfl F Hb1 H1 σ as1 S1 Q (k.on g1 s1)
theorem ev_notV {a : Bool} (h : EV K ta es W (.dat (.bl a)) W1) : EV K (tNotV ta) es W (.dat (.bl (!a))) W1 := fun F Hb H σ as S Q k =>
  h F Hb H σ as S _ fun v Hb1 H1 as1 g1 s1 S1 r1 => by
    cases r1
    exact ⟨a, rfl, (k.on g1 s1).here S1 (.bl _)⟩
theorem ev_ifT {t : TT} (h : ET K t es W true W1) (h1 : EV K ta es W1 e W2) : EV K (tIf t ta tb) es W e W2 := fun F Hb H σ as S Q k => h F Hb H σ as S _ fun Hb1 H1 as1 g1 s1 S1 => by
  show ta σ H1 Q
  exact h1 F Hb1 H1 σ as1 S1 Q (k.on g1 s1)
theorem ev_ifF {t : TT} (h : ET K t es W false W1) (h1 : EV K tb es W1 e W2) : EV K (tIf t ta tb) es W e W2 := fun F Hb H σ as S Q k => h F Hb H σ as S _ fun Hb1 H1 as1 g1 s1 S1 => by
  show tb σ H1 Q
  exact h1 F Hb1 H1 σ as1 S1 Q (k.on g1 s1)
theorem ev_if {t : TT} {b : Bool} (h : ET K t es W b W1) (h1 : b = true → EV K ta es W1 e W2) (h2 : b = false → EV K tb es W1 e W2) : EV K (tIf t ta tb) es W e W2 := by
  cases b with
  | true => exact ev_ifT h (h1 rfl)
  | false => exact ev_ifF h (h2 rfl)

/-! ### lists and tuples that are read -/
def LstE (W : List Cn) : En → Option (List En)
  | .dat (.lst l) => some (l.map .dat)
  | .dat (.rl l) => some (l.map .dat)
  | .ptr i => match W[i]? with
    | some (.lst l) => some l
    | _ => none
  | _ => none
def TupE : En → Option (List En)
  | .dat (.tup l) => some (l.map .dat)
  | .dat (.key l) => some ((l.map D.int).map .dat)
  | _ => none
def SeqE (W : List Cn) (e : En) : Option (List En) := match LstE W e with
  | some l => some l
  | none => TupE e
theorem ST.lstE {l : List En} (S : ST K F Hb H σ es W as) (h : LstE W e = some l) (r : RE K Hb as v e) : ∃ a xs, v = .ref a ∧ SqL K H a xs ∧ Paired (RE K Hb as) xs l := by
  cases e with
  | un => cases h
  | dat d =>
    cases d with
    | lst ds =>
      cases h
      cases r with
      | lst h1 h2 => exact ⟨_, _, rfl, SqL.of (S.base _ _ h1), DtA.to_dat h2⟩
    | rl ds =>
      cases h
      cases r with
      | rl h1 h2 => exact ⟨_, _, rfl, same_l S.base h1, DtA.to_dat h2⟩
    | _ => cases h
  | ptr i =>
    obtain ⟨a, h1, rfl⟩ := r
    unfold LstE at h
    cases q : W[i]? with
    | none => simp only [q] at h; cases h
    | some c =>
      simp only [q] at h
      cases c with
      | lst m =>
        cases h
        obtain ⟨_, _, xs, k3, k4⟩ := S.own i a _ h1 q rfl
        exact ⟨a, xs, rfl, SqL.of k3, k4⟩
      | _ => cases h
theorem ST.tupE {l : List En} (S : ST K F Hb H σ es W as) (h : TupE e = some l) (r : RE K Hb as v e) : ∃ a xs, v = .ref a ∧ SqT K H a xs ∧ Paired (RE K Hb as) xs l := by
  cases e with
  | un => cases h
  | dat d =>
    cases d with
    | tup ds =>
      cases h
      cases r with
      | tup h1 h2 => exact ⟨_, _, rfl, same_t S.base h1, DtA.to_dat h2⟩
    | key ds =>
      cases h
      cases r with
      | key h1 => exact ⟨_, _, rfl, .inl (.inl (S.base _ _ h1)), DtA.to_dat (DtA.ints ds)⟩
    | _ => cases h
  | ptr i => cases h
theorem ST.seqE {l : List En} (S : ST K F Hb H σ es W as) (h : SeqE W e = some l) (r : RE K Hb as v e) : ∃ a xs, v = .ref a ∧ (SqL K H a xs ∨ SqT K H a xs) ∧ Paired (RE K Hb as) xs l := by
  unfold SeqE at h
  cases q : LstE W e with
  | some m =>
    rw [q] at h; cases h
    obtain ⟨a, xs, h1, h2, h3⟩ := S.lstE q r
    exact ⟨a, xs, h1, .inl h2, h3⟩
  | none =>
    rw [q] at h
    obtain ⟨a, xs, h1, h2, h3⟩ := S.tupE h r
    exact ⟨a, xs, h1, .inr h2, h3⟩
theorem paired_get {α β : Type} {P : α → β → Prop} : ∀ {l : List α} {m : List β} {i : Nat} {b : β}, Paired P l m → m[i]? = some b → ∃ a, l[i]? = some a ∧ P a b
  | _, _, _, _, .nil, e => by simp at e
  | _, _, 0, _, .cons r _, e => by simp at e; subst e; exact ⟨_, rfl, r⟩
  | _, _, i + 1, _, .cons _ t, e => by
    obtain ⟨v, h1, h2⟩ := paired_get (i := i) t (by simpa using e)
    exact ⟨v, by simpa using h1, h2⟩
theorem paired_getL {α β : Type} {P : α → β → Prop} : ∀ {l : List α} {m : List β} {i : Nat} {a : α}, Paired P l m → l[i]? = some a → ∃ b, m[i]? = some b ∧ P a b
  | _, _, _, _, .nil, e => by simp at e
  | _, _, 0, _, .cons r _, e => by simp at e; subst e; exact ⟨_, rfl, r⟩
  | _, _, i + 1, _, .cons _ t, e => by
    obtain ⟨v, h1, h2⟩ := paired_getL (i := i) t (by simpa using e)
    exact ⟨v, by simpa using h1, h2⟩
theorem atI_paired {P : V → En → Prop} {xs : List V} {l : List En} {i : Int} (h : Paired P xs l) (e0 : atI l i = some e) : ∃ v, atI xs i = some v ∧ P v e := by
  unfold atI at e0 ⊢
  rw [paired_length h]
  cases q : ixN l.length i with
  | none => rw [q] at e0; cases e0
  | some j =>
    rw [q] at e0
    exact paired_get h e0
theorem ev_ix {l : List En} {i : Int} (ha : EV K ta es W e1 W1) (hb : EV K tb es W1 (.dat (.int i)) W2) (hs : SeqE W2 e1 = some l) (hi : atI l i = some e) : EV K (tOp (rIx K) ta tb) es W e W2 :=
  ev_op2 ha hb fun F Hb H σ as v u S r1 r2 Q k => by
    cases r2
    obtain ⟨a, xs, rfl, hq, hp⟩ := S.seqE hs r1
    obtain ⟨w, hw, rw'⟩ := atI_paired hp hi
    rcases hq with hq | hq
    · exact .inl ⟨a, xs, i, w, rfl, rfl, hq, hw, k.here S rw'⟩
    · exact .inr (.inl ⟨a, xs, i, w, rfl, rfl, hq, hw, k.here S rw'⟩)
/-- a built-in of one argument -/
theorem ev_cb1 {r : List V → Hp → VK → Prop} (ha : EV K ta es W e1 W1) (hr : ∀ F Hb H σ as v, ST K F Hb H σ es W1 as → RE K Hb as v e1 → ∀ Q : VK, Kt K F Hb σ es as W3 e Q → r [v] H Q) : EV K (tCB r (tCons ta tNil)) es W e W3 := fun F Hb H σ as S Q k =>
  ha F Hb H σ as S _ fun v Hb1 H1 as1 g1 s1 S1 r1 => hr F Hb1 H1 σ as1 v S1 r1 Q (k.on g1 s1)
theorem ev_cb2 {r : List V → Hp → VK → Prop} (ha : EV K ta es W e1 W1) (hb : EV K tb es W1 e2 W2) (hr : ∀ F Hb H σ as v u, ST K F Hb H σ es W2 as → RE K Hb as v e1 → RE K Hb as u e2 → ∀ Q : VK, Kt K F Hb σ es as W3 e Q → r [v, u] H Q) :
    EV K (tCB r (tCons ta (tCons tb tNil))) es W e W3 := fun F Hb H σ as S Q k =>
  ha F Hb H σ as S _ fun v Hb1 H1 as1 g1 s1 S1 r1 => hb F Hb1 H1 σ as1 S1 _ fun u Hb2 H2 as2 g2 s2 S2 r2 => hr F Hb2 H2 σ as2 v u S2 (RE.mono g2 s2 r1) r2 Q (k.on (g1.trans g2) (s1.trans s2))
def rLenA (K : PySem.W.Frag) : List V → Hp → VK → Prop := fun xs H Q => (∃ p ys, xs = [.ref p] ∧ (SqL K H p ys ∨ SqT K H p ys) ∧ Q (.int ys.length) H) ∨ (∃ z, xs = [.str z] ∧ z.length ≤ sizeLine ∧ Q (.int z.length) H)
theorem call_lenA {X : Cx} : CallR X (.builtin "len") (rLenA X.K) := CallR.or call_len_seq call_len_str
theorem ev_len {l : List En} (ha : EV K ta es W e1 W1) (hs : SeqE W1 e1 = some l) : EV K (tCB (rLenA K) (tCons ta tNil)) es W (.dat (.int (l.length : Nat))) W1 :=
  ev_cb1 ha fun F Hb H σ as v S r1 Q k => by
    obtain ⟨a, xs, rfl, hq, hp⟩ := S.seqE hs r1
    refine .inl ⟨a, xs, rfl, hq, ?_⟩
    rw [paired_length hp]
    exact k.here S (.int _)
theorem ev_abs {a : Int} (ha : EV K ta es W (.dat (.int a)) W1) : EV K (tCB (fun xs H Q => ∃ i, xs = [.int i] ∧ Q (.int (if i < 0 then -i else i)) H) (tCons ta tNil)) es W (.dat (.int (if a < 0 then -a else a))) W1 :=
  ev_cb1 ha fun F Hb H σ as v S r1 Q k => by
    cases r1
    exact ⟨a, rfl, k.here S (.int _)⟩
theorem ev_intI {a : Int} (ha : EV K ta es W (.dat (.int a)) W1) : EV K (tCB (fun xs H Q => (∃ i, xs = [.int i] ∧ Q (.int i) H) ∨ ∃ k, xs = [.bl k] ∧ Q (.int (if k then 1 else 0)) H) (tCons ta tNil)) es W (.dat (.int a)) W1 :=
  ev_cb1 ha fun F Hb H σ as v S r1 Q k => by
    cases r1
    exact .inl ⟨a, rfl, k.here S (.int _)⟩
theorem ev_intB {a : Bool} (ha : EV K ta es W (.dat (.bl a)) W1) : EV K (tCB (fun xs H Q => (∃ i, xs = [.int i] ∧ Q (.int i) H) ∨ ∃ k, xs = [.bl k] ∧ Q (.int (if k then 1 else 0)) H) (tCons ta tNil)) es W (.dat (.int (if a then 1 else 0))) W1 :=
  ev_cb1 ha fun F Hb H σ as v S r1 Q k => by
    cases r1
    exact .inr ⟨a, rfl, k.here S (.int _)⟩
/-- list(xs), list(t): a new list of data -/
theorem ev_list {l : List D} (ha : EV K ta es W e1 W1) (hs : SeqE W1 e1 = some (l.map .dat)) : EV K (tCB (fun xs H Q => ∃ p ys, xs = [.ref p] ∧ (SqL K H p ys ∨ SqT K H p ys) ∧ ∀ l, H l = none → Q (.ref l) (upd H l (.lst ys))) (tCons ta tNil)) es W (.dat (.lst l)) W1 :=
  ev_cb1 ha fun F Hb H σ as v S r1 Q k => by
    obtain ⟨a, xs, rfl, hq, hp⟩ := S.seqE hs r1
    exact ⟨a, xs, rfl, hq, fun p hp' => k.fresh S hp' fun Hb2 s2 e2 => .lst e2 (DtA.mono s2 _ _ (DtA.of_dat (xs := xs) hp))⟩
theorem ev_listO {l : List En} (ha : EV K ta es W e1 W1) (hs : SeqE W1 e1 = some l) : EV K (tCB (fun xs H Q => ∃ p ys, xs = [.ref p] ∧ (SqL K H p ys ∨ SqT K H p ys) ∧ ∀ l, H l = none → Q (.ref l) (upd H l (.lst ys))) (tCons ta tNil)) es W (.ptr W1.length) (W1 ++ [.lst l]) :=
  ev_cb1 ha fun F Hb H σ as v S r1 Q k => by
    obtain ⟨a, xs, rfl, hq, hp⟩ := S.seqE hs r1
    refine ⟨a, xs, rfl, hq, fun p hp' => ?_⟩
    have g2 : Gr as (as ++ [p]) := ⟨[p], rfl⟩
    refine k _ _ _ _ g2 (Same.refl _) (S.newOwn hp' ⟨xs, upd_same, paired_mono (fun _ _ => RE.mono g2 (Same.refl _)) hp⟩) ⟨p, ?_, rfl⟩
    rw [← S.len, List.getElem?_append_right (Nat.le_refl _)]
    simp
/-- tuple(xs) -/
theorem ev_tupleL {l : List D} (ha : EV K ta es W e1 W1) (hs : LstE W1 e1 = some (l.map .dat)) : EV K (tCB (fun xs H Q => ∃ p ys, xs = [.ref p] ∧ ((SqL K H p ys ∧ ∀ l, H l = none → Q (.ref l) (upd H l (.tup ys))) ∨ (SqT K H p ys ∧ Q (.ref p) H))) (tCons ta tNil)) es W (.dat (.tup l)) W1 :=
  ev_cb1 ha fun F Hb H σ as v S r1 Q k => by
    obtain ⟨a, xs, rfl, hq, hp⟩ := S.lstE hs r1
    exact ⟨a, xs, rfl, .inl ⟨hq, fun p hp' => k.fresh S hp' fun Hb2 s2 e2 => .tup (.inl (.inl e2)) (DtA.mono s2 _ _ (DtA.of_dat (xs := xs) hp))⟩⟩
theorem ev_tupleT {l : List D} (ha : EV K ta es W (.dat (.tup l)) W1) : EV K (tCB (fun xs H Q => ∃ p ys, xs = [.ref p] ∧ ((SqL K H p ys ∧ ∀ l, H l = none → Q (.ref l) (upd H l (.tup ys))) ∨ (SqT K H p ys ∧ Q (.ref p) H))) (tCons ta tNil)) es W (.dat (.tup l)) W1 :=
  ev_cb1 ha fun F Hb H σ as v S r1 Q k => by
    cases r1 with
    | tup h1 h2 => exact ⟨_, _, rfl, .inr ⟨same_t S.base h1, k.here S (.tup h1 h2)⟩⟩
end
end AS
/-! AS3: statements, loops, comprehensions, calls over the abstract state. -/
namespace AS
open PySem L2

structure Po where
  nx : List En → List Cn → Prop
  rt : En → List Cn → Prop := fun _ _ => False
  bk : List En → List Cn → Prop := fun _ _ => False
  ct : List En → List Cn → Prop := fun _ _ => False
def Nx (K : PySem.W.Frag) (F Hb : Hp) (as : List Addr) (P : List En → List Cn → Prop) (d : L2.St → Hp → Prop) : Prop :=
  ∀ Hb' H' σ' as' es' W', P es' W' → Gr as as' → Same Hb Hb' → ST K F Hb' H' σ' es' W' as' → d σ' H'
def Rt (K : PySem.W.Frag) (F Hb : Hp) (as : List Addr) (P : En → List Cn → Prop) (d : V → Hp → Prop) : Prop :=
  ∀ v Hb' H' σ' as' es' W' e, P e W' → Gr as as' → Same Hb Hb' → ST K F Hb' H' σ' es' W' as' → RE K Hb' as' v e → d v H'
structure OkD (K : PySem.W.Frag) (F Hb : Hp) (as : List Addr) (D : Ends) (P : Po) : Prop where
  nx : Nx K F Hb as P.nx D.nx
  rt : Rt K F Hb as P.rt D.rt
  bk : Nx K F Hb as P.bk D.bk
  ct : Nx K F Hb as P.ct D.ct
def SD (K : PySem.W.Frag) (t : TS) (es : List En) (W : List Cn) (P : Po) : Prop :=
  ∀ F Hb H σ as (D : Ends), ST K F Hb H σ es W as → OkD K F Hb as D P → t D σ H
/-- goes to one state -/
abbrev SDd (K : PySem.W.Frag) (t : TS) (es : List En) (W : List Cn) (es1 : List En) (W1 : List Cn) : Prop := SD K t es W ⟨fun e w => e = es1 ∧ w = W1, fun _ _ => False, fun _ _ => False, fun _ _ => False⟩

section
variable {K : PySem.W.Frag} {F Hb Hb' H H' : Hp} {σ : L2.St} {es es1 es2 : List En} {as as' : List Addr} {W W1 W2 W3 : List Cn} {e e1 e2 : En} {ta tb te tc : TE} {d d1 d2 : D} {v : V} {P : Po} {t u : TS} {tt : TT}
theorem Nx.on {Q : List En → List Cn → Prop} {d : L2.St → Hp → Prop} (k : Nx K F Hb as Q d) (g : Gr as as') (s : Same Hb Hb') : Nx K F Hb' as' Q d := fun Hb2 H2 σ2 as2 es2 W2 p g2 s2 S => k Hb2 H2 σ2 as2 es2 W2 p (g.trans g2) (s.trans s2) S
theorem Rt.on {Q : En → List Cn → Prop} {d : V → Hp → Prop} (k : Rt K F Hb as Q d) (g : Gr as as') (s : Same Hb Hb') : Rt K F Hb' as' Q d := fun v Hb2 H2 σ2 as2 es2 W2 e p g2 s2 S r => k v Hb2 H2 σ2 as2 es2 W2 e p (g.trans g2) (s.trans s2) S r
theorem OkD.on {D : Ends} (k : OkD K F Hb as D P) (g : Gr as as') (s : Same Hb Hb') : OkD K F Hb' as' D P := ⟨k.nx.on g s, k.rt.on g s, k.bk.on g s, k.ct.on g s⟩
theorem Nx.here {Q : List En → List Cn → Prop} {d : L2.St → Hp → Prop} (k : Nx K F Hb as Q d) (S : ST K F Hb H σ es W as) (p : Q es W) : d σ H := k Hb H σ as es W p (Gr.refl _) (Same.refl _) S
theorem SD.imp {P' : Po} (h : SD K t es W P) (h1 : ∀ e w, P.nx e w → P'.nx e w) (h2 : ∀ e w, P.rt e w → P'.rt e w) (h3 : ∀ e w, P.bk e w → P'.bk e w) (h4 : ∀ e w, P.ct e w → P'.ct e w) : SD K t es W P' := fun F Hb H σ as D S k =>
  h F Hb H σ as D S ⟨fun a b c d e f p => k.nx a b c d e f (h1 _ _ p), fun a b c d e f g i p => k.rt a b c d e f g i (h2 _ _ p), fun a b c d e f p => k.bk a b c d e f (h3 _ _ p), fun a b c d e f p => k.ct a b c d e f (h4 _ _ p)⟩

theorem sd_next (p : P.nx es W) : SD K tNext es W P := fun _ _ _ _ _ _ S k => k.nx.here S p
theorem sd_seq {M : List En → List Cn → Prop} (h : SD K t es W { P with nx := M }) (h2 : ∀ e w, M e w → SD K u e w P) : SD K (tSeq t u) es W P := fun F Hb H σ as D S k =>
  h F Hb H σ as { D with nx := u D } S ⟨fun Hb2 H2 σ2 as2 es2 W2 p g s S2 => h2 es2 W2 p F Hb2 H2 σ2 as2 D S2 (k.on g s), k.rt, k.bk, k.ct⟩
theorem sd_then (h : SDd K t es W es1 W1) (h2 : SD K u es1 W1 P) : SD K (tSeq t u) es W P :=
  sd_seq (M := fun e w => e = es1 ∧ w = W1) (h.imp (fun _ _ x => x) (fun _ _ x => x.elim) (fun _ _ x => x.elim) (fun _ _ x => x.elim)) (fun _ _ ⟨a, b⟩ => by subst a b; exact h2)
theorem sd_of (h : SDd K t es W es1 W1) (p : P.nx es1 W1) : SD K t es W P := h.imp (fun _ _ ⟨a, b⟩ => by subst a b; exact p) (fun _ _ x => x.elim) (fun _ _ x => x.elim) (fun _ _ x => x.elim)
/-- a target: the value e comes to the slots -/
def EG (K : PySem.W.Frag) (g : TG) (js : List Nat) (e : En) (es : List En) (W : List Cn) (es' : List En) : Prop :=
  ∀ F Hb H σ as v, ST K F Hb H σ es W as → RE K Hb as v e → ∀ Q : L2.St → Hp → Prop, (∀ σ', (∀ vs : List Nat, (∀ j ∈ js, j ∈ vs) → wipe σ' vs = wipe σ vs) → ST K F Hb H σ' es' W as → Q σ' H) → g v σ H Q
theorem wipe_set {j : Nat} {x : Option V} {σ : L2.St} : ∀ {vs : List Nat}, j ∈ vs → wipe (σ.set j x) vs = wipe σ vs
  | [], h => by simp at h
  | v :: vs, h => by
    unfold wipe
    by_cases hv : v = j
    · subst hv
      have aux : ∀ (vs : List Nat) (σ : L2.St), (wipe (σ.set v x) vs).set v none = (wipe σ vs).set v none := by
        intro vs
        induction vs with
        | nil => intro σ; unfold wipe; simp
        | cons a r ih =>
          intro σ
          unfold wipe
          by_cases ha : a = v
          · subst ha; simp [ih]
          · rw [List.set_comm _ _ ha, ih, List.set_comm _ _ ha]
      exact aux vs σ
    · have : j ∈ vs := by simpa [Ne.symm hv] using h
      rw [wipe_set this]
theorem wipe_wipe {σ : L2.St} : ∀ {vs : List Nat}, wipe (wipe σ vs) vs = wipe σ vs := by
  have aux : ∀ (us vs : List Nat), (∀ j ∈ us, j ∈ vs) → wipe (wipe σ us) vs = wipe σ vs := by
    intro us
    induction us with
    | nil => intro vs _; rfl
    | cons a r ih =>
      intro vs h
      show wipe ((wipe σ r).set a none) vs = _
      rw [wipe_set (h a (by simp)), ih vs fun j hj => h j (by simp [hj])]
  intro vs
  exact aux vs vs fun _ h => h
theorem eg_name {j : Nat} : EG K (gName j) [j] e es W (es.set j e) := fun F Hb H σ as v S r Q k => k _ (fun vs h => wipe_set (h j (by simp))) (S.set r)
theorem eg_tup2 {i j : Nat} {x y : D} : EG K (gTup K 2 (gCons (gName i) (gCons (gName j) gNil))) [i, j] (.dat (.tup [x, y])) es W ((es.set i (.dat x)).set j (.dat y)) := fun F Hb H σ as v S r Q k => by
  cases r with
  | tup h1 h2 =>
    cases h2 with
    | cons a1 t1 => cases t1 with
      | cons a2 t2 => cases t2 with
        | nil =>
          refine ⟨_, _, rfl, same_t S.base h1, rfl, _, _, rfl, _, _, rfl, rfl, ?_⟩
          refine k _ (fun vs h => ?_) ((S.set (e := .dat x) a1).set (e := .dat y) a2)
          rw [wipe_set (h j (by simp)), wipe_set (h i (by simp))]
theorem eg_tup3 {i j l : Nat} {x y z : D} : EG K (gTup K 3 (gCons (gName i) (gCons (gName j) (gCons (gName l) gNil)))) [i, j, l] (.dat (.tup [x, y, z])) es W (((es.set i (.dat x)).set j (.dat y)).set l (.dat z)) := fun F Hb H σ as v S r Q k => by
  cases r with
  | tup h1 h2 =>
    cases h2 with
    | cons a1 t1 => cases t1 with
      | cons a2 t2 => cases t2 with
        | cons a3 t3 => cases t3 with
          | nil =>
            refine ⟨_, _, rfl, same_t S.base h1, rfl, _, _, rfl, _, _, rfl, _, _, rfl, rfl, ?_⟩
            refine k _ (fun vs h => ?_) (((S.set (e := .dat x) a1).set (e := .dat y) a2).set (e := .dat z) a3)
            rw [wipe_set (h l (by simp)), wipe_set (h j (by simp)), wipe_set (h i (by simp))]
theorem sd_asgG {g : TG} {js : List Nat} (h : EV K te es W e W1) (hg : EG K g js e es W1 es1) : SDd K (tAsg te g) es W es1 W1 := fun F Hb H σ as D S k =>
  h F Hb H σ as S _ fun v Hb1 H1 as1 g1 s1 S1 r1 => hg F Hb1 H1 σ as1 v S1 r1 _ fun σ' _ S2 => (k.nx.on g1 s1).here S2 ⟨rfl, rfl⟩
theorem sd_asg {i : Nat} (h : EV K te es W e W1) : SDd K (tAsg te (gName i)) es W (es.set i e) W1 := sd_asgG h eg_name
theorem sd_par {i j : Nat} {ta : TA} (h : EA K ta es W [e1, e2] W1) : SDd K (tPar i j ta) es W ((es.set i e1).set j e2) W1 := fun F Hb H σ as D S k =>
  h F Hb H σ as S _ fun vs Hb1 H1 as1 g1 s1 S1 r1 => by
    cases r1 with
    | cons a1 t1 => cases t1 with
      | cons a2 t2 => cases t2 with
        | nil => exact ⟨_, _, rfl, (k.nx.on g1 s1).here ((S1.set a1).set a2) ⟨rfl, rfl⟩⟩
theorem sd_par3 {i j l : Nat} {ta : TA} {e3 : En} (h : EA K ta es W [e1, e2, e3] W1) : SDd K (tPar3 i j l ta) es W (((es.set i e1).set j e2).set l e3) W1 := fun F Hb H σ as D S k =>
  h F Hb H σ as S _ fun vs Hb1 H1 as1 g1 s1 S1 r1 => by
    cases r1 with
    | cons a1 t1 => cases t1 with
      | cons a2 t2 => cases t2 with
        | cons a3 t3 => cases t3 with
          | nil => exact ⟨_, _, _, rfl, (k.nx.on g1 s1).here (((S1.set a1).set a2).set a3) ⟨rfl, rfl⟩⟩
theorem sd_if {b : Bool} (h : ET K tt es W b W1) (h1 : b = true → SD K t es W1 P) (h2 : b = false → SD K u es W1 P) : SD K (tIfS tt t u) es W P := fun F Hb H σ as D S k =>
  h F Hb H σ as S _ fun Hb1 H1 as1 g1 s1 S1 => by
    cases b with
    | true =>
      show t D σ H1
      exact h1 rfl F Hb1 H1 σ as1 D S1 (k.on g1 s1)
    | false =>
      show u D σ H1
      exact h2 rfl F Hb1 H1 σ as1 D S1 (k.on g1 s1)
theorem sd_ret (h : EV K te es W e W1) (p : P.rt e W1) : SD K (tRet te) es W P := fun F Hb H σ as D S k =>
  h F Hb H σ as S _ fun v Hb1 H1 as1 g1 s1 S1 r1 => k.rt v Hb1 H1 σ as1 es W1 e p g1 s1 S1 r1
theorem sd_retN (p : P.rt (.dat .non) W) : SD K tRetN es W P := fun F Hb H σ as D S k => k.rt .non Hb H σ as es W _ p (Gr.refl _) (Same.refl _) S .non
theorem sd_drop (h : EV K te es W e W1) : SDd K (tDrop te) es W es W1 := fun F Hb H σ as D S k =>
  h F Hb H σ as S _ fun v Hb1 H1 as1 g1 s1 S1 r1 => (k.nx.on g1 s1).here S1 ⟨rfl, rfl⟩
theorem sd_break (p : P.bk es W) : SD K tBreak es W P := fun _ _ _ _ _ _ S k => k.bk.here S p
theorem sd_cont (p : P.ct es W) : SD K tCont es W P := fun _ _ _ _ _ _ S k => k.ct.here S p
theorem sd_aug {i : Nat} {a b : Int} {f : Int → Int → Int} (hx : es[i]? = some (.dat (.int a))) (h : EV K te es W (.dat (.int b)) W1) : SDd K (tAug i te (ipI f)) es W (es.set i (.dat (.int (f a b)))) W1 := fun F Hb H σ as D S k => by
  obtain ⟨v, h1, h2⟩ := S.slot i _ hx
  cases h2
  exact ⟨_, h1, h F Hb H σ as S _ fun v Hb1 H1 as1 g1 s1 S1 r1 => by
    cases r1
    exact ⟨a, b, rfl, rfl, (k.nx.on g1 s1).here (S1.set (e := .dat (.int (f a b))) (.int _)) ⟨rfl, rfl⟩⟩⟩
/-- an owned list of data is data from here on -/
theorem sd_freeze {i j : Nat} {l : List D} (h1 : es[j]? = some (.ptr i)) (h2 : W[i]? = some (.lst (l.map .dat))) (h : SD K t (es.set j (.dat (.lst l))) (W.set i .gone) P) : SD K t es W P := fun F Hb H σ as D S k => by
  obtain ⟨a, g1, g2⟩ := S.slot j _ h1
  obtain ⟨Hb', s1, S1, hd⟩ := S.freeze g1 h2
  have S2 := S1.set (i := j) (e := .dat (.lst l)) hd
  have e : σ.set j (some (.ref a)) = σ := by
    obtain ⟨hj, hv⟩ := List.getElem?_eq_some_iff.mp g2
    rw [← hv]; exact List.set_getElem_self hj
  rw [e] at S2
  exact h F Hb' H σ as D S2 (k.on (Gr.refl _) s1)
theorem ev_freeze {i : Nat} {l : List D} (h : EV K te es W (.ptr i) W1) (h2 : W1[i]? = some (.lst (l.map .dat))) : EV K te es W (.dat (.lst l)) (W1.set i .gone) := fun F Hb H σ as S Q k =>
  h F Hb H σ as S _ fun v Hb1 H1 as1 g1 s1 S1 r1 => by
    obtain ⟨a, g2, rfl⟩ := r1
    obtain ⟨Hb', s2, S2, hd⟩ := S1.freeze g2 h2
    exact (k.on g1 (s1.trans s2)).here S2 hd

/-! ### while -/
theorem sd_while {tb : TS} (I : Nat → List En → List Cn → Prop) (m0 : Nat) (h0 : I m0 es W)
    (hs : ∀ m e w, I m e w → ∃ b w1, ET K tt e w b w1 ∧ (b = false → P.nx e w1) ∧ (b = true → SD K tb e w1 { nx := fun e' w' => ∃ m', m' < m ∧ I m' e' w', rt := P.rt, bk := P.nx, ct := fun e' w' => ∃ m', m' < m ∧ I m' e' w' })) : SD K (tWhile tt tb) es W P := fun F Hb H σ as D S k => by
  refine ⟨fun m σ' H' => ∃ Hb' as' es' W', I m es' W' ∧ Gr as as' ∧ Same Hb Hb' ∧ ST K F Hb' H' σ' es' W' as', ⟨m0, Hb, as, es, W, h0, Gr.refl _, Same.refl _, S⟩, ?_⟩
  rintro m σ' H' ⟨Hb1, as1, es1, W1, hI, g1, s1, S1⟩
  obtain ⟨b, w1, ht, hf, hb⟩ := hs m es1 W1 hI
  refine ht F Hb1 H' σ' as1 S1 _ fun Hb2 H2 as2 g2 s2 S2 => ?_
  have k2 := k.on (g1.trans g2) (s1.trans s2)
  cases b with
  | false =>
    show D.nx σ' H2
    exact k2.nx.here S2 (hf rfl)
  | true =>
    refine ⟨fun σ3 H3 => ∃ m', m' < m ∧ ∃ Hb' as' es' W', I m' es' W' ∧ Gr as as' ∧ Same Hb Hb' ∧ ST K F Hb' H3 σ3 es' W' as', fun σ3 H3 h => h, ?_⟩
    refine hb rfl F Hb2 H2 σ' as2 _ S2 ⟨?_, k2.rt, k2.nx, ?_⟩
    · rintro Hb3 H3 σ3 as3 es3 W3 ⟨m', hm, hI'⟩ g3 s3 S3
      exact ⟨m', hm, Hb3, as3, es3, W3, hI', (g1.trans g2).trans g3, (s1.trans s2).trans s3, S3⟩
    · rintro Hb3 H3 σ3 as3 es3 W3 ⟨m', hm, hI'⟩ g3 s3 S3
      exact ⟨m', hm, Hb3, as3, es3, W3, hI', (g1.trans g2).trans g3, (s1.trans s2).trans s3, S3⟩

/-! ### what is walked -/
def EI (K : PySem.W.Frag) (wi : TI) (es : List En) (W : List Cn) (l : List En) (stay : List Cn → Prop) (W' : List Cn) : Prop :=
  ∀ F Hb H σ as, ST K F Hb H σ es W as → ∀ R : It → Hp → Prop,
    (∀ J Hb' H' as', Gr as as' → Same Hb Hb' → ST K F Hb' H' σ es W' as' →
      (∀ i F2 Hb2 H2 σ2 es2 W2 as2, ST K F2 Hb2 H2 σ2 es2 W2 as2 → Same Hb' Hb2 → Gr as' as2 → stay W2 →
        (∀ e, l[i]? = some e → J.go i H2 ∧ ∀ x H3, J.yld i H2 x H3 → ∃ Hb3, Same Hb2 Hb3 ∧ ST K F2 Hb3 H3 σ2 es2 W2 as2 ∧ RE K Hb3 as2 x e ∧ Same H2 H3) ∧ (l.length ≤ i → J.stop i H2)) → R J H') → wi σ H R
def iSeq (K : PySem.W.Frag) (tl : TE) : TI := fun σ H R => iList K tl σ H R ∨ iTup K tl σ H R
theorem pi_seq {X : Cx} {tg e : Expr} {tl : TE} (h1 : PI X tg e (iList X.K tl)) (h2 : PI X tg e (iTup X.K tl)) : PI X tg e (iSeq X.K tl) := ⟨fun pins s σ H R I h => by
  rcases h with h | h
  · exact h1.run pins s σ H R I h
  · exact h2.run pins s σ H R I h⟩
theorem DtA.map_dat {Hb : Hp} {as : List Addr} {xs : List V} {l : List D} (h : Paired (RE K Hb as) xs (l.map .dat)) : DtA K Hb xs l := DtA.of_dat (xs := xs) h
/-- a list or tuple that is data -/
theorem ei_dat {l : List D} {tl : TE} (hl : d = .lst l ∨ d = .rl l ∨ d = .tup l) (h : EV K tl es W (.dat d) W1) : EI K (iSeq K tl) es W (l.map .dat) (fun _ => True) W1 := fun F Hb H σ as S R k => by
  rcases hl with rfl | rfl | rfl
  · refine .inl (h F Hb H σ as S _ fun v Hb1 H1 as1 g1 s1 S1 r1 => ?_)
    cases r1 with
    | @lst a xs _ q1 q2 =>
      refine ⟨a, rfl, ⟨xs, SqL.of (S1.base _ _ q1)⟩, k _ Hb1 H1 as1 g1 s1 S1 fun i F2 Hb2 H2 σ2 es2 W2 as2 S2 s2 g2 _ => ?_⟩
      have hq : SqL K H2 a xs := SqL.of (S2.base _ _ (s2 _ _ q1))
      have hp : DtA K Hb2 xs l := DtA.mono s2 _ _ q2
      refine ⟨fun e he => ?_, fun hi => ⟨xs, hq, by rw [hp.length]; simpa using hi⟩⟩
      have he' : ∃ d0, l[i]? = some d0 ∧ e = .dat d0 := by
        rw [List.getElem?_map] at he
        cases q : l[i]? with
        | none => rw [q] at he; cases he
        | some d0 => rw [q] at he; cases he; exact ⟨d0, rfl, rfl⟩
      obtain ⟨d0, hd0, rfl⟩ := he'
      obtain ⟨x, hx, hxd⟩ := hp.get hd0
      refine ⟨⟨xs, x, hq, hx⟩, fun y H3 hy => ?_⟩
      obtain ⟨rfl, hy⟩ := hy
      have := hy xs hq
      rw [hx] at this; cases this
      exact ⟨Hb2, Same.refl _, S2, hxd, Same.refl _⟩
  · refine .inl (h F Hb H σ as S _ fun v Hb1 H1 as1 g1 s1 S1 r1 => ?_)
    cases r1 with
    | @rl a xs _ q1 q2 =>
      refine ⟨a, rfl, ⟨xs, same_l S1.base q1⟩, k _ Hb1 H1 as1 g1 s1 S1 fun i F2 Hb2 H2 σ2 es2 W2 as2 S2 s2 g2 _ => ?_⟩
      have hq : SqL K H2 a xs := same_l S2.base (same_l s2 q1)
      have hp : DtA K Hb2 xs l := DtA.mono s2 _ _ q2
      refine ⟨fun e he => ?_, fun hi => ⟨xs, hq, by rw [hp.length]; simpa using hi⟩⟩
      have he' : ∃ d0, l[i]? = some d0 ∧ e = .dat d0 := by
        rw [List.getElem?_map] at he
        cases q : l[i]? with
        | none => rw [q] at he; cases he
        | some d0 => rw [q] at he; cases he; exact ⟨d0, rfl, rfl⟩
      obtain ⟨d0, hd0, rfl⟩ := he'
      obtain ⟨x, hx, hxd⟩ := hp.get hd0
      refine ⟨⟨xs, x, hq, hx⟩, fun y H3 hy => ?_⟩
      obtain ⟨rfl, hy⟩ := hy
      have := hy xs hq
      rw [hx] at this; cases this
      exact ⟨Hb2, Same.refl _, S2, hxd, Same.refl _⟩
  · refine .inr (h F Hb H σ as S _ fun v Hb1 H1 as1 g1 s1 S1 r1 => ?_)
    cases r1 with
    | @tup a xs _ q1 q2 =>
      refine ⟨a, rfl, ⟨xs, same_t S1.base q1⟩, k _ Hb1 H1 as1 g1 s1 S1 fun i F2 Hb2 H2 σ2 es2 W2 as2 S2 s2 g2 _ => ?_⟩
      have hq : SqT K H2 a xs := same_t S2.base (same_t s2 q1)
      have hp : DtA K Hb2 xs l := DtA.mono s2 _ _ q2
      refine ⟨fun e he => ?_, fun hi => ⟨xs, hq, by rw [hp.length]; simpa using hi⟩⟩
      have he' : ∃ d0, l[i]? = some d0 ∧ e = .dat d0 := by
        rw [List.getElem?_map] at he
        cases q : l[i]? with
        | none => rw [q] at he; cases he
        | some d0 => rw [q] at he; cases he; exact ⟨d0, rfl, rfl⟩
      obtain ⟨d0, hd0, rfl⟩ := he'
      obtain ⟨x, hx, hxd⟩ := hp.get hd0
      refine ⟨⟨xs, x, hq, hx⟩, fun y H3 hy => ?_⟩
      obtain ⟨rfl, hy⟩ := hy
      have := hy xs hq
      rw [hx] at this; cases this
      exact ⟨Hb2, Same.refl _, S2, hxd, Same.refl _⟩
theorem ei_lst {l : List D} {tl : TE} (h : EV K tl es W (.dat (.lst l)) W1) : EI K (iSeq K tl) es W (l.map .dat) (fun _ => True) W1 := ei_dat (.inl rfl) h
theorem ei_tup {l : List D} {tl : TE} (h : EV K tl es W (.dat (.tup l)) W1) : EI K (iSeq K tl) es W (l.map .dat) (fun _ => True) W1 := ei_dat (.inr (.inr rfl)) h
theorem ei_rl {l : List D} {tl : TE} (h : EV K tl es W (.dat (.rl l)) W1) : EI K (iSeq K tl) es W (l.map .dat) (fun _ => True) W1 := ei_dat (.inr (.inl rfl)) h
/-- an owned list that stays while it is walked -/
theorem ei_own {j : Nat} {l : List En} {tl : TE} (h : EV K tl es W (.ptr j) W1) (hj : W1[j]? = some (.lst l)) : EI K (iSeq K tl) es W l (fun w => w[j]? = some (.lst l)) W1 := fun F Hb H σ as S R k => by
  refine .inl (h F Hb H σ as S _ fun v Hb1 H1 as1 g1 s1 S1 r1 => ?_)
  obtain ⟨a, ha, rfl⟩ := r1
  obtain ⟨_, _, xs0, hx0, _⟩ := S1.own j a _ ha hj rfl
  refine ⟨a, rfl, ⟨xs0, SqL.of hx0⟩, k _ Hb1 H1 as1 g1 s1 S1 fun i F2 Hb2 H2 σ2 es2 W2 as2 S2 s2 g2 hst => ?_⟩
  obtain ⟨_, _, xs, hx, hp⟩ := S2.own j a _ (g2.get ha) hst rfl
  refine ⟨fun e he => ?_, fun hi => ⟨xs, SqL.of hx, by rw [paired_length hp]; exact hi⟩⟩
  obtain ⟨x, hx1, hx2⟩ := paired_get hp he
  refine ⟨⟨xs, x, SqL.of hx, hx1⟩, fun y H3 hy => ?_⟩
  obtain ⟨rfl, hy⟩ := hy
  have := hy xs (SqL.of hx)
  rw [hx1] at this; cases this
  exact ⟨Hb2, Same.refl _, S2, hx2, Same.refl _⟩
def rngE (lo : Int) (n : Nat) : List En := (List.range n).map fun (i : Nat) => .dat (.int (lo + (i : Int)))
theorem rngE_length (lo : Int) (n : Nat) : (rngE lo n).length = n := by simp [rngE]
theorem rngE_get {lo : Int} {n i : Nat} (h : i < n) : (rngE lo n)[i]? = some (.dat (.int (lo + (i : Int)))) := by simp [rngE, h]
theorem rngE_of {lo : Int} {n i : Nat} {e : En} (h : (rngE lo n)[i]? = some e) : i < n ∧ e = .dat (.int (lo + (i : Int))) := by
  have hi : i < n := by
    have := (List.getElem?_eq_some_iff.mp h).1
    simpa [rngE] using this
  rw [rngE_get hi] at h
  exact ⟨hi, (Option.some.inj h).symm⟩
theorem ei_rngJ {lo : Int} {n : Nat} {i : Nat} {F2 Hb2 H2 : Hp} {σ2 : L2.St} {es2 : List En} {W2 : List Cn} {as2 : List Addr} (S2 : ST K F2 Hb2 H2 σ2 es2 W2 as2) :
    (∀ e, (rngE lo n)[i]? = some e → (Itr lo n).go i H2 ∧ ∀ x H3, (Itr lo n).yld i H2 x H3 → ∃ Hb3, Same Hb2 Hb3 ∧ ST K F2 Hb3 H3 σ2 es2 W2 as2 ∧ RE K Hb3 as2 x e ∧ Same H2 H3) ∧ ((rngE lo n).length ≤ i → (Itr lo n).stop i H2) := by
  refine ⟨fun e he => ?_, fun hi => by rw [rngE_length] at hi; exact hi⟩
  obtain ⟨hi, rfl⟩ := rngE_of he
  refine ⟨hi, fun x H3 hy => ?_⟩
  obtain ⟨rfl, rfl⟩ := hy
  exact ⟨Hb2, Same.refl _, S2, .int _, Same.refl _⟩
theorem ei_rng1 {ta : TA} {n : Int} (h : EA K ta es W [.dat (.int n)] W1) (hn : -(2 ^ 62) ≤ n ∧ n < 2 ^ 62) : EI K (iRng1 ta) es W (rngE 0 n.toNat) (fun _ => True) W1 := fun F Hb H σ as S R k =>
  h F Hb H σ as S _ fun vs Hb1 H1 as1 g1 s1 S1 r1 => by
    cases r1 with
    | cons a1 t1 => cases t1 with
      | nil =>
        cases a1
        exact ⟨n, rfl, hn.1, hn.2, k _ Hb1 H1 as1 g1 s1 S1 fun i F2 Hb2 H2 σ2 es2 W2 as2 S2 _ _ _ => ei_rngJ S2⟩
theorem ei_rng2 {ta : TA} {lo n : Int} (h : EA K ta es W [.dat (.int lo), .dat (.int n)] W1) (hl : -(2 ^ 62) ≤ lo ∧ lo < 2 ^ 62) (hn : -(2 ^ 62) ≤ n ∧ n < 2 ^ 62) : EI K (iRng2 ta) es W (rngE lo (n - lo).toNat) (fun _ => True) W1 := fun F Hb H σ as S R k =>
  h F Hb H σ as S _ fun vs Hb1 H1 as1 g1 s1 S1 r1 => by
    cases r1 with
    | cons a1 t1 => cases t1 with
      | cons a2 t2 => cases t2 with
        | nil =>
          cases a1; cases a2
          exact ⟨lo, n, rfl, ⟨hl.1, hl.2, hn.1, hn.2⟩, k _ Hb1 H1 as1 g1 s1 S1 fun i F2 Hb2 H2 σ2 es2 W2 as2 S2 _ _ _ => ei_rngJ S2⟩
/-- zip of two lists (two tuples) of data -/
def zipE (l m : List D) : List En := (l.zip m).map fun p => .dat (.tup [p.1, p.2])
theorem zipE_of {l m : List D} {i : Nat} {e : En} (h : (zipE l m)[i]? = some e) : ∃ x y, l[i]? = some x ∧ m[i]? = some y ∧ e = .dat (.tup [x, y]) := by
  unfold zipE at h
  rw [List.getElem?_map] at h
  cases q : (l.zip m)[i]? with
  | none => rw [q] at h; cases h
  | some p =>
    rw [q] at h; cases h
    rw [List.getElem?_zip_eq_some] at q
    exact ⟨p.1, p.2, q.1, q.2, rfl⟩
theorem ei_zip {ta : TA} {l m : List D} (h : EA K ta es W [.dat d1, .dat d2] W1) (hh : (d1 = .lst l ∧ d2 = .lst m) ∨ (d1 = .tup l ∧ d2 = .tup m)) : EI K (RZ.iZipA K ta) es W (zipE l m) (fun _ => True) W1 := fun F Hb H σ as S R k =>
  h F Hb H σ as S _ fun vs Hb1 H1 as1 g1 s1 S1 r1 => by
    cases r1 with
    | cons a1 t1 => cases t1 with
      | cons a2 t2 => cases t2 with
        | nil =>
          have len : ∀ {xs ys : List V} {Hb2 : Hp} {i : Nat}, DtA K Hb2 xs l → DtA K Hb2 ys m → (zipE l m).length ≤ i → xs.length ≤ i ∨ ys.length ≤ i := fun {xs ys Hb2 i} p1 p2 hi => by
            have e1 := p1.length
            have e2 := p2.length
            simp [zipE] at hi
            omega
          rcases hh with ⟨rfl, rfl⟩ | ⟨rfl, rfl⟩
          · cases a1 with
            | @lst a xs _ q1 q2 => cases a2 with
              | @lst b ys _ q3 q4 =>
                refine ⟨a, b, xs, ys, rfl, .inl ⟨SqL.of (S1.base _ _ q1), SqL.of (S1.base _ _ q3), k _ Hb1 H1 as1 g1 s1 S1 fun i F2 Hb2 H2 σ2 es2 W2 as2 S2 s2 g2 _ => ?_⟩⟩
                have c1 : SqL K H2 a xs := SqL.of (S2.base _ _ (s2 _ _ q1))
                have c2 : SqL K H2 b ys := SqL.of (S2.base _ _ (s2 _ _ q3))
                have p1 : DtA K Hb2 xs l := DtA.mono s2 _ _ q2
                have p2 : DtA K Hb2 ys m := DtA.mono s2 _ _ q4
                refine ⟨fun e he => ?_, fun hi => ⟨xs, ys, c1, c2, len p1 p2 hi⟩⟩
                obtain ⟨x, y, hx, hy, rfl⟩ := zipE_of he
                obtain ⟨u, hu, du⟩ := p1.get hx
                obtain ⟨w, hw, dw⟩ := p2.get hy
                refine ⟨⟨xs, ys, u, w, c1, c2, hu, hw⟩, fun z H3 hz => ?_⟩
                obtain ⟨T, x0, y0, rfl, hT, rfl, f1, f2⟩ := hz
                have e1 := f1 xs c1
                have e2 := f2 ys c2
                rw [hu] at e1; rw [hw] at e2; cases e1; cases e2
                obtain ⟨S3, s3⟩ := S2.new (o := .tup [u, w]) hT
                exact ⟨_, s3, S3, .tup (.inl (.inl upd_same)) (.cons (Dt.mono s3 _ _ du) (.cons (Dt.mono s3 _ _ dw) .nil)), fun c o q => by rw [upd_ne (ne_of_none q hT)]; exact q⟩
          · cases a1 with
            | @tup a xs _ q1 q2 => cases a2 with
              | @tup b ys _ q3 q4 =>
                refine ⟨a, b, xs, ys, rfl, .inr ⟨same_t S1.base q1, same_t S1.base q3, k _ Hb1 H1 as1 g1 s1 S1 fun i F2 Hb2 H2 σ2 es2 W2 as2 S2 s2 g2 _ => ?_⟩⟩
                have c1 : SqT K H2 a xs := same_t S2.base (same_t s2 q1)
                have c2 : SqT K H2 b ys := same_t S2.base (same_t s2 q3)
                have p1 : DtA K Hb2 xs l := DtA.mono s2 _ _ q2
                have p2 : DtA K Hb2 ys m := DtA.mono s2 _ _ q4
                refine ⟨fun e he => ?_, fun hi => ⟨xs, ys, c1, c2, len p1 p2 hi⟩⟩
                obtain ⟨x, y, hx, hy, rfl⟩ := zipE_of he
                obtain ⟨u, hu, du⟩ := p1.get hx
                obtain ⟨w, hw, dw⟩ := p2.get hy
                refine ⟨⟨xs, ys, u, w, c1, c2, hu, hw⟩, fun z H3 hz => ?_⟩
                obtain ⟨T, x0, y0, rfl, hT, rfl, f1, f2⟩ := hz
                have e1 := f1 xs c1
                have e2 := f2 ys c2
                rw [hu] at e1; rw [hw] at e2; cases e1; cases e2
                obtain ⟨S3, s3⟩ := S2.new (o := .tup [u, w]) hT
                exact ⟨_, s3, S3, .tup (.inl (.inl upd_same)) (.cons (Dt.mono s3 _ _ du) (.cons (Dt.mono s3 _ _ dw) .nil)), fun c o q => by rw [upd_ne (ne_of_none q hT)]; exact q⟩

/-! ### for -/
theorem sd_for {wi : TI} {g : TG} {tb : TS} {l : List En} {stay : List Cn → Prop} (hi : EI K wi es W l stay W1) (I : Nat → List En → List Cn → Prop) (h0 : I 0 es W1) (hst : ∀ i e w, I i e w → stay w)
    (hs : ∀ i x e w, l[i]? = some x → I i e w → ∃ js e2, EG K g js x e w e2 ∧ SD K tb e2 w { nx := I (i + 1), rt := P.rt, bk := P.nx, ct := I (i + 1) }) (hd : ∀ e w, I l.length e w → P.nx e w) : SD K (tFor wi g tb) es W P := fun F Hb H σ as D S k =>
  hi F Hb H σ as S _ fun J Hb1 H1 as1 g1 s1 S1 walk => by
    refine ⟨fun i m σ' H' => m = l.length - i ∧ i ≤ l.length ∧ ∃ Hb' as' es' W', I i es' W' ∧ Gr as1 as' ∧ Same Hb1 Hb' ∧ ST K F Hb' H' σ' es' W' as', ⟨l.length, by simp, Nat.zero_le _, Hb1, as1, es, W1, h0, Gr.refl _, Same.refl _, S1⟩, ?_⟩
    rintro i m σ' H' ⟨rfl, hil, Hb2, as2, es2, W2, hI, g2, s2, S2⟩
    have wk := walk i F Hb2 H' σ' es2 W2 as2 S2 s2 g2 (hst i es2 W2 hI)
    by_cases hlt : i < l.length
    · obtain ⟨hgo, hyl⟩ := wk.1 l[i] (by simp [hlt])
      refine .inr ⟨hgo, fun σ3 H3 => ∃ Hb' as' es' W', I (i + 1) es' W' ∧ Gr as1 as' ∧ Same Hb1 Hb' ∧ ST K F Hb' H3 σ3 es' W' as', fun σ3 H3 h => ⟨l.length - (i + 1), by omega, rfl, hlt, h⟩, fun x H3 hy => ?_⟩
      obtain ⟨Hb3, s3, S3, r3, _⟩ := hyl x H3 hy
      obtain ⟨js, e2, hg, hb⟩ := hs i l[i] es2 W2 (by simp [hlt]) hI
      refine hg F Hb3 H3 σ' as2 x S3 r3 _ fun σ4 _ S4 => ?_
      have kk := k.on (g1.trans g2) ((s1.trans s2).trans s3)
      refine hb F Hb3 H3 σ4 as2 _ S4 ⟨?_, kk.rt, kk.nx, ?_⟩
      · intro Hb5 H5 σ5 as5 es5 W5 hI5 g5 s5 S5
        exact ⟨Hb5, as5, es5, W5, hI5, g2.trans g5, (s2.trans s3).trans s5, S5⟩
      · intro Hb5 H5 σ5 as5 es5 W5 hI5 g5 s5 S5
        exact ⟨Hb5, as5, es5, W5, hI5, g2.trans g5, (s2.trans s3).trans s5, S5⟩
    · have e : i = l.length := by omega
      subst e
      exact .inl ⟨wk.2 (Nat.le_refl _), (k.on (g1.trans g2) (s1.trans s2)).nx.here S2 (hd es2 W2 hI)⟩

/-! ### comprehensions -/
def wipeE (es : List En) : List Nat → List En
  | [] => es
  | v :: vs => (wipeE es vs).set v .un
theorem ST.wipe (S : ST K F Hb H σ es W as) : ∀ vs : List Nat, ST K F Hb H (L2.wipe σ vs) (wipeE es vs) W as
  | [] => S
  | v :: vs => (ST.wipe S vs).unset
theorem ST.slots {σ1 : L2.St} {es1 : List En} (S : ST K F Hb H σ1 es1 W as) (hl : σ.length = es.length) (h : ∀ (i : Nat) (e : En), es[i]? = some e → RS K Hb as σ[i]? e) : ST K F Hb H σ es W as := ⟨S.base, S.frm, S.dis, S.len, S.own, S.inj, hl, h⟩
/-- a foreign object comes, changes, joins the base -/
theorem ST.outside {p : Addr} {o : HO} (S : ST K F Hb H σ es W as) (hp : H p = none) (nt : NT o) : ST K (upd F p o) Hb (upd H p o) σ es W as := by
  have hb : Hb p = none := S.base.free hp
  have liveNe : ∀ (j : Nat) (b : Addr) (d : Cn), as[j]? = some b → W[j]? = some d → live d = true → b ≠ p := fun j b d h1 h2 h3 => by
    obtain ⟨_, _, k3⟩ := S.own j b d h1 h2 h3
    obtain ⟨u, hu⟩ := k3.some h3
    exact ne_of_none hu hp
  refine ⟨fun b u e => by rw [upd_ne (ne_of_none e hb)]; exact S.base b u e, fun b u e => ?_, fun b u e => ?_, S.len, fun j b d g1 g2 g3 => ?_, S.inj, S.sl, S.slot⟩
  · by_cases h : b = p
    · subst h; rw [upd_same] at e ⊢; exact e
    · rw [upd_ne h] at e ⊢; exact S.frm b u e
  · by_cases h : b = p
    · subst h; rw [upd_same] at e; cases e; exact ⟨hb, nt⟩
    · rw [upd_ne h] at e; exact S.dis b u e
  · obtain ⟨k1, k2, k3⟩ := S.own j b d g1 g2 g3
    have ne := liveNe j b d g1 g2 g3
    exact ⟨k1, by rw [upd_ne ne]; exact k2, k3.mono (Gr.refl _) (Same.refl _) (by rw [upd_ne ne])⟩
theorem ST.outset {p : Addr} {o o' : HO} (S : ST K (upd F p o) Hb H σ es W as) (nt : NT o') : ST K (upd F p o') Hb (upd H p o') σ es W as := by
  have hb : Hb p = none := (S.dis p o upd_same).1
  have liveNe : ∀ (j : Nat) (b : Addr) (d : Cn), as[j]? = some b → W[j]? = some d → live d = true → b ≠ p := fun j b d h1 h2 h3 q => by
    obtain ⟨_, k2, _⟩ := S.own j b d h1 h2 h3
    subst q
    rw [upd_same] at k2; cases k2
  refine ⟨fun b u e => by rw [upd_ne (ne_of_none e hb)]; exact S.base b u e, fun b u e => ?_, fun b u e => ?_, S.len, fun j b d g1 g2 g3 => ?_, S.inj, S.sl, S.slot⟩
  · by_cases h : b = p
    · subst h; rw [upd_same] at e ⊢; exact e
    · rw [upd_ne h] at e ⊢
      exact S.frm b u (by rw [upd_ne h]; exact e)
  · by_cases h : b = p
    · subst h; rw [upd_same] at e; cases e; exact ⟨hb, nt⟩
    · rw [upd_ne h] at e; exact S.dis b u (by rw [upd_ne h]; exact e)
  · obtain ⟨k1, k2, k3⟩ := S.own j b d g1 g2 g3
    have ne := liveNe j b d g1 g2 g3
    rw [upd_ne ne] at k2
    exact ⟨k1, by rw [upd_ne ne]; exact k2, k3.mono (Gr.refl _) (Same.refl _) (by rw [upd_ne ne])⟩
theorem ST.adopt {p : Addr} {o : HO} (S : ST K (upd F p o) Hb H σ es W as) (hF : F p = none) : ST K F (upd Hb p o) H σ es W as ∧ Same Hb (upd Hb p o) := by
  have hb : Hb p = none := (S.dis p o upd_same).1
  have s1 : Same Hb (upd Hb p o) := fun a u e => by rw [upd_ne (ne_of_none e hb)]; exact e
  have FF : ∀ a u, F a = some u → a ≠ p := fun a u e q => by subst q; rw [hF] at e; cases e
  refine ⟨⟨fun b u e => ?_, fun b u e => S.frm b u (by rw [upd_ne (FF b u e)]; exact e), fun b u e => ?_, S.len, fun j b d g1 g2 g3 => ?_, S.inj, S.sl, fun i e h => RS.mono (Gr.refl _) s1 (S.slot i e h)⟩, s1⟩
  · by_cases h : b = p
    · subst h; rw [upd_same] at e; cases e; exact S.frm b o upd_same
    · rw [upd_ne h] at e; exact S.base b u e
  · have z := S.dis b u (by rw [upd_ne (FF b u e)]; exact e)
    exact ⟨by rw [upd_ne (FF b u e)]; exact z.1, z.2⟩
  · obtain ⟨k1, k2, k3⟩ := S.own j b d g1 g2 g3
    have ne : b ≠ p := fun q => by subst q; rw [upd_same] at k2; cases k2
    rw [upd_ne ne] at k2
    exact ⟨by rw [upd_ne ne]; exact k1, k2, k3.mono (Gr.refl _) s1 rfl⟩
/-- the core of a list comprehension: fs tells what each turn gives (none: left out) -/
theorem ev_lc {wi : TI} {g : TG} {vs js : List Nat} {l : List En} {stay : List Cn → Prop} {W0 : List Cn} (hi : EI K wi es W l stay W0) (fs : Nat → Option D) (Ws : Nat → List Cn) (hW0 : Ws 0 = W0) (hl : l.length ≤ 1000000) (hst : ∀ i, i ≤ l.length → stay (Ws i)) (hjs : ∀ j ∈ js, j ∈ vs)
    (step : ∀ i x, l[i]? = some x → ∃ e2, EG K g js x (wipeE es vs) (Ws i) e2 ∧ ((∃ Wt d, fs i = some d ∧ ET K tt e2 (Ws i) true Wt ∧ EV K te e2 Wt (.dat d) (Ws (i + 1))) ∨ (fs i = none ∧ ET K tt e2 (Ws i) false (Ws (i + 1))))) :
    EV K (tLc wi g tt te vs) es W (.dat (.lst ((List.range l.length).filterMap fs))) (Ws l.length) := fun F Hb H σ as S Q k =>
  hi F Hb H σ as S _ fun J Hb1 H1 as1 g1 s1 S1 walk p hp => by
    have hF : F p = none := S1.frm.free hp
    refine ⟨fun i m H' => m = l.length - i ∧ i ≤ l.length ∧ ∃ Hb' as' acc, Gr as1 as' ∧ Same Hb1 Hb' ∧ DtA K Hb' acc ((List.range i).filterMap fs) ∧ ST K (upd F p (.lst acc)) Hb' H' (L2.wipe σ vs) (wipeE es vs) (Ws i) as',
      ⟨l.length, by simp, Nat.zero_le _, Hb1, as1, [], Gr.refl _, Same.refl _, .nil, by rw [hW0]; exact (S1.outside hp NT.lst).wipe vs⟩, ?_⟩
    rintro i m H' ⟨rfl, hil, Hb2, as2, acc, g2, s2, hacc, S2⟩
    have wk := walk i _ Hb2 H' _ _ _ as2 S2 s2 g2 (hst i hil)
    by_cases hlt : i < l.length
    · obtain ⟨hgo, hyl⟩ := wk.1 l[i] (by simp [hlt])
      refine .inr ⟨hgo, fun H3 => ∃ Hb' as' acc, Gr as1 as' ∧ Same Hb1 Hb' ∧ DtA K Hb' acc ((List.range (i + 1)).filterMap fs) ∧ ST K (upd F p (.lst acc)) Hb' H3 (L2.wipe σ vs) (wipeE es vs) (Ws (i + 1)) as', fun H3 h => ⟨l.length - (i + 1), by omega, rfl, hlt, h⟩, fun x H3 hy => ?_⟩
      obtain ⟨Hb3, s3, S3, r3, _⟩ := hyl x H3 hy
      obtain ⟨e2, hg, hstep⟩ := step i l[i] (by simp [hlt])
      refine hg _ Hb3 H3 _ as2 x S3 r3 _ fun σ4 hw S4 => ⟨by rw [hw vs hjs, wipe_wipe], ?_⟩
      have back : ∀ {Hb5 H5 as5 F5 W5}, ST K F5 Hb5 H5 σ4 e2 W5 as5 → Same Hb2 Hb5 → Gr as2 as5 → ST K F5 Hb5 H5 (L2.wipe σ vs) (wipeE es vs) W5 as5 := fun {Hb5 H5 as5 F5 W5} S5 s5 g5 =>
        S5.slots (by have := (S.wipe vs).sl; exact this) fun i e h => RS.mono g5 s5 (S2.slot i e h)
      have lenacc : acc.length < sizeLine := by
        rw [hacc.length, sizeLine_eq]
        have := List.length_filterMap_le fs (List.range i)
        simp at this
        omega
      rcases hstep with ⟨Wt, d, hf, ht, he⟩ | ⟨hf, ht⟩
      · refine ht _ Hb3 H3 σ4 as2 S4 _ fun Hb5 H5 as5 g5 s5 S5 => ?_
        show te σ4 H5 _
        refine he _ Hb5 H5 σ4 as5 S5 _ fun y Hb6 H6 as6 g6 s6 S6 r6 => ?_
        refine ⟨acc, S6.frm p _ upd_same, lenacc, Hb6, as6, acc ++ [y], (g2.trans g5).trans g6, ((s2.trans s3).trans s5).trans s6, ?_, back (S6.outset NT.lst) ((s3.trans s5).trans s6) (g5.trans g6)⟩
        rw [List.range_succ, List.filterMap_append]
        have : [i].filterMap fs = [d] := by simp [hf]
        rw [this]
        exact (DtA.mono ((s3.trans s5).trans s6) _ _ hacc).append (.cons r6 .nil)
      · refine ht _ Hb3 H3 σ4 as2 S4 _ fun Hb5 H5 as5 g5 s5 S5 => ?_
        show ∃ Hb' as' acc, _
        refine ⟨Hb5, as5, acc, g2.trans g5, (s2.trans s3).trans s5, ?_, back S5 (s3.trans s5) g5⟩
        rw [List.range_succ, List.filterMap_append]
        have : [i].filterMap fs = [] := by simp [hf]
        rw [this, List.append_nil]
        exact DtA.mono (s3.trans s5) _ _ hacc
    · have e : i = l.length := by omega
      subst e
      refine .inl ⟨wk.2 (Nat.le_refl _), ?_⟩
      obtain ⟨S5, s5⟩ := S2.adopt hF
      have S6 : ST K F (upd Hb2 p (.lst acc)) H' σ es (Ws l.length) as2 := S5.slots S.sl fun i e h => RS.mono (g1.trans g2) ((s1.trans s2).trans s5) (S.slot i e h)
      exact k _ _ _ _ (g1.trans g2) ((s1.trans s2).trans s5) S6 (.lst upd_same (DtA.mono s5 _ _ hacc))
end
end AS
/-! AS4: calls, bodies, owned lists and dicts, slices, isinstance. -/
namespace AS
open PySem L2

/-! ### closed contents -/
def ClE (n : Nat) : En → Prop
  | .ptr j => j < n
  | _ => True
def ClC (n : Nat) : Cn → Prop
  | .gone => True
  | .lst l => ∀ e ∈ l, ClE n e
  | .dct l => ∀ p ∈ l, ClE n p.2
  | .ins _ l => ∀ p ∈ l, ClE n p.2
  | .dt _ => True
theorem RE.cut {K : PySem.W.Frag} {Hb : Hp} {as as' : List Addr} {v : V} {e : En} (g : Gr as as') (c : ClE as.length e) (h : RE K Hb as' v e) : RE K Hb as v e := by
  cases e with
  | un => trivial
  | dat d => exact h
  | ptr j =>
    obtain ⟨a, h1, h2⟩ := h
    obtain ⟨bs, rfl⟩ := g
    rw [List.getElem?_append_left c] at h1
    exact ⟨a, h1, h2⟩
theorem paired_mem {α β : Type} {P Q : α → β → Prop} : ∀ {l : List α} {m : List β}, (∀ a b, b ∈ m → P a b → Q a b) → Paired P l m → Paired Q l m
  | _, _, _, .nil => .nil
  | _, _, h, .cons r t => .cons (h _ _ (by simp) r) (paired_mem (fun a b hb => h a b (by simp [hb])) t)
theorem RC.cut {K : PySem.W.Frag} {Hb H : Hp} {as as' : List Addr} {a : Addr} {c : Cn} (g : Gr as as') (cl : ClC as.length c) (h : RC K Hb as' H a c) : RC K Hb as H a c := by
  cases c with
  | gone => trivial
  | lst l => obtain ⟨xs, h1, h2⟩ := h; exact ⟨xs, h1, paired_mem (fun _ b hb r => RE.cut g (cl b hb) r) h2⟩
  | dct l => obtain ⟨xs, h1, h2⟩ := h; exact ⟨xs, h1, paired_mem (fun _ b hb r => ⟨r.1, RE.cut g (cl b hb) r.2⟩) h2⟩
  | ins C l => obtain ⟨dx, xs, h1, h2⟩ := h; exact ⟨dx, xs, h1, paired_mem (fun _ b hb r => ⟨r.1, RE.cut g (cl b hb) r.2⟩) h2⟩
  | dt l => exact h
theorem ClC.dats {n : Nat} (l : List D) : ClC n (.lst (l.map .dat)) := fun e h => by
  obtain ⟨d, _, rfl⟩ := List.mem_map.mp h
  trivial

/-! ### promises over the abstract state -/
def spV (K : PySem.W.Frag) (args : List En) (W : List Cn) (r : En) (W' : List Cn) : List V → Hp → VK → Prop := fun vs H Q =>
  ∃ F Hb as, ST K F Hb H (vs.map some) args W as ∧ ∀ v Hb' H', Same Hb Hb' → ST K F Hb' H' [] [] W' as → RE K Hb' as v r → Q v H'
/-- what comes back is a new owned object -/
def spN (K : PySem.W.Frag) (args : List En) (W : List Cn) (W' : List Cn) (c : Cn) : List V → Hp → VK → Prop := fun vs H Q =>
  ∃ F Hb as, ST K F Hb H (vs.map some) args W as ∧ ∀ p Hb' H', Same Hb Hb' → ST K F Hb' H' [] [] (W' ++ [c]) (as ++ [p]) → Q (.ref p) H'
theorem spV.len {K : PySem.W.Frag} {args : List En} {W W' : List Cn} {r : En} {vs : List V} {H : Hp} {Q : VK} (h : spV K args W r W' vs H Q) : vs.length = args.length := by
  obtain ⟨_, _, _, S, _⟩ := h
  have := S.sl
  simpa using this
theorem spN.len {K : PySem.W.Frag} {args : List En} {W W' : List Cn} {c : Cn} {vs : List V} {H : Hp} {Q : VK} (h : spN K args W W' c vs H Q) : vs.length = args.length := by
  obtain ⟨_, _, _, S, _⟩ := h
  have := S.sl
  simpa using this

section
variable {K : PySem.W.Frag} {F Hb Hb' H H' : Hp} {σ : L2.St} {es es1 es2 : List En} {as as' : List Addr} {W W1 W2 W3 W' : List Cn} {e e1 e2 r : En} {ta tb te tc : TE} {d d1 d2 : D} {v : V} {P : Po} {t u : TS} {tt : TT}
theorem slots_of {vs : List V} {args : List En} (h : Paired (RE K Hb as) vs args) : (vs.map some).length = args.length ∧ ∀ (i : Nat) (e : En), args[i]? = some e → RS K Hb as (vs.map some)[i]? e := by
  refine ⟨by simp [paired_length h], fun i e he => ?_⟩
  obtain ⟨v, h1, h2⟩ := paired_get h he
  rw [List.getElem?_map, h1]
  exact RS.of h2
/-- a caller's objects as the callee sees them: cW its own, the others foreign -/
theorem call_in {args : List En} {cW R : List Cn} {vs : List V} (S : ST K F Hb H σ es (cW ++ R) as) (hv : Paired (RE K Hb as) vs args) (ca : ∀ e ∈ args, ClE cW.length e) (cc : ∀ c ∈ cW, ClC cW.length c) :
    ∃ F' as1, Gr as1 as ∧ as1.length = cW.length ∧ ST K F' Hb H (vs.map some) args cW as1 ∧ (∀ a, F' a = none → F a = none) ∧ (∀ a j c, F' a = none → as[cW.length + j]? = some a → R[j]? = some c → live c = true → False) ∧
      ∀ Hb' H' cW' σ' es', cW'.length = cW.length → Same Hb Hb' → ST K F' Hb' H' σ' es' cW' as1 → ST K F Hb' H' σ es (cW' ++ R) as := by
  have hlen : as.length = cW.length + R.length := by rw [S.len, List.length_append]
  let as1 := as.take cW.length
  let as2 := as.drop cW.length
  have h1 : as1.length = cW.length := by simp [as1]; omega
  have has : as = as1 ++ as2 := (List.take_append_drop _ _).symm
  let lv : List Addr := ((as2.zip R).filter fun p => live p.2).map (·.1)
  have mem_lv : ∀ a, a ∈ lv ↔ ∃ (j : Nat) (c : Cn), as[cW.length + j]? = some a ∧ R[j]? = some c ∧ live c = true := fun a => by
    constructor
    · intro h
      obtain ⟨p, hp, rfl⟩ := List.mem_map.mp h
      obtain ⟨hp1, hp2⟩ := List.mem_filter.mp hp
      obtain ⟨j, hj⟩ := List.mem_iff_getElem?.mp hp1
      rw [List.getElem?_zip_eq_some] at hj
      refine ⟨j, p.2, ?_, hj.2, hp2⟩
      rw [← hj.1]
      simp [as2]
    · rintro ⟨j, c, q1, q2, q3⟩
      refine List.mem_map.mpr ⟨(a, c), List.mem_filter.mpr ⟨List.mem_iff_getElem?.mpr ⟨j, ?_⟩, q3⟩, rfl⟩
      rw [List.getElem?_zip_eq_some]
      exact ⟨by simp [as2]; exact q1, q2⟩
  have getL : ∀ {i : Nat} {a : Addr}, as1[i]? = some a → as[i]? = some a ∧ i < cW.length := fun {i a} e => by
    have hi := (List.getElem?_eq_some_iff.mp e).1
    rw [has, List.getElem?_append_left hi]
    exact ⟨e, by omega⟩
  let F' : Hp := fun a => if a ∈ lv then H a else F a
  have F'in : ∀ a, a ∈ lv → F' a = H a := fun a h => if_pos h
  have F'out : ∀ a, a ∉ lv → F' a = F a := fun a h => if_neg h
  have lvOwn : ∀ a, a ∈ lv → Hb a = none ∧ F a = none ∧ ∃ o, H a = some o := fun a h => by
    obtain ⟨j, c, q1, q2, q3⟩ := (mem_lv a).mp h
    obtain ⟨k1, k2, k3⟩ := S.own _ a c q1 (by rw [List.getElem?_append_right (by omega)]; simpa using q2) q3
    exact ⟨k1, k2, k3.some q3⟩
  have notLv : ∀ {i : Nat} {a : Addr} {c : Cn}, as[i]? = some a → cW[i]? = some c → live c = true → a ∉ lv := fun {i a c} q1 q2 q3 h => by
    obtain ⟨j, c2, q4, q5, q6⟩ := (mem_lv a).mp h
    have hi : i < cW.length := (List.getElem?_eq_some_iff.mp q2).1
    have := S.inj i (cW.length + j) a c c2 q1 q4 (by rw [List.getElem?_append_left hi]; exact q2) (by rw [List.getElem?_append_right (by omega)]; simpa using q5) q3 q6
    omega
  have g : Gr as1 as := ⟨as2, has⟩
  have Fn : ∀ a, F' a = none → F a = none := fun a e => by
    by_cases h : a ∈ lv
    · obtain ⟨_, _, o, ho⟩ := lvOwn a h
      rw [F'in a h, ho] at e; cases e
    · rw [F'out a h] at e; exact e
  have Rn : ∀ a j c, F' a = none → as[cW.length + j]? = some a → R[j]? = some c → live c = true → False := fun a j c e q1 q2 q3 => by
    have h : a ∈ lv := (mem_lv a).mpr ⟨j, c, q1, q2, q3⟩
    obtain ⟨_, _, o, ho⟩ := lvOwn a h
    rw [F'in a h, ho] at e; cases e
  refine ⟨F', as1, g, h1, ⟨S.base, fun a o e => ?_, fun a o e => ?_, h1, fun i a c q1 q2 q3 => ?_, fun i j a c c2 q1 q2 q3 q4 q5 q6 => ?_, (slots_of hv).1, fun i e he => ?_⟩, Fn, Rn, ?_⟩
  · by_cases h : a ∈ lv
    · rw [F'in a h] at e; exact e
    · rw [F'out a h] at e; exact S.frm a o e
  · by_cases h : a ∈ lv
    · refine ⟨(lvOwn a h).1, fun xs q => ?_⟩
      obtain ⟨j, c, q1, q2, q3⟩ := (mem_lv a).mp h
      obtain ⟨_, _, k3⟩ := S.own _ a c q1 (by rw [List.getElem?_append_right (by omega)]; simpa using q2) q3
      rw [F'in a h, q] at e
      exact RC.nt q3 k3 xs e
    · rw [F'out a h] at e; exact S.dis a o e
  · obtain ⟨q1', hi⟩ := getL q1
    obtain ⟨k1, k2, k3⟩ := S.own i a c q1' (by rw [List.getElem?_append_left hi]; exact q2) q3
    refine ⟨k1, by rw [F'out a (notLv q1' q2 q3)]; exact k2, RC.cut g (by rw [h1]; exact cc c (List.mem_of_getElem? q2)) k3⟩
  · obtain ⟨q1', hi⟩ := getL q1
    obtain ⟨q2', hj⟩ := getL q2
    exact S.inj i j a c c2 q1' q2' (by rw [List.getElem?_append_left hi]; exact q3) (by rw [List.getElem?_append_left hj]; exact q4) q5 q6
  · have hv' : Paired (RE K Hb as1) vs args := paired_mem (fun _ b hb r => RE.cut g (by rw [h1]; exact ca b hb) r) hv
    exact (slots_of hv').2 i e he
  · intro Hb2 H2 cW2 σ2 es2 hl s2 S2
    have split : ∀ {i : Nat} {a : Addr} {c : Cn}, as[i]? = some a → (cW2 ++ R)[i]? = some c → (as1[i]? = some a ∧ cW2[i]? = some c) ∨ ∃ j, i = cW.length + j ∧ R[j]? = some c := fun {i a c} q1 q2 => by
      by_cases hi : i < cW.length
      · rw [has, List.getElem?_append_left (by omega)] at q1
        rw [List.getElem?_append_left (by omega)] at q2
        exact .inl ⟨q1, q2⟩
      · rw [List.getElem?_append_right (by omega), hl] at q2
        exact .inr ⟨i - cW.length, by omega, q2⟩
    have inLv : ∀ {j : Nat} {a : Addr} {c : Cn}, as[cW.length + j]? = some a → R[j]? = some c → live c = true → a ∈ lv := fun {j a c} q1 q2 q3 => (mem_lv a).mpr ⟨j, c, q1, q2, q3⟩
    have F'some : ∀ {a : Addr}, a ∈ lv → ∃ o, F' a = some o ∧ H a = some o ∧ H2 a = some o := fun {a} h => by
      obtain ⟨_, _, o, ho⟩ := lvOwn a h
      have e : F' a = some o := by rw [F'in a h]; exact ho
      exact ⟨o, e, ho, S2.frm a o e⟩
    refine ⟨S2.base, fun a o e => ?_, fun a o e => ?_, by rw [hlen, List.length_append, hl], fun i a c q1 q2 q3 => ?_, fun i j a c c2 q1 q2 q3 q4 q5 q6 => ?_, S.sl, fun i e he => RS.mono (Gr.refl _) s2 (S.slot i e he)⟩
    · have : a ∉ lv := fun h => by rw [(lvOwn a h).2.1] at e; cases e
      exact S2.frm a o (by rw [F'out a this]; exact e)
    · have : a ∉ lv := fun h => by rw [(lvOwn a h).2.1] at e; cases e
      exact S2.dis a o (by rw [F'out a this]; exact e)
    · rcases split q1 q2 with ⟨p1, p2⟩ | ⟨j, rfl, p2⟩
      · obtain ⟨k1, k2, k3⟩ := S2.own i a c p1 p2 q3
        have : a ∉ lv := fun h => by
          obtain ⟨o, e, _, _⟩ := F'some h
          rw [e] at k2; cases k2
        exact ⟨k1, by rw [← F'out a this]; exact k2, k3.mono g (Same.refl _) rfl⟩
      · have hin := inLv q1 p2 q3
        obtain ⟨o, e1, e2, e3⟩ := F'some hin
        obtain ⟨k1, k2, k3⟩ := S.own _ a c q1 (by rw [List.getElem?_append_right (by omega)]; simpa using p2) q3
        exact ⟨(S2.dis a o e1).1, k2, k3.mono (Gr.refl _) s2 (by rw [e2, e3])⟩
    · rcases split q1 q3 with ⟨p1, p2⟩ | ⟨i', rfl, p2⟩
      · rcases split q2 q4 with ⟨p3, p4⟩ | ⟨j', rfl, p4⟩
        · exact S2.inj i j a c c2 p1 p3 p2 p4 q5 q6
        · obtain ⟨_, k2, _⟩ := S2.own i a c p1 p2 q5
          obtain ⟨o, e, _, _⟩ := F'some (inLv q2 p4 q6)
          rw [e] at k2; cases k2
      · rcases split q2 q4 with ⟨p3, p4⟩ | ⟨j', rfl, p4⟩
        · obtain ⟨_, k2, _⟩ := S2.own j a c2 p3 p4 q6
          obtain ⟨o, e, _, _⟩ := F'some (inLv q1 p2 q5)
          rw [e] at k2; cases k2
        · exact S.inj _ _ a c c2 q1 q2 (by rw [List.getElem?_append_right (by omega)]; simpa using p2) (by rw [List.getElem?_append_right (by omega)]; simpa using p4) q5 q6
theorem ev_call {sp : Sp} {E : XK} {tA : TA} {args : List En} {cW R cW' : List Cn} (ha : EA K tA es W args (cW ++ R)) (h : ∀ vs H Q, spV K args cW r cW' vs H Q → sp vs H Q E) (hl : cW'.length = cW.length)
    (ca : ∀ e ∈ args, ClE cW.length e) (cc : ∀ c ∈ cW, ClC cW.length c) : EV K (tCall sp [] E tA) es W r (cW' ++ R) := fun F Hb H σ as S Q k =>
  ha F Hb H σ as S _ fun vs Hb1 H1 as1 g1 s1 S1 r1 => by
    obtain ⟨F', as0, g0, h0, Sc, Fn, Rn, back⟩ := call_in S1 r1 ca cc
    show sp (vs ++ []) H1 Q E
    rw [List.append_nil]
    refine h vs H1 Q ⟨F', Hb1, as0, Sc, fun v Hb2 H2 s2 S2 r2 => ?_⟩
    exact k v Hb2 H2 as1 g1 (s1.trans s2) (back Hb2 H2 cW' [] [] hl s2 S2) (RE.mono g0 (Same.refl _) r2)
/-- a call that touches no owned object: args and result are data -/
theorem ev_callD {sp : Sp} {E : XK} {tA : TA} {l : List D} (ha : EA K tA es W (l.map .dat) W1) (h : ∀ vs H Q, spV K (l.map .dat) [] (.dat d) [] vs H Q → sp vs H Q E) : EV K (tCall sp [] E tA) es W (.dat d) W1 :=
  ev_call (cW := []) (R := W1) (cW' := []) ha h rfl (fun e he => by obtain ⟨d, _, rfl⟩ := List.mem_map.mp he; trivial) (fun c hc => absurd hc (by simp))
/-- an object that stands apart joins the owned ones -/
theorem ST.join {p : Addr} {c : Cn} (S : ST K F Hb H σ es W as) (k1 : Hb p = none) (k2 : F p = none) (kc : RC K Hb (as ++ [p]) H p c) (ap : ∀ (i : Nat) (d : Cn), as[i]? = some p → W[i]? = some d → live d = true → False) : ST K F Hb H σ es (W ++ [c]) (as ++ [p]) := by
  have g2 : Gr as (as ++ [p]) := ⟨[p], rfl⟩
  have hn := S.len
  have split : ∀ {i : Nat} {a : Addr} {d : Cn}, (as ++ [p])[i]? = some a → (W ++ [c])[i]? = some d → (as[i]? = some a ∧ W[i]? = some d) ∨ (a = p ∧ d = c ∧ i = as.length) := fun {i a d} h1 h2 => by
    by_cases hi : i < as.length
    · rw [List.getElem?_append_left hi] at h1
      rw [List.getElem?_append_left (by omega)] at h2
      exact .inl ⟨h1, h2⟩
    · have hlt : i < (as ++ [p]).length := (List.getElem?_eq_some_iff.mp h1).1
      have e : i = as.length := by simp at hlt; omega
      subst e
      rw [List.getElem?_append_right (Nat.le_refl _)] at h1
      rw [hn, List.getElem?_append_right (Nat.le_refl _)] at h2
      simp at h1 h2
      exact .inr ⟨h1.symm, h2.symm, rfl⟩
  refine ⟨S.base, S.frm, S.dis, by simp [hn], fun i a d h1 h2 h3 => ?_, fun i j2 a d d2 h1 h2 h3 h4 h5 h6 => ?_, S.sl, fun i e h => RS.mono g2 (Same.refl _) (S.slot i e h)⟩
  · rcases split h1 h2 with ⟨q1, q2⟩ | ⟨rfl, rfl, rfl⟩
    · obtain ⟨m1, m2, m3⟩ := S.own i a d q1 q2 h3
      exact ⟨m1, m2, m3.mono g2 (Same.refl _) rfl⟩
    · exact ⟨k1, k2, kc⟩
  · rcases split h1 h3 with ⟨q1, q2⟩ | ⟨rfl, rfl, rfl⟩
    · rcases split h2 h4 with ⟨q3, q4⟩ | ⟨rfl, rfl, rfl⟩
      · exact S.inj i j2 a d d2 q1 q3 q2 q4 h5 h6
      · exact (ap _ _ q1 q2 h5).elim
    · rcases split h2 h4 with ⟨q3, q4⟩ | ⟨_, rfl, rfl⟩
      · exact (ap _ _ q3 q4 h6).elim
      · rfl

/-! ### a def's body -/
theorem start_slots {N : List Str} {vs : List V} {args : List En} (S : ST K F Hb H (vs.map some) args W as) :
    ST K F Hb H (L2.start N vs) (args ++ List.replicate (N.length - args.length) .un) W as := by
  have hl : vs.length = args.length := by have := S.sl; simpa using this
  refine S.slots (by unfold L2.start; simp [hl]) fun i e he => ?_
  by_cases hi : i < args.length
  · rw [List.getElem?_append_left hi] at he
    unfold L2.start
    rw [List.getElem?_append_left (by simpa [hl] using hi)]
    exact S.slot i e he
  · rw [List.getElem?_append_right (by omega), List.getElem?_replicate] at he
    split at he
    · cases he; trivial
    · cases he
theorem ST.take {n : Nat} (S : ST K F Hb H σ es W as) (g : Gr as' as) (hn : as'.length = W'.length) (hW : W.take as'.length = W') (cc : ∀ c ∈ W', ClC as'.length c) : ST K F Hb H [] [] W' as' := by
  have get : ∀ {i : Nat} {a : Addr} {c : Cn}, as'[i]? = some a → W'[i]? = some c → as[i]? = some a ∧ W[i]? = some c := fun {i a c} h1 h2 => by
    refine ⟨g.get h1, ?_⟩
    have hi := (List.getElem?_eq_some_iff.mp h1).1
    rw [← hW, List.getElem?_take_of_lt hi] at h2
    exact h2
  refine ⟨S.base, S.frm, S.dis, hn, fun i a c h1 h2 h3 => ?_, fun i j a c c2 h1 h2 h3 h4 h5 h6 => S.inj i j a c c2 (get h1 h3).1 (get h2 h4).1 (get h1 h3).2 (get h2 h4).2 h5 h6, rfl, fun i e h => by simp at h⟩
  obtain ⟨q1, q2⟩ := get h1 h2
  obtain ⟨k1, k2, k3⟩ := S.own i a c q1 q2 h3
  exact ⟨k1, k2, RC.cut g (cc c (List.mem_of_getElem? h2)) k3⟩
theorem fn_go {N : List Str} {vs : List V} {args : List En} {Q : VK} (h : spV K args W r W' vs H Q) (cr : ClE W.length r) (cc : ∀ c ∈ W', ClC W.length c) (hl : W'.length = W.length)
    (hb : SD K t (args ++ List.replicate (N.length - args.length) .un) W ⟨fun _ w => r = .dat .non ∧ w.take W.length = W', fun e w => e = r ∧ w.take W.length = W', fun _ _ => False, fun _ _ => False⟩) :
    t { nx := fun _ H' => Q .non H', rt := Q } (L2.start N vs) H := by
  obtain ⟨F, Hb, as, S, k⟩ := h
  have hn : as.length = W'.length := by rw [S.len, hl]
  refine hb F Hb H _ as _ (start_slots S) ⟨?_, ?_, fun _ _ _ _ _ _ x => x.elim, fun _ _ _ _ _ _ x => x.elim⟩
  · rintro Hb' H' σ' as' es' w ⟨rfl, hw⟩ g s S'
    exact k .non Hb' H' s (S'.take (n := 0) g hn (by rw [S.len]; exact hw) (by rw [S.len]; exact cc)) .non
  · rintro v Hb' H' σ' as' es' w e ⟨rfl, hw⟩ g s S' rv
    exact k v Hb' H' s (S'.take (n := 0) g hn (by rw [S.len]; exact hw) (by rw [S.len]; exact cc)) (RE.cut g (by rw [S.len]; exact cr) rv)
/-- a def over data alone -/
theorem fn_goD {N : List Str} {vs : List V} {l : List D} {Q : VK} (h : spV K (l.map .dat) [] (.dat d) [] vs H Q)
    (hb : SD K t (l.map .dat ++ List.replicate (N.length - l.length) .un) [] ⟨fun _ _ => d = .non, fun e _ => e = .dat d, fun _ _ => False, fun _ _ => False⟩) :
    t { nx := fun _ H' => Q .non H', rt := Q } (L2.start N vs) H :=
  fn_go h trivial (fun c hc => absurd hc (by simp)) rfl (by
    rw [List.length_map]
    exact hb.imp (fun _ w x => ⟨by rw [x], by simp⟩) (fun _ w x => ⟨x, by simp⟩) (fun _ _ x => x) (fun _ _ x => x))
/-- what comes back is the owned object number k, its content c -/
theorem fn_goN {N : List Str} {vs : List V} {args : List En} {c : Cn} {Q : VK} (h : spN K args W W' c vs H Q) (cc : ∀ x ∈ W', ClC W.length x) (c0 : ClC W.length c) (hc : live c = true) (hl : W'.length = W.length)
    (hb : SD K t (args ++ List.replicate (N.length - args.length) .un) W ⟨fun _ _ => False, fun e w => ∃ k, e = .ptr k ∧ w[k]? = some c ∧ W.length ≤ k ∧ w.take W.length = W', fun _ _ => False, fun _ _ => False⟩) :
    t { nx := fun _ H' => Q .non H', rt := Q } (L2.start N vs) H := by
  obtain ⟨F, Hb, as, S, k⟩ := h
  have hn : as.length = W'.length := by rw [S.len, hl]
  refine hb F Hb H _ as _ (start_slots S) ⟨fun _ _ _ _ _ _ x => x.elim, ?_, fun _ _ _ _ _ _ x => x.elim, fun _ _ _ _ _ _ x => x.elim⟩
  rintro v Hb' H' σ' as' es' w e ⟨j, rfl, hj, hjW, hw⟩ g s S' ⟨p, hp, rfl⟩
  have S1 : ST K F Hb' H' [] [] W' as := S'.take (n := 0) g hn (by rw [S.len]; exact hw) (by rw [S.len]; exact cc)
  obtain ⟨k1, k2, k3⟩ := S'.own j p c hp hj hc
  have apart : ∀ {i : Nat} {d : Cn}, as[i]? = some p → W'[i]? = some d → live d = true → False := fun {i d} h1 h2 h3 => by
    have hi := (List.getElem?_eq_some_iff.mp h1).1
    have h2' : w[i]? = some d := by rw [← hw, List.getElem?_take_of_lt (by omega)] at h2; exact h2
    have := S'.inj i j p d c (g.get h1) hp h2' hj h3 hc
    rw [S.len] at hi; omega
  have kc : RC K Hb' as H' p c := RC.cut g (by rw [S.len]; exact c0) k3
  exact k p Hb' H' s (S1.join k1 k2 (kc.mono ⟨[p], rfl⟩ (Same.refl _) rfl) fun i d h1 h2 h3 => apart h1 h2 h3)
/-- a call whose result is a new owned object (the callee sees no owned object of ours) -/
theorem ev_callN {sp : Sp} {E : XK} {tA : TA} {l : List D} {c : Cn} (ha : EA K tA es W (l.map .dat) W1) (h : ∀ vs H Q, spN K (l.map .dat) [] [] c vs H Q → sp vs H Q E) (c0 : ClC 0 c) (hc : live c = true) : EV K (tCall sp [] E tA) es W (.ptr W1.length) (W1 ++ [c]) := fun F Hb H σ as S Q k =>
  ha F Hb H σ as S _ fun vs Hb1 H1 as1 g1 s1 S1 r1 => by
    obtain ⟨F', as0, g0, h0, Sc, Fn, Rn, back⟩ := call_in (cW := []) (R := W1) S1 r1 (fun e he => by obtain ⟨d, _, rfl⟩ := List.mem_map.mp he; trivial) (fun c hc => absurd hc (by simp))
    show sp (vs ++ []) H1 Q E
    rw [List.append_nil]
    refine h vs H1 Q ⟨F', Hb1, as0, Sc, fun p Hb2 H2 s2 S2 => ?_⟩
    have e0 : as0 = [] := List.length_eq_zero_iff.mp h0
    subst e0
    obtain ⟨k1, k2, k3⟩ := S2.own 0 p c (by simp) (by simp) hc
    have S3 : ST K F' Hb2 H2 [] [] [] [] := S2.take (n := 0) (W' := []) (as' := []) ⟨[p], by simp⟩ rfl (by simp) (fun c hc => absurd hc (by simp))
    have S4 := back Hb2 H2 [] [] [] rfl s2 S3
    have S4 : ST K F Hb2 H2 σ es W1 as1 := S4
    have g2 : Gr as1 (as1 ++ [p]) := ⟨[p], rfl⟩
    have kc : RC K Hb2 (as1 ++ [p]) H2 p c := by
      have z : RC K Hb2 [] H2 p c := RC.cut (as' := [] ++ [p]) ⟨[p], rfl⟩ c0 k3
      exact z.mono ⟨as1 ++ [p], by simp⟩ (Same.refl _) rfl
    have S5 := S4.join k1 (Fn p k2) kc fun i d h1 h2 h3 => Rn p i d k2 (by simpa using h1) h2 h3
    refine k (.ref p) Hb2 H2 (as1 ++ [p]) (g1.trans g2) (s1.trans s2) S5 ⟨p, ?_, rfl⟩
    rw [← S1.len, List.getElem?_append_right (Nat.le_refl _)]
    simp
end
end AS
/-! AS5: owned lists and dicts changed, slices, isinstance, in, sums. -/
namespace AS
open PySem L2
section
variable {K : PySem.W.Frag} {F Hb Hb' H H' : Hp} {σ : L2.St} {es es1 es2 : List En} {as as' : List Addr} {W W1 W2 W3 W' : List Cn} {e e1 e2 r : En} {ta tb te tc td ty to : TE} {d d1 d2 : D} {v : V} {P : Po} {t u : TS} {tt : TT}
theorem paired_append {α β : Type} {P : α → β → Prop} : ∀ {l l' : List α} {m m' : List β}, Paired P l m → Paired P l' m' → Paired P (l ++ l') (m ++ m')
  | _, _, _, _, .nil, h => h
  | _, _, _, _, .cons r t, h => .cons r (paired_append t h)
theorem paired_set {α β : Type} {P : α → β → Prop} {a : α} {b : β} (h : P a b) : ∀ {l : List α} {m : List β} (i : Nat), Paired P l m → Paired P (l.set i a) (m.set i b)
  | _, _, _, .nil => .nil
  | _, _, 0, .cons _ t => .cons h t
  | _, _, i + 1, .cons r t => .cons r (paired_set h i t)
theorem paired_dropLast {α β : Type} {P : α → β → Prop} : ∀ {l : List α} {m : List β}, Paired P l m → Paired P l.dropLast m.dropLast
  | _, _, .nil => .nil
  | _, _, .cons r .nil => .nil
  | _, _, .cons r (.cons q t) => .cons r (paired_dropLast (.cons q t))
theorem paired_eraseIdx {α β : Type} {P : α → β → Prop} : ∀ {l : List α} {m : List β} (i : Nat), Paired P l m → Paired P (l.eraseIdx i) (m.eraseIdx i)
  | _, _, _, .nil => .nil
  | _, _, 0, .cons _ t => t
  | _, _, i + 1, .cons r t => .cons r (paired_eraseIdx i t)
/-- the owned object number i, as it stands -/
theorem ST.at {i : Nat} {a : Addr} {l : List En} (S : ST K F Hb H σ es W as) (ha : as[i]? = some a) (hW : W[i]? = some (.lst l)) : ∃ xs, H a = some (.lst xs) ∧ Paired (RE K Hb as) xs l := (S.own i a _ ha hW rfl).2.2
/-- xs.append(e) -/
theorem ev_append {i : Nat} {l : List En} (ho : EV K to es W (.ptr i) W1) (he : EV K te es W1 e W2) (h : W2[i]? = some (.lst l)) (h1 : ∃ m, W1[i]? = some (.lst m)) (hz : l.length < 16777216) : EV K (tBM K "list" rAppend to (tCons te tNil)) es W (.dat .non) (W2.set i (.lst (l ++ [e]))) := fun F Hb H σ as S Q k =>
  ho F Hb H σ as S _ fun v Hb1 H1 as1 g1 s1 S1 r1 => by
    obtain ⟨a, ha, rfl⟩ := r1
    obtain ⟨m, hm⟩ := h1
    obtain ⟨xs0, hx0, _⟩ := S1.at ha hm
    refine ⟨.inl ⟨rfl, _, SqL.of hx0⟩, he F Hb1 H1 σ as1 S1 _ fun y Hb2 H2 as2 g2 s2 S2 r2 => ?_⟩
    obtain ⟨xs, hx, hp⟩ := S2.at (g2.get ha) h
    refine ⟨a, xs, y, rfl, rfl, hx, by rw [paired_length hp, sizeLine_eq]; exact hz, ?_⟩
    exact k .non _ _ _ (g1.trans g2) (s1.trans s2) (S2.write (g2.get ha) h rfl ⟨_, upd_same, paired_append hp (.cons r2 .nil)⟩) .non
/-- xs.pop() -/
theorem ev_pop {i : Nat} {l : List En} (ho : EV K to es W (.ptr i) W1) (h : W1[i]? = some (.lst l)) (hl : l[l.length - 1]? = some e) : EV K (tBM0 K "list" rPop to) es W e (W1.set i (.lst l.dropLast)) := fun F Hb H σ as S Q k =>
  ho F Hb H σ as S _ fun v Hb1 H1 as1 g1 s1 S1 r1 => by
    obtain ⟨a, ha, rfl⟩ := r1
    obtain ⟨xs, hx, hp⟩ := S1.at ha h
    obtain ⟨y, hy, ry⟩ := paired_get hp hl
    refine ⟨.inl ⟨rfl, _, SqL.of hx⟩, a, xs, y, rfl, rfl, hx, by rw [paired_length hp]; exact hy, ?_⟩
    exact k y _ _ _ g1 s1 (S1.write ha h rfl ⟨_, upd_same, paired_dropLast hp⟩) ry
/-- xs.pop(i) -/
theorem ev_popAt {i j : Nat} {z : Int} {l : List En} (ho : EV K to es W (.ptr i) W1) (he : EV K te es W1 (.dat (.int z)) W2) (h1 : ∃ m, W1[i]? = some (.lst m)) (h : W2[i]? = some (.lst l)) (hz : z = (j : Int)) (hj : l[j]? = some e) (hb : l.length < 1000000) :
    EV K (tBM K "list" rPopAt to (tCons te tNil)) es W e (W2.set i (.lst (l.eraseIdx j))) := fun F Hb H σ as S Q k =>
  ho F Hb H σ as S _ fun v Hb1 H1 as1 g1 s1 S1 r1 => by
    obtain ⟨a, ha, rfl⟩ := r1
    obtain ⟨m, hm⟩ := h1
    obtain ⟨xs0, hx0, _⟩ := S1.at ha hm
    refine ⟨.inl ⟨rfl, _, SqL.of hx0⟩, he F Hb1 H1 σ as1 S1 _ fun y Hb2 H2 as2 g2 s2 S2 r2 => ?_⟩
    cases r2
    subst hz
    obtain ⟨xs, hx, hp⟩ := S2.at (g2.get ha) h
    obtain ⟨y, hy, ry⟩ := paired_get hp hj
    have hlt : j < l.length := (List.getElem?_eq_some_iff.mp hj).1
    have hix : seqIndex? (j : Int) xs.length = some j := by
      have z := (ixN_seq (n := xs.length) (i := (j : Int)) (j := j) (by unfold ixN; rw [if_pos (by omega), if_pos (by rw [paired_length hp]; omega)]; simp)).1
      exact z
    refine ⟨a, xs, (j : Int), j, y, rfl, rfl, hx, by omega, by omega, hix, hy, ?_⟩
    exact k y _ _ _ (g1.trans g2) (s1.trans s2) (S2.write (g2.get ha) h rfl ⟨_, upd_same, paired_eraseIdx j hp⟩) ry
/-- a target o[i], o an owned list: told by its own judgement, as it writes -/
def EGw (K : PySem.W.Frag) (g : TG) (e : En) (es : List En) (W : List Cn) (es' : List En) (W' : List Cn) : Prop :=
  ∀ F Hb H σ as v, ST K F Hb H σ es W as → RE K Hb as v e → ∀ Q : L2.St → Hp → Prop, (∀ σ' Hb' H' as', Gr as as' → Same Hb Hb' → ST K F Hb' H' σ' es' W' as' → Q σ' H') → g v σ H Q
theorem EG.w {g : TG} {js : List Nat} (h : EG K g js e es W es1) : EGw K g e es W es1 W := fun F Hb H σ as v S r Q k => h F Hb H σ as v S r Q fun σ' _ S' => k σ' Hb H as (Gr.refl _) (Same.refl _) S'
theorem egw_name {j : Nat} : EGw K (gName j) e es W (es.set j e) W := EG.w eg_name
theorem egw_sub {i : Nat} {z : Int} {j : Nat} {l : List En} {W2 : List Cn} (ho : EV K to es W (.ptr i) W1) (hi : EV K te es W1 (.dat (.int z)) W2) (h : W2[i]? = some (.lst l)) (hj : ixN l.length z = some j) : EGw K (gSub to te rSetL) e es W es (W2.set i (.lst (l.set j e))) := fun F Hb H σ as v S r Q k =>
  ho F Hb H σ as S _ fun o Hb1 H1 as1 g1 s1 S1 r1 => hi F Hb1 H1 σ as1 S1 _ fun y Hb2 H2 as2 g2 s2 S2 r2 => by
    obtain ⟨a, ha, rfl⟩ := r1
    cases r2
    obtain ⟨xs, hx, hp⟩ := S2.at (g2.get ha) h
    refine ⟨a, xs, z, j, rfl, rfl, hx, by rw [paired_length hp]; exact hj, ?_⟩
    exact k σ Hb2 _ as2 (g1.trans g2) (s1.trans s2) (S2.write (g2.get ha) h rfl ⟨_, upd_same, paired_set (RE.mono (g1.trans g2) (s1.trans s2) r) j hp⟩)
theorem sd_asgW {g : TG} (h : EV K te es W e W1) (hg : EGw K g e es W1 es1 W2) : SDd K (tAsg te g) es W es1 W2 := fun F Hb H σ as D S k =>
  h F Hb H σ as S _ fun v Hb1 H1 as1 g1 s1 S1 r1 => hg F Hb1 H1 σ as1 v S1 r1 _ fun σ' Hb2 H2 as2 g2 s2 S2 => (k.nx.on (g1.trans g2) (s1.trans s2)).here S2 ⟨rfl, rfl⟩
/-- a, b = x, y with any targets: the tuple's items, one after the other -/
theorem sd_asgT2 {g1 g2 : TG} {ta : TA} {es2 : List En} {W2 : List Cn} {a b : En} (h : EA K ta es W [a, b] W1) (h1 : EGw K g1 a es W1 es1 W2) (h2 : EGw K g2 b es1 W2 es2 W3) : SDd K (tAsg (tTup ta) (gTup K 2 (gCons g1 (gCons g2 gNil)))) es W es2 W3 := fun F Hb H σ as D S k =>
  h F Hb H σ as S _ fun vs Hb1 H1 as1 g1' s1 S1 r1 => by
    cases r1 with
    | @cons x _ xs _ a1 t1 => cases t1 with
      | @cons y _ ys _ a2 t2 => cases t2 with
        | nil =>
          refine ⟨by show 2 ≤ sizeLine; decide, fun p hp => ?_⟩
          obtain ⟨S2, s2⟩ := S1.new (o := .tup [x, y]) hp
          refine ⟨p, [x, y], rfl, .inl (.inl upd_same), rfl, x, [y], rfl, ?_⟩
          refine h1 F _ _ σ as1 x S2 (RE.mono (Gr.refl _) s2 a1) _ fun σ3 Hb3 H3 as3 g3 s3 S3 => ⟨y, [], rfl, ?_⟩
          refine h2 F Hb3 H3 σ3 as3 y S3 (RE.mono g3 (s2.trans s3) a2) _ fun σ4 Hb4 H4 as4 g4 s4 S4 => ⟨rfl, ?_⟩
          exact (k.nx.on ((g1'.trans g3).trans g4) (((s1.trans s2).trans s3).trans s4)).here S4 ⟨rfl, rfl⟩

/-! ### dicts with written keys -/
def lookE (kvs : List (Key × En)) (k : Key) : Option En := (kvs.find? fun kv => decide (kv.1 = k)).map (·.2)
def putE (kvs : List (Key × En)) (k : Key) (v : En) : List (Key × En) :=
  if (kvs.any fun kv => decide (kv.1 = k)) = true then kvs.map (fun kv => if kv.1 = k then (kv.1, v) else kv) else kvs ++ [(k, v)]
abbrev KE2 (K : PySem.W.Frag) (Hb : Hp) (as : List Addr) : Key × V → Key × En → Prop := fun p q => p.1 = q.1 ∧ RE K Hb as p.2 q.2
theorem look_paired {k : Key} : ∀ {ys : List (Key × V)} {kvs : List (Key × En)}, Paired (KE2 K Hb as) ys kvs → lookE kvs k = some e → ∃ v, valV ys k = some v ∧ RE K Hb as v e
  | _, _, .nil, h => by simp [lookE] at h
  | _, _, @Paired.cons _ _ _ p q ys kvs r t, h => by
    by_cases hk : q.1 = k
    · have : lookE (q :: kvs) k = some q.2 := by simp [lookE, List.find?_cons, hk]
      rw [this] at h; cases h
      exact ⟨p.2, valV_pos (by rw [r.1, hk]), r.2⟩
    · have : lookE (q :: kvs) k = lookE kvs k := by simp [lookE, List.find?_cons, hk]
      rw [this] at h
      obtain ⟨v, h1, h2⟩ := look_paired t h
      exact ⟨v, by rw [valV_neg (by rw [r.1]; exact hk)]; exact h1, h2⟩
theorem any_paired {k : Key} : ∀ {ys : List (Key × V)} {kvs : List (Key × En)}, Paired (KE2 K Hb as) ys kvs → (ys.any fun kv => decide (kv.1 = k)) = (kvs.any fun kv => decide (kv.1 = k))
  | _, _, .nil => rfl
  | _, _, .cons r t => by rw [List.any_cons, List.any_cons, any_paired t, r.1]
theorem map_paired {k : Key} {w : V} (hw : RE K Hb as w e) : ∀ {ys : List (Key × V)} {kvs : List (Key × En)}, Paired (KE2 K Hb as) ys kvs → Paired (KE2 K Hb as) (ys.map fun kv => if kv.1 = k then (kv.1, w) else kv) (kvs.map fun kv => if kv.1 = k then (kv.1, e) else kv)
  | _, _, .nil => .nil
  | _, _, @Paired.cons _ _ _ p q ys kvs r t => by
    refine .cons ?_ (map_paired hw t)
    by_cases hk : q.1 = k
    · dsimp only
      rw [if_pos hk, if_pos (by rw [r.1]; exact hk)]; exact ⟨r.1, hw⟩
    · dsimp only
      rw [if_neg hk, if_neg (by rw [r.1]; exact hk)]; exact r
theorem put_paired {k : Key} {w : V} {ys : List (Key × V)} {kvs : List (Key × En)} (h : Paired (KE2 K Hb as) ys kvs) (hw : RE K Hb as w e) : Paired (KE2 K Hb as) (putK ys k w) (putE kvs k e) := by
  unfold putK putE
  rw [any_paired h]
  split
  · exact map_paired hw h
  · exact paired_append h (.cons ⟨rfl, hw⟩ .nil)
theorem ST.dct {i : Nat} {a : Addr} {l : List (Key × En)} (S : ST K F Hb H σ es W as) (ha : as[i]? = some a) (hW : W[i]? = some (.dct l)) : ∃ ys, H a = some (.dK ys) ∧ Paired (KE2 K Hb as) ys l := (S.own i a _ ha hW rfl).2.2
theorem ev_dget {i : Nat} {x : Str} {kvs : List (Key × En)} (hd : EV K td es W (.ptr i) W1) (hy : EV K ty es W1 (.dat (.str x)) W2) (h : W2[i]? = some (.dct kvs)) (hl : lookE kvs (Sum.inr x) = some e) : EV K (tDGet td ty) es W e W2 := fun F Hb H σ as S Q k =>
  hd F Hb H σ as S _ fun v Hb1 H1 as1 g1 s1 S1 r1 => hy F Hb1 H1 σ as1 S1 _ fun y Hb2 H2 as2 g2 s2 S2 r2 => by
    obtain ⟨a, ha, rfl⟩ := r1
    cases r2
    obtain ⟨ys, hx, hp⟩ := S2.dct (g2.get ha) h
    obtain ⟨w, hw, rw'⟩ := look_paired hp hl
    exact ⟨a, w, rfl, hw ▸ DGet.k (k := Sum.inr x) hx, (k.on (g1.trans g2) (s1.trans s2)).here S2 rw'⟩
theorem sd_dput {i : Nat} {x : Str} {kvs : List (Key × En)} {tv : TE} {W3 : List Cn} (hv : EV K tv es W e W1) (hd : EV K td es W1 (.ptr i) W2) (hy : EV K ty es W2 (.dat (.str x)) W3) (h : W3[i]? = some (.dct kvs)) (hz : kvs.length < 1000) :
    SDd K (sDPut td ty tv) es W es (W3.set i (.dct (putE kvs (Sum.inr x) e))) := fun F Hb H σ as D S k =>
  hv F Hb H σ as S _ fun v Hb1 H1 as1 g1 s1 S1 r1 => hd F Hb1 H1 σ as1 S1 _ fun o Hb2 H2 as2 g2 s2 S2 r2 => hy F Hb2 H2 σ as2 S2 _ fun y Hb3 H3 as3 g3 s3 S3 r3 => by
    obtain ⟨a, ha, rfl⟩ := r2
    cases r3
    obtain ⟨ys, hx, hp⟩ := S3.dct (g3.get ha) h
    refine ⟨a, _, rfl, DPut.k (k := Sum.inr x) hx (by rw [paired_length hp, sizeLine_eq]; omega), ?_⟩
    have hr := RE.mono (g2.trans g3) (s2.trans s3) r1
    exact (k.nx.on ((g1.trans g2).trans g3) ((s1.trans s2).trans s3)).here (S3.write (c' := .dct (putE kvs (Sum.inr x) e)) (g3.get ha) h rfl ⟨_, upd_same, put_paired hp hr⟩) ⟨rfl, rfl⟩
/-- the pairs of a display of a dict whose keys are texts, its values data -/
def EP (K : PySem.W.Frag) (trs : List (TE × TE)) (es : List En) (W : List Cn) (l : List (Str × D)) (W' : List Cn) : Prop :=
  ∀ F Hb H σ as, ST K F Hb H σ es W as → ∀ Q : List (V × V) → Hp → Prop,
    (∀ ps Hb' H' as', Gr as as' → Same Hb Hb' → ST K F Hb' H' σ es W' as' → Paired (fun (p : V × V) (q : Str × D) => p.1 = .str q.1 ∧ Dt K Hb' p.2 q.2) ps l → Q ps H') → tPairs trs σ H Q
theorem ep_nil : EP K [] es W [] W := fun F Hb H σ as S Q k => k [] Hb H as (Gr.refl _) (Same.refl _) S .nil
theorem ep_cons {x : Str} {trs : List (TE × TE)} {l : List (Str × D)} (hk : EV K ta es W (.dat (.str x)) W1) (hv : EV K tb es W1 (.dat d) W2) (hr : EP K trs es W2 l W3) : EP K ((ta, tb) :: trs) es W ((x, d) :: l) W3 := fun F Hb H σ as S Q k =>
  hk F Hb H σ as S _ fun v Hb1 H1 as1 g1 s1 S1 r1 => hv F Hb1 H1 σ as1 S1 _ fun u Hb2 H2 as2 g2 s2 S2 r2 => hr F Hb2 H2 σ as2 S2 _ fun ps Hb3 H3 as3 g3 s3 S3 r3 => by
    cases r1
    exact k _ Hb3 H3 as3 ((g1.trans g2).trans g3) ((s1.trans s2).trans s3) S3 (.cons ⟨rfl, Dt.mono s3 _ _ r2⟩ r3)
def mergeE (kvs more : List (Key × En)) : List (Key × En) := more.foldl (fun acc kv => putE acc kv.1 kv.2) kvs
theorem merge_paired : ∀ {more : List (Key × V)} {moreE : List (Key × En)} {ys : List (Key × V)} {kvs : List (Key × En)}, Paired (KE2 K Hb as) more moreE → Paired (KE2 K Hb as) ys kvs → Paired (KE2 K Hb as) (mergeK ys more) (mergeE kvs moreE)
  | _, _, _, _, .nil, h => h
  | _, _, _, _, @Paired.cons _ _ _ p q more moreE r t, h => by
    show Paired _ (mergeK (putK _ p.1 p.2) more) (mergeE (putE _ q.1 q.2) moreE)
    rw [r.1]
    exact merge_paired t (put_paired h r.2)
theorem ev_disp {trs : List (TE × TE)} {l : List (Str × D)} (h : EP K trs es W l W1) (hl : l.length ≤ 15) : EV K (tDisp trs) es W (.ptr W1.length) (W1 ++ [.dct (mergeE [] (l.map fun p => (Sum.inr p.1, .dat p.2)))]) := fun F Hb H σ as S Q k p hp =>
  h (upd F p (.dK [])) Hb (upd H p (.dK [])) σ as (S.outside hp (fun _ e => nomatch e)) _ fun ps Hb1 H1 as1 g1 s1 S1 r1 => by
    have hps : ∀ {ps : List (V × V)} {l : List (Str × D)}, Paired (fun (p : V × V) (q : Str × D) => p.1 = .str q.1 ∧ Dt K Hb1 p.2 q.2) ps l →
        ∃ ks : List (Key × V), ps = ks.map (fun kv => (kV kv.1, kv.2)) ∧ ks.length = l.length ∧ ∀ as2, Paired (KE2 K Hb1 as2) ks (l.map fun p => (Sum.inr p.1, .dat p.2)) := by
      intro ps l r
      induction r with
      | nil => exact ⟨[], rfl, rfl, fun _ => .nil⟩
      | @cons a b x y r t ih =>
        obtain ⟨ks, e1, e2, e3⟩ := ih
        refine ⟨(Sum.inr b.1, a.2) :: ks, ?_, by simp [e2], fun as2 => .cons ⟨rfl, r.2⟩ (e3 as2)⟩
        rw [List.map_cons, ← e1]
        obtain ⟨a1, a2⟩ := a
        have q : a1 = V.str b.1 := r.1
        subst q
        rfl
    obtain ⟨ks, rfl, hkl, hkp⟩ := hps r1
    refine ⟨S1.frm p _ upd_same, ks, rfl, by omega, ?_⟩
    have hF : F p = none := S.frm.free hp
    have FF : ∀ a u, F a = some u → a ≠ p := fun a u e q => by subst q; rw [hF] at e; cases e
    have S2 : ST K (upd F p (.dK (mergeK [] ks))) Hb1 (upd H1 p (.dK (mergeK [] ks))) σ es W1 as1 := S1.outset (fun _ e => nomatch e)
    have S3 : ST K F Hb1 (upd H1 p (.dK (mergeK [] ks))) σ es W1 as1 :=
      ⟨S2.base, fun b u e => S2.frm b u (by rw [upd_ne (FF b u e)]; exact e), fun b u e => S2.dis b u (by rw [upd_ne (FF b u e)]; exact e), S2.len, fun j b c q1 q2 q3 => by
        obtain ⟨k1, k2, k3⟩ := S2.own j b c q1 q2 q3
        have ne : b ≠ p := fun q => by subst q; rw [upd_same] at k2; cases k2
        rw [upd_ne ne] at k2
        exact ⟨k1, k2, k3⟩, S2.inj, S2.sl, S2.slot⟩
    have S4 := S3.join (p := p) (c := .dct (mergeE [] (l.map fun p => (Sum.inr p.1, .dat p.2)))) (S2.dis p _ upd_same).1 hF ⟨_, upd_same, merge_paired (hkp _) .nil⟩ fun j c q1 q2 q3 => by
      obtain ⟨_, k2, _⟩ := S2.own j p c q1 q2 q3
      rw [upd_same] at k2; cases k2
    refine k (.ref p) Hb1 _ (as1 ++ [p]) (g1.trans ⟨[p], rfl⟩) s1 S4 ⟨p, ?_, rfl⟩
    rw [← S1.len, List.getElem?_append_right (Nat.le_refl _)]
    simp

/-! ### slices -/
def cutG {α : Type} (xs : List α) (lo hi : Option Int) : List α := (xs.drop (HT.sIx xs.length 0 lo)).take (HT.sIx xs.length xs.length hi - HT.sIx xs.length 0 lo)
theorem DtA.drop {l : List D} : ∀ {vs : List V} {ds : List D} (n : Nat), DtA K H vs ds → DtA K H (vs.drop n) (ds.drop n)
  | _, _, 0, h => h
  | _, _, _ + 1, .nil => .nil
  | _, _, n + 1, .cons _ t => DtA.drop (l := l) n t
theorem DtA.take : ∀ {vs : List V} {ds : List D} (n : Nat), DtA K H vs ds → DtA K H (vs.take n) (ds.take n)
  | _, _, 0, _ => .nil
  | _, _, _ + 1, .nil => .nil
  | _, _, n + 1, .cons h t => .cons h (DtA.take n t)
theorem DtA.cut {vs : List V} {ds : List D} (lo hi : Option Int) (h : DtA K H vs ds) : DtA K H (cutV vs lo hi) (cutG ds lo hi) := by
  unfold cutV cutG
  rw [h.length]
  exact DtA.take _ (DtA.drop (l := []) _ h)
def EO (K : PySem.W.Frag) (to : TO) (es : List En) (W : List Cn) (o : Option Int) (W' : List Cn) : Prop :=
  ∀ F Hb H σ as, ST K F Hb H σ es W as → ∀ Q : Option Int → Hp → Prop, (∀ Hb' H' as', Gr as as' → Same Hb Hb' → ST K F Hb' H' σ es W' as' → Q o H') → to σ H Q
theorem eo_none : EO K tNoPart es W none W := fun F Hb H σ as S Q k => k Hb H as (Gr.refl _) (Same.refl _) S
theorem eo_some {i : Int} (h : EV K te es W (.dat (.int i)) W1) : EO K (tPart te) es W (some i) W1 := fun F Hb H σ as S Q k =>
  h F Hb H σ as S _ fun v Hb1 H1 as1 g1 s1 S1 r1 => by
    cases r1
    exact ⟨i, rfl, k Hb1 H1 as1 g1 s1 S1⟩
def rSlAny (K : PySem.W.Frag) : V → Option Int → Option Int → Hp → VK → Prop := fun x lo hi H Q => rSlL K x lo hi H Q ∨ rSlA K x lo hi H Q ∨ rSlS x lo hi H Q
theorem sl_any {X : Cx} : SlR X (rSlAny X.K) := SlR.or sl_list (SlR.or sl_tupA sl_str)
theorem ev_slT {l : List D} {tl th : TO} {lo hi : Option Int} (h : EV K te es W (.dat (.tup l)) W1) (h1 : EO K tl es W1 lo W2) (h2 : EO K th es W2 hi W3) : EV K (tSl (rSlAny K) te tl th) es W (.dat (.tup (cutG l lo hi))) W3 := fun F Hb H σ as S Q k =>
  h F Hb H σ as S _ fun v Hb1 H1 as1 g1 s1 S1 r1 => h1 F Hb1 H1 σ as1 S1 _ fun Hb2 H2 as2 g2 s2 S2 => h2 F Hb2 H2 σ as2 S2 _ fun Hb3 H3 as3 g3 s3 S3 => by
    cases r1 with
    | @tup a xs _ q1 q2 =>
      have q1' : SqT K H3 a xs := same_t S3.base (same_t (s2.trans s3) q1)
      have q2' : DtA K Hb3 xs l := DtA.mono (s2.trans s3) _ _ q2
      have kk := k.on ((g1.trans g2).trans g3) ((s1.trans s2).trans s3)
      refine .inr (.inl ⟨a, xs, rfl, q1', fun hw => ?_, fun _ p hp => kk.fresh S3 hp fun Hb4 s4 e4 => .tup (.inl (.inl e4)) (DtA.mono s4 _ _ (q2'.cut lo hi))⟩)
      have e : cutG l lo hi = l := by
        unfold cutG
        rw [← q2'.length, hw.1, hw.2, List.drop_zero, Nat.sub_zero, q2'.length, List.take_length]
      rw [e] at kk
      exact kk.here S3 (.tup (same_t (s2.trans s3) q1) q2')
theorem ev_slL {l : List D} {tl th : TO} {lo hi : Option Int} (h : EV K te es W e1 W1) (h1 : EO K tl es W1 lo W2) (h2 : EO K th es W2 hi W3) (hl : LstE W3 e1 = some (l.map .dat)) : EV K (tSl (rSlAny K) te tl th) es W (.dat (.lst (cutG l lo hi))) W3 := fun F Hb H σ as S Q k =>
  h F Hb H σ as S _ fun v Hb1 H1 as1 g1 s1 S1 r1 => h1 F Hb1 H1 σ as1 S1 _ fun Hb2 H2 as2 g2 s2 S2 => h2 F Hb2 H2 σ as2 S2 _ fun Hb3 H3 as3 g3 s3 S3 => by
    obtain ⟨a, xs, rfl, hq, hp⟩ := S3.lstE hl (RE.mono (g2.trans g3) (s2.trans s3) r1)
    exact .inl ⟨a, xs, rfl, hq, fun p hp' => (k.on ((g1.trans g2).trans g3) ((s1.trans s2).trans s3)).fresh S3 hp' fun Hb4 s4 e4 => .lst e4 (DtA.mono s4 _ _ ((DtA.of_dat (xs := xs) hp).cut lo hi))⟩
theorem ev_slS {z : Str} {tl th : TO} {lo hi : Option Int} (h : EV K te es W (.dat (.str z)) W1) (h1 : EO K tl es W1 lo W2) (h2 : EO K th es W2 hi W3) (hz : z.length ≤ 16777216) : EV K (tSl (rSlAny K) te tl th) es W (.dat (.str (cutS z lo hi))) W3 := fun F Hb H σ as S Q k =>
  h F Hb H σ as S _ fun v Hb1 H1 as1 g1 s1 S1 r1 => h1 F Hb1 H1 σ as1 S1 _ fun Hb2 H2 as2 g2 s2 S2 => h2 F Hb2 H2 σ as2 S2 _ fun Hb3 H3 as3 g3 s3 S3 => by
    cases r1
    exact .inr (.inr ⟨z, rfl, by rw [sizeLine_eq]; exact hz, (k.on ((g1.trans g2).trans g3) ((s1.trans s2).trans s3)).here S3 (.str _)⟩)

/-! ### isinstance of built-in classes -/
def D.tyN : D → Option String
  | .non => some "NoneType" | .bl _ => some "bool" | .int _ => some "int" | .str _ => some "str" | .tup _ => some "tuple" | .lst _ => some "list" | .rl _ => some "list" | _ => none
theorem Dt.tyX {v : V} {n : String} (h : Dt K H v d) (e : d.tyN = some n) : TyX K H v (.type n) := by
  cases h with
  | non => cases e; exact .base .non
  | bl b => cases e; exact .base (.bl b)
  | int i => cases e; exact .base (.int i)
  | str x => cases e; exact .base (.str x)
  | ty n => cases e
  | rf a => cases e
  | tup h1 h2 =>
    cases e
    rcases h1 with (h | ⟨o, h⟩) | ⟨o, its, n, h1, h2, _⟩
    · exact .base (.tup h)
    · exact .fTuple h
    · exact .kTuple h1 h2
  | lst h1 h2 => cases e; exact .base (.lst h1)
  | rl h1 h2 =>
    cases e
    rcases h1 with (h | ⟨o, h⟩) | ⟨o, its, n, h1, h2, _⟩
    · exact .base (.lst h)
    · exact .base (.frz h)
    · exact .kList h1 h2
  | obj h1 h2 h3 => cases e
  | key h1 => cases e
  | kd h1 h2 h3 => cases e
theorem ev_isi {m n : String} {b : Bool} (ha : EV K ta es W (.dat d) W1) (ht : d.tyN = some m) (hk : kitB m n = some b) : EV K (tCB (rIsi K) (tCons ta (tCons (tC (.ty n)) tNil))) es W (.dat (.bl b)) W1 :=
  ev_cb2 ha (ev_ty n) fun F Hb H σ as v u S r1 r2 Q k => by
    cases r2
    exact ⟨v, .ty n, _, _, b, rfl, .ty n, Dt.tyX (Dt.mono S.base _ _ r1) ht, kit_ty hk, k.here S (.bl b)⟩
theorem ev_isi2 {m n n2 : String} {b : Bool} (ha : EV K ta es W (.dat d) W1) (ht : d.tyN = some m) (hk : PySem.W.kitAny K (.type m) [.type n, .type n2] = some b) : EV K (tCB (rIsiT K) (tCons ta (tCons (tTup (tCons (tC (.ty n)) (tCons (tC (.ty n2)) tNil))) tNil))) es W (.dat (.bl b)) W1 := fun F Hb H σ as S Q k =>
  ha F Hb H σ as S _ fun v Hb1 H1 as1 g1 s1 S1 r1 => ⟨by show 2 ≤ sizeLine; decide, fun p hp => by
    obtain ⟨S2, s2⟩ := S1.new (o := .tup [.ty n, .ty n2]) hp
    exact ⟨v, p, [.ty n, .ty n2], _, _, b, rfl, upd_same, .cons (.ty n) (.cons (.ty n2) .nil), Dt.tyX (Dt.mono (s2.trans S2.base) _ _ r1) ht, hk, (k.on g1 (s1.trans s2)).here S2 (.bl b)⟩⟩
theorem kit2 {m n n2 : String} {a b : Bool} (h1 : kitB m n = some a) (h2 : a = false → kitB m n2 = some b) (h3 : a = true → b = true) : PySem.W.kitAny K (.type m) [.type n, .type n2] = some b := by
  refine kitAny_cons (kit_ty h1) (fun ha => kitAny_cons (b := b) (kit_ty (h2 ha)) (fun hb => ?_) fun hb => ?_) h3
  · rw [hb]; rfl
  · exact hb

/-! ### in -/
theorem inV_int (a : Int) : ∀ ns : List Int, inV (.int a) (ns.map V.int) = decide (a ∈ ns)
  | [] => by simp [inV]
  | n :: r => by
    have ih := inV_int a r
    unfold inV at ih ⊢
    rw [List.map_cons, List.any_cons, ih]
    show ((n == a) || decide (a ∈ r)) = decide (a ∈ n :: r)
    by_cases h : n = a
    · subst h; simp
    · have h2 : ¬ a = n := fun e => h e.symm
      simp [h, h2]
theorem ev_inI {a : Int} {ns : List Int} (ha : EV K ta es W (.dat (.int a)) W1) (hb : EV K tb es W1 e2 W2) (hs : SeqE W2 e2 = some ((ns.map D.int).map .dat)) : EV K (tOp (rInA K) ta tb) es W (.dat (.bl (decide (a ∈ ns)))) W2 :=
  ev_op2 ha hb fun F Hb H σ as v u S r1 r2 Q k => by
    cases r1
    obtain ⟨p, xs, rfl, hq, hp⟩ := S.seqE hs r2
    have e : xs = ns.map V.int := DtA.ints_of ns (DtA.of_dat (xs := xs) hp)
    subst e
    refine .inl ⟨p, _, rfl, hq, rfl, by simp [flatV], ?_⟩
    show Q (.bl (inV (.int a) (ns.map V.int))) H
    rw [inV_int]
    exact k.here S (.bl _)
/-- sum(xs) of whole numbers -/
theorem ev_sum {ns : List Int} (ha : EV K ta es W e1 W1) (hs : LstE W1 e1 = some ((ns.map D.int).map .dat)) : EV K (tCB (rSum K) (tCons ta tNil)) es W (.dat (.int ns.sum)) W1 :=
  ev_cb1 ha fun F Hb H σ as v S r1 Q k => by
    obtain ⟨p, xs, rfl, hq, hp⟩ := S.lstE hs r1
    have e : xs = ns.map V.int := DtA.ints_of ns (DtA.of_dat (xs := xs) hp)
    subst e
    exact ⟨p, ns, rfl, hq, k.here S (.int _)⟩
/-- str(n), int(x) -/
theorem ev_str_int {a : Int} (ha : EV K ta es W (.dat (.int a)) W1) (hz : a.natAbs.log2 < 1920) : EV K (tCB (fun xs H Q => ∃ i, xs = [.int i] ∧ i.natAbs.log2 < 1920 ∧ Q (.str (toString i)) H) (tCons ta tNil)) es W (.dat (.str (toString a))) W1 :=
  ev_cb1 ha fun F Hb H σ as v S r1 Q k => by
    cases r1
    exact ⟨a, rfl, hz, k.here S (.str _)⟩
def rIntA : List V → Hp → VK → Prop := fun xs H Q => ((∃ i, xs = [.int i] ∧ Q (.int i) H) ∨ ∃ k, xs = [.bl k] ∧ Q (.int (if k then 1 else 0)) H) ∨ ∃ a n, xs = [.str a] ∧ PySem.intText? a = some n ∧ a.length ≤ 640 ∧ Q (.int n) H
theorem call_intA {X : Cx} : CallR X (.type "int") rIntA := CallR.or call_int1 call_int_str
theorem ev_intA {a : Int} (ha : EV K ta es W (.dat (.int a)) W1) : EV K (tCB rIntA (tCons ta tNil)) es W (.dat (.int a)) W1 :=
  ev_cb1 ha fun F Hb H σ as v S r1 Q k => by
    cases r1
    exact .inl (.inl ⟨a, rfl, k.here S (.int _)⟩)
theorem ev_intAB {a : Bool} (ha : EV K ta es W (.dat (.bl a)) W1) : EV K (tCB rIntA (tCons ta tNil)) es W (.dat (.int (if a then 1 else 0))) W1 :=
  ev_cb1 ha fun F Hb H σ as v S r1 Q k => by
    cases r1
    exact .inl (.inr ⟨a, rfl, k.here S (.int _)⟩)
theorem ev_intAS {z : Str} {n : Int} (ha : EV K ta es W (.dat (.str z)) W1) (h : PySem.intText? z = some n) (hz : z.length ≤ 640) : EV K (tCB rIntA (tCons ta tNil)) es W (.dat (.int n)) W1 :=
  ev_cb1 ha fun F Hb H σ as v S r1 Q k => by
    cases r1
    exact .inr ⟨z, n, rfl, h, hz, k.here S (.int _)⟩
/-- sorted(xs) of whole numbers: told by a function that sorts -/
theorem ev_sorted {ns ms : List Int} (ha : EV K ta es W e1 W1) (hs : LstE W1 e1 = some ((ns.map D.int).map .dat)) (hn : ns.length < 64) (hm : ∀ ns' : List Int, ns'.Perm ns → ns'.Pairwise (· ≤ ·) → ns' = ms) : EV K (tCB (rSorted K) (tCons ta tNil)) es W (.dat (.lst (ms.map D.int))) W1 :=
  ev_cb1 ha fun F Hb H σ as v S r1 Q k => by
    obtain ⟨p, xs, rfl, hq, hp⟩ := S.lstE hs r1
    have e : xs = ns.map V.int := DtA.ints_of ns (DtA.of_dat (xs := xs) hp)
    subst e
    refine ⟨p, ns, rfl, hq, hn, fun ns' q h1 h2 hq' => ?_⟩
    have := hm ns' h1 h2
    subst this
    exact k.fresh S hq' fun Hb2 s2 e2 => .lst e2 (DtA.ints _)
/-- chains of two comparisons of whole numbers -/
theorem ev_chain {f g : Int → Int → Bool} {tcc : TE} {a b c : Int} (ha : EV K ta es W (.dat (.int a)) W) (hb : EV K tb es W (.dat (.int b)) W) (hc : f a b = true → EV K tcc es W (.dat (.int c)) W) :
    EV K (tChain (rI0 fun i j => .bl (f i j)) (rI0 fun i j => .bl (g i j)) ta tb tcc) es W (.dat (.bl (f a b && g b c))) W := fun F Hb H σ as S Q k =>
  ha F Hb H σ as S _ fun v Hb1 H1 as1 g1 s1 S1 r1 => hb F Hb1 H1 σ as1 S1 _ fun u Hb2 H2 as2 g2 s2 S2 r2 => by
    cases r1; cases r2
    refine ⟨a, b, rfl, rfl, f a b, rfl, ?_⟩
    cases q : f a b with
    | true =>
      rw [q] at k
      show tcc σ H2 _
      refine hc q F Hb2 H2 σ as2 S2 _ fun w Hb3 H3 as3 g3 s3 S3 r3 => ?_
      cases r3
      exact ⟨b, c, rfl, rfl, (k.on ((g1.trans g2).trans g3) ((s1.trans s2).trans s3)).here S3 (.bl _)⟩
    | false =>
      rw [q] at k
      show Q (.bl false) H2
      exact (k.on (g1.trans g2) (s1.trans s2)).here S2 (.bl false)
end
end AS
/-! AS6: packed calls, operators of several kinds. -/
namespace AS
open PySem PySem.Spec PyProof.Rows L2
/-- a def of the top that stands behind its name and keeps its promise -/
def Cal (P : Program) (w : World) (K : PySem.W.Frag) (mg : Str → Option Value) (base : Heap) (CX : CXT) (k : Nat) (x : Str) (ps : List Str) (sp : Sp) : Prop :=
  ∃ (f : Addr) (fd : FuncData), FnOk P w K mg base CX k f fd ps sp ∧ mg x = some (.ref f) ∧ PySem.W.keepIn K (.ref f) = true ∧ Binds K fd ps []
/-- where it stands -/
def TopF (K : PySem.W.Frag) (mg : Str → Option Value) (x : Str) (st : Stmt) : Prop := ∃ (f : Addr) (fd : FuncData), Fun K x x st f fd ∧ mg x = some (.ref f)
theorem TopF.cal {P : Program} {w : World} {K : PySem.W.Frag} {mg : Str → Option Value} {base : Heap} {x : Str} {st : Stmt} {N ps : List Str} {k : Nat} {sp : Sp} (T : TopF K mg x st) (S : FnScope N ps (defScope st)) (len : ∀ vs H Q E, sp vs H Q E → vs.length = ps.length)
    (hb : ∀ (kV doc pm : Value) (an : Option Addr) (cdv ct : Value) (us : List Value), us.length = ps.length → bindArgs (PySem.W.fnOf x x (defArgs st) (defBody st) (defScope st) .none kV doc pm an cdv ct) ⟨us, []⟩ = pure (ps.zip us))
    (hbody : ∀ (f : Addr) (cdv : Value) (A : Around) (outer : List Env) (s : Shared) (H : Hp) (vs : List V) (Q : VK) (E : XK), Room k (A.deeper (envOfC x (defScope st) s.heap.objs.size f cdv)) → sp vs H Q E →
      ∃ t, PSs (cxOf CX0 P w K mg base N x (defScope st) f cdv A outer s H E).nox (defBody st) t ∧ t { nx := fun _ H' => Q .non H', rt := Q } (L2.start N vs) H) : Cal P w K mg base CX0 (k + 1) x ps sp := by
  obtain ⟨f, fd, F, hm⟩ := T
  exact ⟨f, fd, F.ok S len (fun cdv A outer s H vs Q E => hbody f cdv A outer s H vs Q E), hm, F.kp, F.binds hb⟩
section
variable {X : Cx} {x : Str} {p pos : Pos} {e : Expr} {es : List Expr} {t : TA} {k : Nat} {ps : List Str} {sp : Sp}
theorem pe_cal (C : Cal X.prog X.w X.K X.mg X.base CX0 k x ps sp) (hr : Room k X.A) (hg : Gl X x) (ha : PA X (e :: es) t) (hdb : (x == ("__debug__" : Str)) = false := by decide) (he : starEach (e :: es) X.env = (false, eval e X.env) :: starEach es X.env := by rfl) (hpl : (backTo pos (starEach es X.env)).any (·.1) = false := by rfl) :
    PE X (.Call (.Name x p) (e :: es) [] pos) (tCall sp [] E0 t) := by
  obtain ⟨f, fd, F, hm, hk, hb⟩ := C
  exact pe_call F hr hg hm hk hb .nil pass0 ha hdb he hpl
theorem op_addX : OpR X (binaryOp .Add) (fun x y H Q => rI0 (fun i j => .int (i + j)) x y H Q ∨ rCat x y H Q ∨ rCatA X.K x y H Q ∨ ∃ i j, x = .str i ∧ y = .str j ∧ i.length + j.length ≤ sizeLine ∧ Q (.str (i ++ j)) H) :=
  OpR.or op_add (OpR.or op_cat (OpR.or op_catA op_add_str))
theorem op_mulX : OpR X (binaryOp .Mult) (fun x y H Q => rI IntMulOk (fun i j => .int (i * j)) x y H Q ∨ rRep x y H Q ∨ rRepT X.K x y H Q) := OpR.or op_mulA (OpR.or op_rep op_repT)
theorem u65 {k : Nat} {A : Around} (r : Room k A) : A.units + 65 < cLine := by have := r.un; omega
def rNotInA (K : PySem.W.Frag) : R2 := fun x y H Q => rIn K true x y H Q ∨ rNotInD K x y H Q
theorem op_inA (hu : X.A.units + 65 < cLine) : OpR X (compareOp .In) (rInA X.K) := OpR.or op_in_seq (op_inD hu)
theorem op_notInA (hu : X.A.units + 65 < cLine) : OpR X (compareOp .NotIn) (rNotInA X.K) := OpR.or op_notIn_seq (op_notInD hu)
end
section
variable {K : PySem.W.Frag} {F Hb Hb' H H' : Hp} {σ : L2.St} {es es1 es2 : List En} {as as' : List Addr} {W W1 W2 W3 W' : List Cn} {e e1 e2 r : En} {ta tb te tc td ty to : TE} {d d1 d2 : D} {v : V}
abbrev rAddX (K : PySem.W.Frag) : R2 := fun x y H Q => rI0 (fun i j => .int (i + j)) x y H Q ∨ rCat x y H Q ∨ rCatA K x y H Q ∨ ∃ i j, x = .str i ∧ y = .str j ∧ i.length + j.length ≤ sizeLine ∧ Q (.str (i ++ j)) H
abbrev rMulX (K : PySem.W.Frag) : R2 := fun x y H Q => rI IntMulOk (fun i j => .int (i * j)) x y H Q ∨ rRep x y H Q ∨ rRepT K x y H Q
theorem ev_addI {a b : Int} (ha : EV K ta es W (.dat (.int a)) W1) (hb : EV K tb es W1 (.dat (.int b)) W2) : EV K (tOp (rAddX K) ta tb) es W (.dat (.int (a + b))) W2 :=
  ev_op2 ha hb fun F Hb H σ as v u S r1 r2 Q k => by
    cases r1; cases r2
    exact .inl ⟨a, b, rfl, rfl, k.here S (.int _)⟩
theorem ev_mulI {a b : Int} (ha : EV K ta es W (.dat (.int a)) W1) (hb : EV K tb es W1 (.dat (.int b)) W2) (hc : IntMulOk a b) : EV K (tOp (rMulX K) ta tb) es W (.dat (.int (a * b))) W2 :=
  ev_op2 ha hb fun F Hb H σ as v u S r1 r2 Q k => by
    cases r1; cases r2
    exact .inl ⟨a, b, rfl, rfl, hc, k.here S (.int _)⟩
/-- a list as an object that the heap holds: data, or owned -/
def LstH (W : List Cn) : En → Option (List En)
  | .dat (.lst l) => some (l.map .dat)
  | .ptr i => match W[i]? with
    | some (.lst l) => some l
    | _ => none
  | _ => none
theorem ST.lstH {l : List En} (S : ST K F Hb H σ es W as) (h : LstH W e = some l) (r : RE K Hb as v e) : ∃ a xs, v = .ref a ∧ H a = some (.lst xs) ∧ Paired (RE K Hb as) xs l := by
  cases e with
  | un => cases h
  | dat d =>
    cases d with
    | lst ds =>
      cases h
      cases r with
      | lst h1 h2 => exact ⟨_, _, rfl, S.base _ _ h1, DtA.to_dat h2⟩
    | _ => cases h
  | ptr i =>
    obtain ⟨a, h1, rfl⟩ := r
    unfold LstH at h
    cases q : W[i]? with
    | none => simp only [q] at h; cases h
    | some c =>
      simp only [q] at h
      cases c with
      | lst m =>
        cases h
        obtain ⟨_, _, xs, k3, k4⟩ := S.own i a _ h1 q rfl
        exact ⟨a, xs, rfl, k3, k4⟩
      | _ => cases h
/-- xs + ys of lists: a new list of data -/
theorem ev_cat {l m : List D} (ha : EV K ta es W e1 W1) (hb : EV K tb es W1 e2 W2) (h1 : LstH W2 e1 = some (l.map .dat)) (h2 : LstH W2 e2 = some (m.map .dat)) (hl : l.length + m.length ≤ 16777216) : EV K (tOp (rAddX K) ta tb) es W (.dat (.lst (l ++ m))) W2 :=
  ev_op2 ha hb fun F Hb H σ as v u S r1 r2 Q k => by
    obtain ⟨a, xs, rfl, ha', pa⟩ := S.lstH h1 r1
    obtain ⟨b, ys, rfl, hb', pb⟩ := S.lstH h2 r2
    have e1 := paired_length pa
    have e2 := paired_length pb
    refine .inr (.inl ⟨a, b, xs, ys, rfl, rfl, ha', hb', by rw [sizeLine_eq, e1, e2]; simpa using hl, fun p hp => k.fresh S hp fun Hb2 s2 e4 => .lst e4 (DtA.mono s2 _ _ ((DtA.of_dat (xs := xs) pa).append (DtA.of_dat (xs := ys) pb)))⟩)
/-- .. that will be changed -/
theorem ev_catO {l m : List En} (ha : EV K ta es W e1 W1) (hb : EV K tb es W1 e2 W2) (h1 : LstH W2 e1 = some l) (h2 : LstH W2 e2 = some m) (hl : l.length + m.length ≤ 16777216) : EV K (tOp (rAddX K) ta tb) es W (.ptr W2.length) (W2 ++ [.lst (l ++ m)]) :=
  ev_op2 ha hb fun F Hb H σ as v u S r1 r2 Q k => by
    obtain ⟨a, xs, rfl, ha', pa⟩ := S.lstH h1 r1
    obtain ⟨b, ys, rfl, hb', pb⟩ := S.lstH h2 r2
    have e1 := paired_length pa
    have e2 := paired_length pb
    refine .inr (.inl ⟨a, b, xs, ys, rfl, rfl, ha', hb', by rw [sizeLine_eq, e1, e2]; exact hl, fun p hp => ?_⟩)
    have g2 : Gr as (as ++ [p]) := ⟨[p], rfl⟩
    refine k _ _ _ _ g2 (Same.refl _) (S.newOwn hp ⟨_, upd_same, paired_mono (fun _ _ => RE.mono g2 (Same.refl _)) (paired_append pa pb)⟩) ⟨p, ?_, rfl⟩
    rw [← S.len, List.getElem?_append_right (Nat.le_refl _)]
    simp
/-! ### truth -/
abbrev tTru (K : PySem.W.Frag) (ta : TE) : TT := fun σ H Q => ta σ H fun x H' => ∃ k, TruV K x H' k ∧ Q k H'
theorem et_truB {b : Bool} (h : EV K ta es W (.dat (.bl b)) W1) : ET K (tTru K ta) es W b W1 := fun F Hb H σ as S Q k => h F Hb H σ as S _ fun v Hb1 H1 as1 g1 s1 S1 r1 => by
  cases r1
  exact ⟨b, rfl, k Hb1 H1 as1 g1 s1 S1⟩
theorem et_truI {i : Int} (h : EV K ta es W (.dat (.int i)) W1) : ET K (tTru K ta) es W (i != 0) W1 := fun F Hb H σ as S Q k => h F Hb H σ as S _ fun v Hb1 H1 as1 g1 s1 S1 r1 => by
  cases r1
  exact ⟨_, rfl, k Hb1 H1 as1 g1 s1 S1⟩
end
end AS
/-! AS7: kinds of built-in values; small facts of whole numbers. -/
namespace AS
open PySem PySem.Spec PyProof.Rows L2
def kbT : String → String → Bool
  | "bool", "int" => true
  | a, b => a == b
theorem kb_int : ∀ d : D, ∀ m, d.tyN = some m → kitB m "int" = some (kbT m "int") := by
  intro d m h; cases d <;> cases h <;> decide +kernel
theorem kb_bool : ∀ d : D, ∀ m, d.tyN = some m → kitB m "bool" = some (kbT m "bool") := by
  intro d m h; cases d <;> cases h <;> decide +kernel
theorem kb_tuple : ∀ d : D, ∀ m, d.tyN = some m → kitB m "tuple" = some (kbT m "tuple") := by
  intro d m h; cases d <;> cases h <;> decide +kernel
theorem kb_list : ∀ d : D, ∀ m, d.tyN = some m → kitB m "list" = some (kbT m "list") := by
  intro d m h; cases d <;> cases h <;> decide +kernel
theorem kb_str : ∀ d : D, ∀ m, d.tyN = some m → kitB m "str" = some (kbT m "str") := by
  intro d m h; cases d <;> cases h <;> decide +kernel
def D.whole : D → Bool
  | .int _ => true
  | _ => false
def D.isTup : D → Bool
  | .tup _ => true
  | _ => false
def D.isLst : D → Bool
  | .lst _ => true
  | .rl _ => true
  | _ => false
/-- a value whose kind isinstance knows -/
def D.kn (d : D) : Bool := d.tyN.isSome
theorem kbT_tuple {d : D} {m : String} (h : d.tyN = some m) : kbT m "tuple" = d.isTup := by cases d <;> cases h <;> rfl
theorem kbT_list {d : D} {m : String} (h : d.tyN = some m) : kbT m "list" = d.isLst := by cases d <;> cases h <;> rfl
theorem kbT_whole {d : D} {m : String} (h : d.tyN = some m) : (kbT m "int" && !(kbT m "bool")) = d.whole := by cases d <;> cases h <;> rfl
theorem D.kn_of {d : D} (h : d.kn = true) : ∃ m, d.tyN = some m := Option.isSome_iff_exists.mp h
section
variable {K : PySem.W.Frag} {es : List En} {W W1 : List Cn} {ta : TE} {d : D}
theorem ev_isTuple (ha : EV K ta es W (.dat d) W1) (h : d.kn = true) : EV K (tCB (rIsi K) (tCons ta (tCons (tC (.ty "tuple")) tNil))) es W (.dat (.bl d.isTup)) W1 := by
  obtain ⟨m, hm⟩ := D.kn_of h
  exact ev_is (ev_isi ha hm (kb_tuple d m hm)) (by rw [kbT_tuple hm])
theorem ev_isInt (ha : EV K ta es W (.dat d) W1) (h : d.kn = true) : ∃ b, (b = true ↔ (d.whole = true ∨ ∃ k, d = .bl k)) ∧ EV K (tCB (rIsi K) (tCons ta (tCons (tC (.ty "int")) tNil))) es W (.dat (.bl b)) W1 := by
  obtain ⟨m, hm⟩ := D.kn_of h
  refine ⟨_, ?_, ev_isi ha hm (kb_int d m hm)⟩
  cases d <;> cases hm <;> simp [kbT, D.whole]
end
/-- a ratio as it may be passed -/
def D.ratio : D → Bool
  | .int _ => true
  | .tup [.int _, .int b] => decide (0 < b)
  | _ => false
theorem ratio_len : ∀ l : List D, l.length ≠ 2 → (D.tup l).ratio = false
  | [], _ => rfl
  | [x], _ => by cases x <;> rfl
  | [_, _], h => absurd rfl h
  | x :: y :: z :: r, _ => by cases x <;> first | rfl | (cases y <;> rfl)
def lowS (t b : Int) : Int := if b < 0 then -(Int.gcd t b : Int) else (Int.gcd t b : Int)
def Lw (t b : Int) : Int × Int := (t.fdiv (lowS t b), b.fdiv (lowS t b))
theorem lowS_ne {t b : Int} (h : b ≠ 0) : lowS t b ≠ 0 := by
  have : Int.gcd t b ≠ 0 := fun e => h (Int.gcd_eq_zero_iff.mp e).2
  unfold lowS; split <;> omega
theorem lowS_abs (t b : Int) : (lowS t b).natAbs = Int.gcd t b := by unfold lowS; split <;> omega
theorem log2_mono {a b : Nat} (h : a ≤ b) : a.log2 ≤ b.log2 := by
  by_cases ha : a = 0
  · subst ha; simp
  · have hb : b ≠ 0 := by omega
    exact (Nat.le_log2 hb).mpr (Nat.le_trans (Nat.log2_self_le ha) h)
theorem lowS_div {t b : Int} (h : b ≠ 0) (hb : b.natAbs.log2 < 9000) : CDivA t (lowS t b) ∧ CDivA b (lowS t b) := by
  have e : (lowS t b).natAbs ≤ b.natAbs := by
    rw [lowS_abs]
    have := Int.gcd_dvd_right t b
    have h2 : ((Int.gcd t b : Int)).natAbs ≤ b.natAbs := Nat.le_of_dvd (by omega) (Int.natAbs_dvd_natAbs.mpr this)
    simpa using h2
  have := log2_mono e
  exact ⟨⟨lowS_ne h, by omega⟩, lowS_ne h, by omega⟩
/-- above 0: plain division by the greatest common divisor -/
theorem Lw_pos {t b : Int} (h : 0 < b) : Lw t b = (t / (Int.gcd t b : Int), b / (Int.gcd t b : Int)) := by
  unfold Lw lowS
  rw [if_neg (by omega), Int.fdiv_eq_ediv_of_nonneg _ (by omega), Int.fdiv_eq_ediv_of_nonneg _ (by omega)]
def toldQ : D → Int × Int
  | .int i => (i, 1)
  | .tup [.int a, .int b] => Lw a b
  | _ => (0, 1)
abbrev dq (q : Int × Int) : D := .tup [.int q.1, .int q.2]
end AS
/-! AS8: the laws' pen: the source of all draws, as a plain record. -/
namespace AS
open PySem PySem.Spec PyProof.Rows L2
structure Pen where
  cells : List Int
  pos : Nat
  digits : Int
  count : Int
  fold : Int
def Pen.kvs (p : Pen) : List (Key × En) := [(Sum.inr "cells", .dat (.lst (p.cells.map .int))), (Sum.inr "at", .dat (.int p.pos)), (Sum.inr "digits", .dat (.int p.digits)), (Sum.inr "count", .dat (.int p.count)), (Sum.inr "fold", .dat (.int p.fold))]
def Pen.cn (p : Pen) : Cn := .dct p.kvs
theorem Pen.cl (n : Nat) (p : Pen) : ClC n p.cn := by
  intro q hq
  unfold Pen.kvs at hq
  simp at hq
  rcases hq with rfl | rfl | rfl | rfl | rfl <;> trivial
theorem ks {a b : Str} (h : ¬ a = b) : ¬ (Sum.inr a : Key) = Sum.inr b := fun e => h (Sum.inr.inj e)
def kNe (a b : Str) : Bool := !decide ((Sum.inr a : Key) = Sum.inr b)
theorem look_cells (p : Pen) : lookE p.kvs (Sum.inr "cells") = some (.dat (.lst (p.cells.map .int))) := by
  simp [lookE, Pen.kvs, List.find?_cons]
theorem look_at (p : Pen) : lookE p.kvs (Sum.inr "at") = some (.dat (.int p.pos)) := by
  have h1 : ¬ ("cells" : Str) = "at" := by decide +kernel
  simp [lookE, Pen.kvs, List.find?_cons, h1]
theorem look_digits (p : Pen) : lookE p.kvs (Sum.inr "digits") = some (.dat (.int p.digits)) := by
  have h1 : ¬ ("cells" : Str) = "digits" := by decide +kernel
  have h2 : ¬ ("at" : Str) = "digits" := by decide +kernel
  simp [lookE, Pen.kvs, List.find?_cons, h1, h2]
theorem look_count (p : Pen) : lookE p.kvs (Sum.inr "count") = some (.dat (.int p.count)) := by
  have h1 : ¬ ("cells" : Str) = "count" := by decide +kernel
  have h2 : ¬ ("at" : Str) = "count" := by decide +kernel
  have h3 : ¬ ("digits" : Str) = "count" := by decide +kernel
  simp [lookE, Pen.kvs, List.find?_cons, h1, h2, h3]
theorem look_fold (p : Pen) : lookE p.kvs (Sum.inr "fold") = some (.dat (.int p.fold)) := by
  have h1 : ¬ ("cells" : Str) = "fold" := by decide +kernel
  have h2 : ¬ ("at" : Str) = "fold" := by decide +kernel
  have h3 : ¬ ("digits" : Str) = "fold" := by decide +kernel
  have h4 : ¬ ("count" : Str) = "fold" := by decide +kernel
  simp [lookE, Pen.kvs, List.find?_cons, h1, h2, h3, h4]
theorem put_at (p : Pen) (z : Nat) : putE p.kvs (Sum.inr "at") (.dat (.int z)) = { p with pos := z }.kvs := by
  have h1 : ¬ ("cells" : Str) = "at" := by decide +kernel
  have h2 : ¬ ("digits" : Str) = "at" := by decide +kernel
  have h3 : ¬ ("count" : Str) = "at" := by decide +kernel
  have h4 : ¬ ("fold" : Str) = "at" := by decide +kernel
  simp [putE, Pen.kvs, h1, h2, h3, h4]
theorem put_digits (p : Pen) (z : Int) : putE p.kvs (Sum.inr "digits") (.dat (.int z)) = { p with digits := z }.kvs := by
  have h1 : ¬ ("cells" : Str) = "digits" := by decide +kernel
  have h2 : ¬ ("at" : Str) = "digits" := by decide +kernel
  have h3 : ¬ ("count" : Str) = "digits" := by decide +kernel
  have h4 : ¬ ("fold" : Str) = "digits" := by decide +kernel
  simp [putE, Pen.kvs, h1, h2, h3, h4]
theorem put_count (p : Pen) (z : Int) : putE p.kvs (Sum.inr "count") (.dat (.int z)) = { p with count := z }.kvs := by
  have h1 : ¬ ("cells" : Str) = "count" := by decide +kernel
  have h2 : ¬ ("at" : Str) = "count" := by decide +kernel
  have h3 : ¬ ("digits" : Str) = "count" := by decide +kernel
  have h4 : ¬ ("fold" : Str) = "count" := by decide +kernel
  simp [putE, Pen.kvs, h1, h2, h3, h4]
theorem put_fold (p : Pen) (z : Int) : putE p.kvs (Sum.inr "fold") (.dat (.int z)) = { p with fold := z }.kvs := by
  have h1 : ¬ ("cells" : Str) = "fold" := by decide +kernel
  have h2 : ¬ ("at" : Str) = "fold" := by decide +kernel
  have h3 : ¬ ("digits" : Str) = "fold" := by decide +kernel
  have h4 : ¬ ("count" : Str) = "fold" := by decide +kernel
  simp [putE, Pen.kvs, h1, h2, h3, h4]
/-- the pen's display, as the pen -/
theorem pen_made (cells : List Int) (f : Int) : mergeE [] (([("cells", D.lst (cells.map .int)), ("at", .int 0), ("digits", .int 0), ("count", .int 0), ("fold", .int f)] : List (Str × D)).map fun (p : Str × D) => ((Sum.inr p.1 : Key), En.dat p.2)) = ({ cells := cells, pos := 0, digits := 0, count := 0, fold := f } : Pen).kvs := by
  have h1 : ¬ ("cells" : Str) = "at" := by decide +kernel
  have h2 : ¬ ("cells" : Str) = "digits" := by decide +kernel
  have h3 : ¬ ("cells" : Str) = "count" := by decide +kernel
  have h4 : ¬ ("cells" : Str) = "fold" := by decide +kernel
  have h5 : ¬ ("at" : Str) = "digits" := by decide +kernel
  have h6 : ¬ ("at" : Str) = "count" := by decide +kernel
  have h7 : ¬ ("at" : Str) = "fold" := by decide +kernel
  have h8 : ¬ ("digits" : Str) = "count" := by decide +kernel
  have h9 : ¬ ("digits" : Str) = "fold" := by decide +kernel
  have h10 : ¬ ("count" : Str) = "fold" := by decide +kernel
  simp [mergeE, putE, Pen.kvs, h1, h2, h3, h4, h5, h6, h7, h8, h9, h10]

def Pen.fill (p : Pen) : Pen :=
  let c : Pen := { p with count := p.count + 1 }
  if c.digits = 0 ∧ c.pos < c.cells.length then
    let z := c.cells.getD c.pos 0
    let d : Pen := { c with pos := c.pos + 1 }
    if 10 ^ 18 ≤ z then { d with digits := z - 10 ^ 18 } else { d with fold := (d.fold * 69069 + z) % 2147483587 }
  else c
def draw (p : Pen) (m : Int) : Int × Pen :=
  let q := p.fill
  if 0 < q.digits then (q.digits % m, { q with digits := q.digits / m }) else ((q.fold + q.count * 7907 + 37) ^ 17 % 2305843009213693951 / 128 % m, q)
/-- a pen that has made at most n draws -/
structure PenOk (n : Nat) (p : Pen) : Prop where
  digits : 0 ≤ p.digits
  fold0 : 0 ≤ p.fold
  fold1 : p.fold < 2147483648
  count0 : 0 ≤ p.count
  count1 : p.count ≤ n
theorem PenOk.mono {n m : Nat} {p : Pen} (h : PenOk n p) (hm : n ≤ m) : PenOk m p := ⟨h.digits, h.fold0, h.fold1, h.count0, by have := h.count1; omega⟩
theorem PenOk.fill {n : Nat} {p : Pen} (h : PenOk n p) : PenOk (n + 1) p.fill := by
  have h1 := h.count0
  have h2 := h.count1
  unfold Pen.fill
  dsimp only
  split
  · split
    · rename_i h3
      exact ⟨by show 0 ≤ _ - (10 : Int) ^ 18; omega, h.fold0, h.fold1, by show 0 ≤ p.count + 1; omega, by show p.count + 1 ≤ _; omega⟩
    · refine ⟨h.digits, Int.emod_nonneg _ (by decide), ?_, by show 0 ≤ p.count + 1; omega, by show p.count + 1 ≤ _; omega⟩
      exact Int.lt_trans (Int.emod_lt_of_pos _ (by decide)) (by decide)
  · exact ⟨h.digits, h.fold0, h.fold1, by show 0 ≤ p.count + 1; omega, by show p.count + 1 ≤ _; omega⟩
theorem PenOk.draw {n : Nat} {p : Pen} (h : PenOk n p) {m : Int} (hm : 0 < m) : PenOk (n + 1) (draw p m).2 := by
  have f := h.fill
  unfold AS.draw
  dsimp only
  split
  · exact ⟨Int.ediv_nonneg f.digits (by omega), f.fold0, f.fold1, f.count0, f.count1⟩
  · exact f
theorem draw_range (p : Pen) {m : Int} (hm : 0 < m) : 0 ≤ (draw p m).1 ∧ (draw p m).1 < m := by
  unfold draw
  dsimp only
  split
  · exact ⟨Int.emod_nonneg _ (by omega), Int.emod_lt_of_pos _ hm⟩
  · exact ⟨Int.emod_nonneg _ (by omega), Int.emod_lt_of_pos _ hm⟩
section
variable {K : PySem.W.Frag} {es : List En} {W R : List Cn} {tv : TE} {p : Pen} {z : Int} {j : Nat}
theorem ev_pcells (h : es[j]? = some (.ptr 0)) : EV K (tDGet (tVar j) (tC (.str "cells"))) es (p.cn :: R) (.dat (.lst (p.cells.map .int))) (p.cn :: R) := ev_dget (ev_vp h) (ev_str _) rfl (look_cells p)
theorem ev_pat (h : es[j]? = some (.ptr 0)) : EV K (tDGet (tVar j) (tC (.str "at"))) es (p.cn :: R) (.dat (.int p.pos)) (p.cn :: R) := ev_dget (ev_vp h) (ev_str _) rfl (look_at p)
theorem ev_pdigits (h : es[j]? = some (.ptr 0)) : EV K (tDGet (tVar j) (tC (.str "digits"))) es (p.cn :: R) (.dat (.int p.digits)) (p.cn :: R) := ev_dget (ev_vp h) (ev_str _) rfl (look_digits p)
theorem ev_pcount (h : es[j]? = some (.ptr 0)) : EV K (tDGet (tVar j) (tC (.str "count"))) es (p.cn :: R) (.dat (.int p.count)) (p.cn :: R) := ev_dget (ev_vp h) (ev_str _) rfl (look_count p)
theorem ev_pfold (h : es[j]? = some (.ptr 0)) : EV K (tDGet (tVar j) (tC (.str "fold"))) es (p.cn :: R) (.dat (.int p.fold)) (p.cn :: R) := ev_dget (ev_vp h) (ev_str _) rfl (look_fold p)
theorem sd_pput {x : Str} {q : Pen} {e : En} (hv : EV K tv es W e (p.cn :: R)) (h : es[j]? = some (.ptr 0)) (hq : putE p.kvs (Sum.inr x) e = q.kvs) : SDd K (sDPut (tVar j) (tC (.str x)) tv) es W es (q.cn :: R) := by
  have := sd_dput (x := x) hv (ev_vp h) (ev_str _) rfl (by simp [Pen.kvs])
  rw [hq] at this
  exact this
theorem sd_pat {n : Nat} (hv : EV K tv es W (.dat (.int n)) (p.cn :: R)) (h : es[j]? = some (.ptr 0)) : SDd K (sDPut (tVar j) (tC (.str "at")) tv) es W es ({ p with pos := n }.cn :: R) := sd_pput hv h (put_at p n)
theorem sd_pdigits (hv : EV K tv es W (.dat (.int z)) (p.cn :: R)) (h : es[j]? = some (.ptr 0)) : SDd K (sDPut (tVar j) (tC (.str "digits")) tv) es W es ({ p with digits := z }.cn :: R) := sd_pput hv h (put_digits p z)
theorem sd_pcount (hv : EV K tv es W (.dat (.int z)) (p.cn :: R)) (h : es[j]? = some (.ptr 0)) : SDd K (sDPut (tVar j) (tC (.str "count")) tv) es W es ({ p with count := z }.cn :: R) := sd_pput hv h (put_count p z)
theorem sd_pfold (hv : EV K tv es W (.dat (.int z)) (p.cn :: R)) (h : es[j]? = some (.ptr 0)) : SDd K (sDPut (tVar j) (tC (.str "fold")) tv) es W es ({ p with fold := z }.cn :: R) := sd_pput hv h (put_fold p z)
end
end AS
/-! AS9: promises told by a relation; Euclid's laps; sizes of ratios. -/
namespace AS
open PySem PySem.Spec PyProof.Rows L2
/-! ### promises told by what holds of the answer -/
def spP (K : PySem.W.Frag) (args : List En) (W : List Cn) (post : En → List Cn → Prop) : List V → Hp → VK → Prop := fun vs H Q =>
  ∃ F Hb as, ST K F Hb H (vs.map some) args W as ∧ ∀ v Hb' H' r W', post r W' → Same Hb Hb' → ST K F Hb' H' [] [] W' as → RE K Hb' as v r → Q v H'
theorem spP.len {K : PySem.W.Frag} {args : List En} {W : List Cn} {post : En → List Cn → Prop} {vs : List V} {H : Hp} {Q : VK} (h : spP K args W post vs H Q) : vs.length = args.length := by
  obtain ⟨_, _, _, S, _⟩ := h
  have := S.sl
  simpa using this
def EVp (K : PySem.W.Frag) (te : TE) (es : List En) (W : List Cn) (post : En → List Cn → Prop) : Prop :=
  ∀ F Hb H σ as, ST K F Hb H σ es W as → ∀ Q : VK, (∀ v Hb' H' as' e W', post e W' → Gr as as' → Same Hb Hb' → ST K F Hb' H' σ es W' as' → RE K Hb' as' v e → Q v H') → te σ H Q
section
variable {K : PySem.W.Frag} {F Hb Hb' H H' : Hp} {σ : L2.St} {es es1 es2 : List En} {as as' : List Addr} {W W1 W2 W3 W' : List Cn} {e e1 e2 r : En} {te : TE} {d : D} {v : V} {P : Po} {t u : TS} {post : En → List Cn → Prop}
theorem EV.p (h : EV K te es W e W1) : EVp K te es W fun e' w => e' = e ∧ w = W1 := fun F Hb H σ as S Q k => h F Hb H σ as S Q fun v Hb' H' as' g s S' r => k v Hb' H' as' e W1 ⟨rfl, rfl⟩ g s S' r
theorem evp_call {sp : Sp} {E : XK} {tA : TA} {args : List En} {cW R : List Cn} (ha : EA K tA es W args (cW ++ R)) (h : ∀ vs H Q, spP K args cW post vs H Q → sp vs H Q E) (hl : ∀ r w, post r w → w.length = cW.length)
    (ca : ∀ e ∈ args, ClE cW.length e) (cc : ∀ c ∈ cW, ClC cW.length c) : EVp K (tCall sp [] E tA) es W fun e w => ∃ w', post e w' ∧ w = w' ++ R := fun F Hb H σ as S Q k =>
  ha F Hb H σ as S _ fun vs Hb1 H1 as1 g1 s1 S1 r1 => by
    obtain ⟨F', as0, g0, h0, Sc, Fn, Rn, back⟩ := call_in S1 r1 ca cc
    show sp (vs ++ []) H1 Q E
    rw [List.append_nil]
    refine h vs H1 Q ⟨F', Hb1, as0, Sc, fun v Hb2 H2 r w' hp s2 S2 r2 => ?_⟩
    exact k v Hb2 H2 as1 r (w' ++ R) ⟨w', hp, rfl⟩ g1 (s1.trans s2) (back Hb2 H2 w' [] [] (hl r w' hp) s2 S2) (RE.mono g0 (Same.refl _) r2)
theorem sd_asgP {i : Nat} (h : EVp K te es W post) (h2 : ∀ e w, post e w → SD K u (es.set i e) w P) : SD K (tSeq (tAsg te (gName i)) u) es W P := fun F Hb H σ as D S k =>
  h F Hb H σ as S _ fun v Hb1 H1 as1 e w hp g s S1 r1 => h2 e w hp F Hb1 H1 _ as1 D (S1.set r1) (k.on g s)
theorem sd_retP (h : EVp K te es W post) (h2 : ∀ e w, post e w → P.rt e w) : SD K (tRet te) es W P := fun F Hb H σ as D S k =>
  h F Hb H σ as S _ fun v Hb1 H1 as1 e w hp g s S1 r1 => k.rt v Hb1 H1 σ as1 es w e (h2 e w hp) g s S1 r1
theorem fn_goP {N : List Str} {vs : List V} {args : List En} {Q : VK} (h : spP K args W post vs H Q) (hc : ∀ r w, post r w → ClE W.length r ∧ w.length = W.length ∧ ∀ c ∈ w, ClC W.length c)
    (hb : SD K t (args ++ List.replicate (N.length - args.length) .un) W ⟨fun _ w => post (.dat .non) (w.take W.length), fun e w => post e (w.take W.length), fun _ _ => False, fun _ _ => False⟩) :
    t { nx := fun _ H' => Q .non H', rt := Q } (L2.start N vs) H := by
  obtain ⟨F, Hb, as, S, k⟩ := h
  refine hb F Hb H _ as _ (start_slots S) ⟨?_, ?_, fun _ _ _ _ _ _ x => x.elim, fun _ _ _ _ _ _ x => x.elim⟩
  · intro Hb' H' σ' as' es' w hp g s S'
    obtain ⟨c1, c2, c3⟩ := hc _ _ hp
    exact k .non Hb' H' _ _ hp s (S'.take (n := 0) g (by rw [S.len]; exact c2.symm) (by rw [S.len]) (by rw [S.len]; exact c3)) .non
  · intro v Hb' H' σ' as' es' w e hp g s S' rv
    obtain ⟨c1, c2, c3⟩ := hc _ _ hp
    exact k v Hb' H' _ _ hp s (S'.take (n := 0) g (by rw [S.len]; exact c2.symm) (by rw [S.len]) (by rw [S.len]; exact c3)) (RE.cut g (by rw [S.len]; exact c1) rv)
/-- .. over data alone -/
theorem fn_goPD {N : List Str} {vs : List V} {l : List D} {Q : VK} {pd : D → Prop} (h : spP K (l.map .dat) [] (fun e w => w = [] ∧ ∃ d, e = .dat d ∧ pd d) vs H Q)
    (hb : SD K t (l.map .dat ++ List.replicate (N.length - l.length) .un) [] ⟨fun _ _ => pd .non, fun e _ => ∃ d, e = .dat d ∧ pd d, fun _ _ => False, fun _ _ => False⟩) :
    t { nx := fun _ H' => Q .non H', rt := Q } (L2.start N vs) H :=
  fn_goP h (fun r w ⟨hw, d, he, _⟩ => by subst hw he; exact ⟨trivial, rfl, fun c hc => absurd hc (by simp)⟩) (by
    rw [List.length_map]
    exact hb.imp (fun _ w x => ⟨by simp, _, rfl, x⟩) (fun _ w x => ⟨by simp, x⟩) (fun _ _ x => x) (fun _ _ x => x))
theorem evp_callD {sp : Sp} {E : XK} {tA : TA} {l : List D} {pd : D → Prop} (ha : EA K tA es W (l.map .dat) W1) (h : ∀ vs H Q, spP K (l.map .dat) [] (fun e w => w = [] ∧ ∃ d, e = .dat d ∧ pd d) vs H Q → sp vs H Q E) :
    EVp K (tCall sp [] E tA) es W fun e w => w = W1 ∧ ∃ d, e = .dat d ∧ pd d := fun F Hb H σ as S Q k =>
  evp_call (cW := []) (R := W1) ha h (fun r w x => by rw [x.1]) (fun e he => by obtain ⟨d, _, rfl⟩ := List.mem_map.mp he; trivial) (fun c hc => absurd hc (by simp)) F Hb H σ as S Q
    fun v Hb' H' as' e w ⟨w', ⟨q1, q2⟩, q3⟩ g s S' rv => k v Hb' H' as' e w ⟨by rw [q3, q1]; rfl, q2⟩ g s S' rv
end

/-! ### Euclid by laps -/
def reach : Nat → Nat → Nat → Prop
  | 0, _, y => y = 0
  | n + 1, x, y => y = 0 ∨ reach n y (x % y)
theorem reach_zero : ∀ n x, reach n x 0
  | 0, _ => rfl
  | _ + 1, _ => .inl rfl
theorem reach_mono : ∀ {n m : Nat} {x y : Nat}, n ≤ m → reach n x y → reach m x y
  | 0, m, x, y, _, h => by
    have h : y = 0 := h
    subst h
    exact reach_zero m x
  | n + 1, 0, _, _, hm, _ => absurd hm (by omega)
  | n + 1, m + 1, x, y, hm, h => by
    rcases h with h | h
    · exact .inl h
    · exact .inr (reach_mono (by omega) h)
theorem reach_pow : ∀ (k x y : Nat), y < 2 ^ k → reach (2 * k) x y
  | 0, x, y, h => by
    have : y = 0 := by simpa using h
    exact this
  | k + 1, x, y, h => by
    show y = 0 ∨ reach (2 * k + 1) y (x % y)
    by_cases hy : y = 0
    · exact .inl hy
    · refine .inr ?_
      show x % y = 0 ∨ reach (2 * k) (x % y) (y % (x % y))
      by_cases hr : x % y = 0
      · exact .inl hr
      · refine .inr (reach_pow k _ _ ?_)
        have h1 : x % y < y := Nat.mod_lt _ (by omega)
        have h2 : y % (x % y) < x % y := Nat.mod_lt _ (by omega)
        have h3 : y % (x % y) + (x % y) ≤ y := by
          have := Nat.div_add_mod y (x % y)
          have h4 : 1 ≤ y / (x % y) := Nat.div_pos (by omega) (by omega)
          have h5 : (x % y) * 1 ≤ (x % y) * (y / (x % y)) := Nat.mul_le_mul_left _ h4
          omega
        have : 2 ^ (k + 1) = 2 * 2 ^ k := by rw [Nat.pow_succ]; omega
        omega
/-- factors of so many bits -/
theorem mulOk_bits {a b : Int} {n m : Nat} (ha : a.natAbs < 2 ^ n) (hb : b.natAbs < 2 ^ m) (h : n + m ≤ 1000000) : IntMulOk a b := by
  by_cases hn : n = 0
  · subst hn
    have : a = 0 := by simp at ha; omega
    subst this
    exact .of_left (by decide)
  · by_cases hm : m = 0
    · subst hm
      have : b = 0 := by simp at hb; omega
      subst this
      exact .of_right (by decide)
    · exact CMulW.ok (wide_mul ha hb (by omega) (by omega) h)
theorem log2_lt {a : Int} {n : Nat} (h : a.natAbs < 2 ^ n) (hn : n ≤ 9000) (h0 : 0 < n) : a.natAbs.log2 < 9000 := by
  have := PySem.Flt.log2_lt_of h0 h
  omega
end AS
/-! AS10: the laws' big numbers: some draws of three figures each, the last figures of the number's text. -/
namespace AS
open PySem PySem.Spec PyProof.Rows L2
theorem digitsVal_lt : ∀ (l : List Nat) (a : Nat), NumText.AllDigits l → l.foldl (fun acc c => acc * 10 + (c - 48)) a < (a + 1) * 10 ^ l.length
  | [], a, _ => by simp
  | c :: r, a, h => by
    have hc := h.head
    have ih := digitsVal_lt r (a * 10 + (c - 48)) h.tail
    rw [List.foldl_cons]
    refine Nat.lt_of_lt_of_le ih ?_
    rw [List.length_cons, Nat.pow_succ, Nat.mul_comm (10 ^ r.length) 10, ← Nat.mul_assoc]
    exact Nat.mul_le_mul_right _ (by omega)
def lastT (t f : Int) : Str := cutS (toString t) (some (-f)) none
def lastD (t f : Int) : Int := (PySem.intText? (lastT t f)).getD 0
theorem last_facts (t f : Nat) (hf : 0 < f) (hf2 : f ≤ 600) : PySem.intText? (lastT t f) = some (lastD t f) ∧ (lastT t f).length ≤ 640 ∧ 0 ≤ lastD t f ∧ lastD t f < 10 ^ f := by
  have hL : (Str.ofString (toString ((t : Nat) : Int))).cps.toList = TL.numL t := TL.tl_num t
  have hlen : (Str.ofString (toString ((t : Nat) : Int))).length = (TL.numL t).length := by
    show (Str.ofString (toString ((t : Nat) : Int))).cps.size = _
    rw [← hL]; simp
  have hz : (lastT t f).cps.toList = (TL.numL t).drop ((TL.numL t).length - f) := by
    unfold lastT cutS
    show (((Str.ofString (toString ((t : Nat) : Int))).cps.toList.drop (HT.sIx (Str.ofString (toString ((t : Nat) : Int))).length 0 (some (-(f : Int))))).take (HT.sIx (Str.ofString (toString ((t : Nat) : Int))).length (Str.ofString (toString ((t : Nat) : Int))).length none - HT.sIx (Str.ofString (toString ((t : Nat) : Int))).length 0 (some (-(f : Int))))).toArray.toList = _
    rw [hL, hlen]
    have e1 : HT.sIx (TL.numL t).length 0 (some (-(f : Int))) = (TL.numL t).length - f := by
      show (if (-(f : Int)) < 0 then (-(f : Int) + ((TL.numL t).length : Int)).toNat else _) = _
      rw [if_pos (by omega)]
      omega
    rw [e1, HT.sIx_none]
    exact List.take_of_length_le (by rw [List.length_drop]; exact Nat.le_refl _)
  have hne := TL.numL_ne t
  have hpos : 0 < (TL.numL t).length := List.length_pos_iff.mpr hne
  have hdl : ((TL.numL t).drop ((TL.numL t).length - f)).length ≤ f := by rw [List.length_drop]; omega
  have hd : NumText.AllDigits (lastT t f).cps.toList := by
    rw [hz]
    exact fun c hc => TL.numL_digits t c (List.mem_of_mem_drop hc)
  have hn : (lastT t f).cps.toList ≠ [] := by
    rw [hz]
    intro e
    have := congrArg List.length e
    rw [List.length_drop] at this
    simp at this
    omega
  have hl : (lastT t f).length ≤ f := by
    show (lastT t f).cps.size ≤ f
    have : (lastT t f).cps.size = (lastT t f).cps.toList.length := by simp
    rw [this, hz]; exact hdl
  have hi := intText_digits hd hn (by omega)
  have hv : lastD t f = ((NumText.digitsVal (lastT t f).cps.toList : Nat) : Int) := by
    unfold lastD
    rw [hi]; rfl
  refine ⟨by rw [hv]; exact hi, by omega, by rw [hv]; omega, ?_⟩
  rw [hv]
  have h1 := digitsVal_lt (lastT t f).cps.toList 0 hd
  have h2 : (lastT t f).cps.toList.length ≤ f := by rw [hz]; exact hdl
  have h3 : 10 ^ (lastT t f).cps.toList.length ≤ 10 ^ f := Nat.pow_le_pow_right (by decide) h2
  have h4 : NumText.digitsVal (lastT t f).cps.toList < 10 ^ f := by
    unfold NumText.digitsVal
    omega
  exact_mod_cast h4
def bigL (p : Pen) : Nat → Int × Pen
  | 0 => (0, p)
  | n + 1 => ((bigL p n).1 * 1000 + (draw (bigL p n).2 1000).1, (draw (bigL p n).2 1000).2)
theorem bigL_ok {n : Nat} {p : Pen} (h : PenOk n p) : ∀ k, PenOk (n + k) (bigL p k).2 ∧ 0 ≤ (bigL p k).1 ∧ (bigL p k).1 < 1000 ^ k
  | 0 => ⟨h, Int.le_refl _, by show (0 : Int) < 1000 ^ 0; decide⟩
  | k + 1 => by
    obtain ⟨h1, h2, h3⟩ := bigL_ok h k
    have d := draw_range (bigL p k).2 (m := 1000) (by decide)
    refine ⟨h1.draw (by decide), ?_, ?_⟩
    · show 0 ≤ (bigL p k).1 * 1000 + (draw (bigL p k).2 1000).1
      omega
    · show (bigL p k).1 * 1000 + (draw (bigL p k).2 1000).1 < 1000 ^ (k + 1)
      rw [Int.pow_succ]
      omega
def bigN (p : Pen) (f : Int) : Int := ([1, 1, 1, 2, 3, (f + 2) / 3] : List Int).getD (draw p 6).1.toNat 0
def big (p : Pen) (f : Int) : Int × Pen := (lastD (bigL (draw p 6).2 (bigN p f).toNat).1 f, (bigL (draw p 6).2 (bigN p f).toNat).2)
theorem bigN_range (p : Pen) {f : Int} (h1 : 1 ≤ f) (h2 : f ≤ 30) : 1 ≤ bigN p f ∧ bigN p f ≤ 10 := by
  have d := draw_range p (m := 6) (by decide)
  unfold bigN
  generalize hj : (draw p 6).1.toNat = j
  have hj6 : j < 6 := by omega
  match j, hj6 with
  | 0, _ => exact ⟨by show (1 : Int) ≤ 1; decide, by show (1 : Int) ≤ 10; decide⟩
  | 1, _ => exact ⟨by show (1 : Int) ≤ 1; decide, by show (1 : Int) ≤ 10; decide⟩
  | 2, _ => exact ⟨by show (1 : Int) ≤ 1; decide, by show (1 : Int) ≤ 10; decide⟩
  | 3, _ => exact ⟨by show (1 : Int) ≤ 2; decide, by show (2 : Int) ≤ 10; decide⟩
  | 4, _ => exact ⟨by show (1 : Int) ≤ 3; decide, by show (3 : Int) ≤ 10; decide⟩
  | 5, _ =>
    show 1 ≤ (f + 2) / 3 ∧ (f + 2) / 3 ≤ 10
    omega
theorem big_ok {n : Nat} {p : Pen} (h : PenOk n p) {f : Nat} (h1 : 1 ≤ f) (h2 : f ≤ 30) : PenOk (n + 11) (big p f).2 ∧ 0 ≤ (big p f).1 ∧ (big p f).1 < 10 ^ f := by
  have hb := bigN_range p (f := (f : Int)) (by omega) (by omega)
  obtain ⟨k1, k2, k3⟩ := bigL_ok (h.draw (m := 6) (by decide)) (bigN p f).toNat
  refine ⟨k1.mono (by omega), ?_⟩
  obtain ⟨t, ht⟩ := Int.eq_ofNat_of_zero_le k2
  obtain ⟨_, _, l3, l4⟩ := last_facts t f (by omega) (by omega)
  show 0 ≤ lastD (bigL (draw p 6).2 (bigN p f).toNat).1 f ∧ lastD (bigL (draw p 6).2 (bigN p f).toNat).1 f < _
  rw [ht]
  exact ⟨l3, l4⟩
end AS
/-! AS11: comprehensions over known lists, owned or data; == and != with []. -/
namespace AS
open PySem PySem.Spec PyProof.Rows L2
section
variable {K : PySem.W.Frag} {F Hb Hb' H H' : Hp} {σ : L2.St} {es es1 es2 : List En} {as as' : List Addr} {W W1 W2 W3 W' : List Cn} {e e1 e2 : En} {ta tb te tc : TE} {d d1 d2 : D} {v : V} {P : Po} {t u : TS} {tt : TT}
/-- a list comprehension whose list is owned -/
theorem ev_lcO {wi : TI} {g : TG} {vs js : List Nat} {l : List En} {stay : List Cn → Prop} {W0 : List Cn} (hi : EI K wi es W l stay W0) (fs : Nat → Option D) (Ws : Nat → List Cn) (hW0 : Ws 0 = W0) (hl : l.length ≤ 1000000) (hst : ∀ i, i ≤ l.length → stay (Ws i)) (hjs : ∀ j ∈ js, j ∈ vs)
    (step : ∀ i x, l[i]? = some x → ∃ e2, EG K g js x (wipeE es vs) (Ws i) e2 ∧ ((∃ Wt d, fs i = some d ∧ ET K tt e2 (Ws i) true Wt ∧ EV K te e2 Wt (.dat d) (Ws (i + 1))) ∨ (fs i = none ∧ ET K tt e2 (Ws i) false (Ws (i + 1))))) :
    EV K (tLc wi g tt te vs) es W (.ptr (Ws l.length).length) (Ws l.length ++ [.lst (((List.range l.length).filterMap fs).map .dat)]) := fun F Hb H σ as S Q k =>
  hi F Hb H σ as S _ fun J Hb1 H1 as1 g1 s1 S1 walk p hp => by
    have hF : F p = none := S1.frm.free hp
    refine ⟨fun i m H' => m = l.length - i ∧ i ≤ l.length ∧ ∃ Hb' as' acc, Gr as1 as' ∧ Same Hb1 Hb' ∧ DtA K Hb' acc ((List.range i).filterMap fs) ∧ ST K (upd F p (.lst acc)) Hb' H' (L2.wipe σ vs) (wipeE es vs) (Ws i) as',
      ⟨l.length, by simp, Nat.zero_le _, Hb1, as1, [], Gr.refl _, Same.refl _, .nil, by rw [hW0]; exact (S1.outside hp NT.lst).wipe vs⟩, ?_⟩
    rintro i m H' ⟨rfl, hil, Hb2, as2, acc, g2, s2, hacc, S2⟩
    have wk := walk i _ Hb2 H' _ _ _ as2 S2 s2 g2 (hst i hil)
    by_cases hlt : i < l.length
    · obtain ⟨hgo, hyl⟩ := wk.1 l[i] (by simp [hlt])
      refine .inr ⟨hgo, fun H3 => ∃ Hb' as' acc, Gr as1 as' ∧ Same Hb1 Hb' ∧ DtA K Hb' acc ((List.range (i + 1)).filterMap fs) ∧ ST K (upd F p (.lst acc)) Hb' H3 (L2.wipe σ vs) (wipeE es vs) (Ws (i + 1)) as', fun H3 h => ⟨l.length - (i + 1), by omega, rfl, hlt, h⟩, fun x H3 hy => ?_⟩
      obtain ⟨Hb3, s3, S3, r3, _⟩ := hyl x H3 hy
      obtain ⟨e2, hg, hstep⟩ := step i l[i] (by simp [hlt])
      refine hg _ Hb3 H3 _ as2 x S3 r3 _ fun σ4 hw S4 => ⟨by rw [hw vs hjs, wipe_wipe], ?_⟩
      have back : ∀ {Hb5 H5 as5 F5 W5}, ST K F5 Hb5 H5 σ4 e2 W5 as5 → Same Hb2 Hb5 → Gr as2 as5 → ST K F5 Hb5 H5 (L2.wipe σ vs) (wipeE es vs) W5 as5 := fun {Hb5 H5 as5 F5 W5} S5 s5 g5 =>
        S5.slots (by have := (S.wipe vs).sl; exact this) fun i e h => RS.mono g5 s5 (S2.slot i e h)
      have lenacc : acc.length < sizeLine := by
        rw [hacc.length, sizeLine_eq]
        have := List.length_filterMap_le fs (List.range i)
        simp at this
        omega
      rcases hstep with ⟨Wt, d, hf, ht, he⟩ | ⟨hf, ht⟩
      · refine ht _ Hb3 H3 σ4 as2 S4 _ fun Hb5 H5 as5 g5 s5 S5 => ?_
        show te σ4 H5 _
        refine he _ Hb5 H5 σ4 as5 S5 _ fun y Hb6 H6 as6 g6 s6 S6 r6 => ?_
        refine ⟨acc, S6.frm p _ upd_same, lenacc, Hb6, as6, acc ++ [y], (g2.trans g5).trans g6, ((s2.trans s3).trans s5).trans s6, ?_, back (S6.outset NT.lst) ((s3.trans s5).trans s6) (g5.trans g6)⟩
        rw [List.range_succ, List.filterMap_append]
        have : [i].filterMap fs = [d] := by simp [hf]
        rw [this]
        exact (DtA.mono ((s3.trans s5).trans s6) _ _ hacc).append (.cons r6 .nil)
      · refine ht _ Hb3 H3 σ4 as2 S4 _ fun Hb5 H5 as5 g5 s5 S5 => ?_
        show ∃ Hb' as' acc, _
        refine ⟨Hb5, as5, acc, g2.trans g5, (s2.trans s3).trans s5, ?_, back S5 (s3.trans s5) g5⟩
        rw [List.range_succ, List.filterMap_append]
        have : [i].filterMap fs = [] := by simp [hf]
        rw [this, List.append_nil]
        exact DtA.mono (s3.trans s5) _ _ hacc
    · have e : i = l.length := by omega
      subst e
      refine .inl ⟨wk.2 (Nat.le_refl _), ?_⟩
      have gg := g1.trans g2
      have ss := s1.trans s2
      have FF : ∀ a u, F a = some u → a ≠ p := fun a u e q => by subst q; rw [hF] at e; cases e
      have S3 : ST K F Hb2 H' (L2.wipe σ vs) (wipeE es vs) (Ws l.length) as2 :=
        ⟨S2.base, fun b u e => S2.frm b u (by rw [upd_ne (FF b u e)]; exact e), fun b u e => S2.dis b u (by rw [upd_ne (FF b u e)]; exact e), S2.len, fun j b c q1 q2 q3 => by
          obtain ⟨k1, k2, k3⟩ := S2.own j b c q1 q2 q3
          have ne : b ≠ p := fun q => by subst q; rw [upd_same] at k2; cases k2
          rw [upd_ne ne] at k2
          exact ⟨k1, k2, k3⟩, S2.inj, S2.sl, S2.slot⟩
      have S4 := S3.join (p := p) (c := .lst (((List.range l.length).filterMap fs).map .dat)) (S2.dis p _ upd_same).1 hF ⟨acc, S2.frm p _ upd_same, DtA.to_dat hacc⟩ fun j c q1 q2 q3 => by
        obtain ⟨_, k2, _⟩ := S2.own j p c q1 q2 q3
        rw [upd_same] at k2; cases k2
      have g3 : Gr as2 (as2 ++ [p]) := ⟨[p], rfl⟩
      have S5 : ST K F Hb2 H' σ es (Ws l.length ++ [.lst (((List.range l.length).filterMap fs).map .dat)]) (as2 ++ [p]) := S4.slots S.sl fun i e h => RS.mono (gg.trans g3) ss (S.slot i e h)
      refine k (.ref p) _ _ _ (gg.trans g3) ss S5 ⟨p, ?_, rfl⟩
      rw [← S2.len, List.getElem?_append_right (Nat.le_refl _)]
      simp
theorem et_yes : ET K tYes es W true W := fun F Hb H σ as S Q k => k Hb H as (Gr.refl _) (Same.refl _) S
theorem fm_range {α β : Type} (f : α → Option β) : ∀ (l : List α), (List.range l.length).filterMap (fun i => l[i]?.bind f) = l.filterMap f
  | [] => rfl
  | a :: r => by
    rw [List.length_cons, List.range_succ_eq_map, List.filterMap_cons, List.filterMap_map]
    have ih := fm_range f r
    have e : (fun i => (a :: r)[i]?.bind f) ∘ Nat.succ = fun i => r[i]?.bind f := by
      funext i
      simp
    rw [e, ih, List.filterMap_cons]
    rfl
/-- over a known list, the owned objects staying as they are -/
theorem ev_lcF {α : Type} {m : List α} {g0 : α → En} {f : α → Option D} {wi : TI} {g : TG} {vs js : List Nat} {stay : List Cn → Prop} (hi : EI K wi es W (m.map g0) stay W1) (hl : m.length ≤ 1000000) (hst : stay W1) (hjs : ∀ j ∈ js, j ∈ vs)
    (step : ∀ a ∈ m, ∃ e2, EG K g js (g0 a) (wipeE es vs) W1 e2 ∧ ((∃ d, f a = some d ∧ ET K tt e2 W1 true W1 ∧ EV K te e2 W1 (.dat d) W1) ∨ (f a = none ∧ ET K tt e2 W1 false W1))) : EV K (tLc wi g tt te vs) es W (.dat (.lst (m.filterMap f))) W1 := by
  have z := ev_lc (W := W) hi (fun i => m[i]?.bind f) (fun _ => W1) rfl (by simpa using hl) (fun _ _ => hst) hjs (tt := tt) (te := te) (by
    intro i x hx
    rw [List.getElem?_map] at hx
    cases q : m[i]? with
    | none => rw [q] at hx; cases hx
    | some a =>
      rw [q] at hx; cases hx
      obtain ⟨e2, h1, h2⟩ := step a (List.mem_of_getElem? q)
      refine ⟨e2, h1, ?_⟩
      rcases h2 with ⟨d, h3, h4, h5⟩ | ⟨h3, h4⟩
      · exact .inl ⟨W1, d, h3, h4, h5⟩
      · exact .inr ⟨h3, h4⟩)
  rw [List.length_map, fm_range] at z
  exact z
theorem ev_lcFO {α : Type} {m : List α} {g0 : α → En} {f : α → Option D} {wi : TI} {g : TG} {vs js : List Nat} {stay : List Cn → Prop} (hi : EI K wi es W (m.map g0) stay W1) (hl : m.length ≤ 1000000) (hst : stay W1) (hjs : ∀ j ∈ js, j ∈ vs)
    (step : ∀ a ∈ m, ∃ e2, EG K g js (g0 a) (wipeE es vs) W1 e2 ∧ ((∃ d, f a = some d ∧ ET K tt e2 W1 true W1 ∧ EV K te e2 W1 (.dat d) W1) ∨ (f a = none ∧ ET K tt e2 W1 false W1))) : EV K (tLc wi g tt te vs) es W (.ptr W1.length) (W1 ++ [.lst ((m.filterMap f).map .dat)]) := by
  have z := ev_lcO (W := W) hi (fun i => m[i]?.bind f) (fun _ => W1) rfl (by simpa using hl) (fun _ _ => hst) hjs (tt := tt) (te := te) (by
    intro i x hx
    rw [List.getElem?_map] at hx
    cases q : m[i]? with
    | none => rw [q] at hx; cases hx
    | some a =>
      rw [q] at hx; cases hx
      obtain ⟨e2, h1, h2⟩ := step a (List.mem_of_getElem? q)
      refine ⟨e2, h1, ?_⟩
      rcases h2 with ⟨d, h3, h4, h5⟩ | ⟨h3, h4⟩
      · exact .inl ⟨W1, d, h3, h4, h5⟩
      · exact .inr ⟨h3, h4⟩)
  rw [List.length_map, fm_range] at z
  exact z
/-- over a known list, no test -/
theorem ev_lcM {α : Type} {m : List α} {g0 : α → En} {f : α → D} {wi : TI} {g : TG} {vs js : List Nat} {stay : List Cn → Prop} (hi : EI K wi es W (m.map g0) stay W1) (hl : m.length ≤ 1000000) (hst : stay W1) (hjs : ∀ j ∈ js, j ∈ vs)
    (step : ∀ a ∈ m, ∃ e2, EG K g js (g0 a) (wipeE es vs) W1 e2 ∧ EV K te e2 W1 (.dat (f a)) W1) : EV K (tLc wi g tYes te vs) es W (.dat (.lst (m.map f))) W1 := by
  have z := ev_lcF (f := fun a => some (f a)) (te := te) (tt := tYes) hi hl hst hjs fun a ha => by
    obtain ⟨e2, h1, h2⟩ := step a ha
    exact ⟨e2, h1, .inl ⟨_, rfl, et_yes, h2⟩⟩
  have e : m.filterMap (fun a => some (f a)) = m.map f := by simp
  rw [e] at z
  exact z
theorem D.pys_len : ∀ {l : List D} {p : List PyData}, D.pys l = some p → p.isEmpty = l.isEmpty
  | [], _, h => by cases h; rfl
  | d :: l, p, h => by
    unfold D.pys at h
    cases q1 : D.py d with
    | none => rw [q1] at h; simp at h
    | some x =>
      cases q2 : D.pys l with
      | none => rw [q1, q2] at h; simp at h
      | some y => rw [q1, q2] at h; cases h; rfl
theorem eqvAll_nil (p : List PyData) : PyData.eqvAll p [] = p.isEmpty := by cases p <;> rfl
theorem shaped_nil : SeqAt.shaped (.list []) = true := by decide +kernel
/-- whole numbers, truth values, None, and what is built of them, so deep -/
def D.flat : Nat → D → Bool
  | _, .non => true
  | _, .bl _ => true
  | _, .int _ => true
  | n + 1, .tup l => l.all (D.flat n)
  | n + 1, .lst l => l.all (D.flat n)
  | n + 1, .rl l => l.all (D.flat n)
  | _ + 1, .key _ => true
  | _, _ => false
theorem flat_all {n : Nat} (h : ∀ d, D.flat n d = true → ∃ p, d.py = some p ∧ p.canLay0 = true ∧ p.depth ≤ n) : ∀ l : List D, l.all (D.flat n) = true → ∃ p, D.pys l = some p ∧ PyData.canLayAll0 p = true ∧ PyData.depthAll p ≤ n
  | [], _ => ⟨[], rfl, rfl, by simp [PyData.depthAll]⟩
  | d :: l, hl => by
    rw [List.all_cons, Bool.and_eq_true] at hl
    obtain ⟨p, a1, a2, a3⟩ := h d hl.1
    obtain ⟨ps, b1, b2, b3⟩ := flat_all h l hl.2
    refine ⟨p :: ps, by unfold D.pys; rw [a1, b1], by simp only [PyData.canLayAll0, a2, b2, Bool.and_self], ?_⟩
    simp only [PyData.depthAll]
    omega
theorem ints_lay : ∀ l : List Int, PyData.canLayAll0 (l.map PyData.int) = true ∧ PyData.depthAll (l.map PyData.int) = 0
  | [] => ⟨rfl, by simp [PyData.depthAll]⟩
  | i :: r => by
    obtain ⟨h1, h2⟩ := ints_lay r
    exact ⟨by simp only [List.map_cons, PyData.canLayAll0, PyData.canLay0, h1, Bool.and_self], by simp only [List.map_cons, PyData.depthAll, PyData.depth, h2]; rfl⟩
theorem flat_py : ∀ (n : Nat) (d : D), D.flat n d = true → ∃ p, d.py = some p ∧ p.canLay0 = true ∧ p.depth ≤ n
  | n, .non, _ => ⟨_, rfl, rfl, by simp [PyData.depth]⟩
  | n, .bl _, _ => ⟨_, rfl, rfl, by simp [PyData.depth]⟩
  | n, .int _, _ => ⟨_, rfl, rfl, by simp [PyData.depth]⟩
  | n + 1, .tup l, h => by
    obtain ⟨ps, b1, b2, b3⟩ := flat_all (flat_py n) l h
    exact ⟨.tuple ps, by unfold D.py; rw [b1]; rfl, by simp only [PyData.canLay0]; exact b2, by simp only [PyData.depth]; omega⟩
  | n + 1, .lst l, h => by
    obtain ⟨ps, b1, b2, b3⟩ := flat_all (flat_py n) l h
    exact ⟨.list ps, by unfold D.py; rw [b1]; rfl, by simp only [PyData.canLay0]; exact b2, by simp only [PyData.depth]; omega⟩
  | n + 1, .rl l, h => by
    obtain ⟨ps, b1, b2, b3⟩ := flat_all (flat_py n) l h
    exact ⟨.list ps, by unfold D.py; rw [b1]; rfl, by simp only [PyData.canLay0]; exact b2, by simp only [PyData.depth]; omega⟩
  | n + 1, .key l, _ => by
    obtain ⟨h1, h2⟩ := ints_lay l
    exact ⟨_, rfl, by simp only [PyData.canLay0]; exact h1, by simp only [PyData.depth, h2]; omega⟩
  | 0, .key _, h => by cases h
  | 0, .tup _, h => by cases h
  | 0, .lst _, h => by cases h
  | 0, .rl _, h => by cases h
  | 0, .str _, h => by cases h
  | 0, .ty _, h => by cases h
  | 0, .rf _, h => by cases h
  | 0, .kd _ _, h => by cases h
  | n + 1, .kd _ _, h => by cases h
  | 0, .obj _ _ _, h => by cases h
  | n + 1, .str _, h => by cases h
  | n + 1, .ty _, h => by cases h
  | n + 1, .rf _, h => by cases h
  | n + 1, .obj _ _ _, h => by cases h
theorem flat_list {l : List D} (h : l.all (D.flat 9) = true) : ∃ p, D.pys l = some p ∧ SeqAt.shaped (.list p) = true := by
  obtain ⟨ps, b1, b2, b3⟩ := flat_all (flat_py 9) l h
  refine ⟨ps, b1, ?_⟩
  unfold SeqAt.shaped
  rw [Bool.and_eq_true]
  exact ⟨by simp only [PyData.canLay0]; exact b2, decide_eq_true (by simp only [PyData.depth]; omega)⟩
theorem flat_shaped {d : D} (h : D.flat 9 d = true) : ∃ p, d.py = some p ∧ SeqAt.shaped p = true := by
  obtain ⟨p, b1, b2, b3⟩ := flat_py 9 d h
  refine ⟨p, b1, ?_⟩
  unfold SeqAt.shaped
  rw [Bool.and_eq_true]
  exact ⟨b2, decide_eq_true (by omega)⟩
/-- xs == [], xs != [] -/
theorem ev_eqNil {l : List D} (ha : EV K ta es W e1 W1) (hs : LstE W1 e1 = some (l.map .dat)) (hf : l.all (D.flat 9) = true) : EV K (tOp (rEqA K) ta (tLst tNil)) es W (.dat (.bl l.isEmpty)) W1 := by
  obtain ⟨p, hp, s1⟩ := flat_list hf
  exact ev_op2 (W2 := W1) ha (ev_lst (l := []) ea_nil (by simp)) fun F Hb H σ as v u S r1 r2 Q k => by
    obtain ⟨a, xs, rfl, hq, hpp⟩ := S.lstE hs r1
    refine .inr ⟨.list p, .list [], .lst hq (DtA.py _ _ _ (DtA.mono S.base _ _ (DtA.of_dat (xs := xs) hpp)) hp), Dt.py _ _ _ (Dt.mono S.base _ _ r2) rfl, s1, shaped_nil, ?_⟩
    rw [show PyData.eqv (.list p) (.list []) = PyData.eqvAll p [] from rfl, eqvAll_nil, D.pys_len hp]
    exact k.here S (.bl _)
theorem ev_neNil {l : List D} (ha : EV K ta es W e1 W1) (hs : LstE W1 e1 = some (l.map .dat)) (hf : l.all (D.flat 9) = true) : EV K (tOp (rNeA K) ta (tLst tNil)) es W (.dat (.bl (!l.isEmpty))) W1 := by
  obtain ⟨p, hp, s1⟩ := flat_list hf
  exact ev_op2 (W2 := W1) ha (ev_lst (l := []) ea_nil (by simp)) fun F Hb H σ as v u S r1 r2 Q k => by
    obtain ⟨a, xs, rfl, hq, hpp⟩ := S.lstE hs r1
    refine .inr ⟨.list p, .list [], .lst hq (DtA.py _ _ _ (DtA.mono S.base _ _ (DtA.of_dat (xs := xs) hpp)) hp), Dt.py _ _ _ (Dt.mono S.base _ _ r2) rfl, s1, shaped_nil, ?_⟩
    rw [show PyData.eqv (.list p) (.list []) = PyData.eqvAll p [] from rfl, eqvAll_nil, D.pys_len hp]
    exact k.here S (.bl _)
/-- a list of data and a list of data -/
theorem ev_eqL {l m : List D} {p q : List PyData} (ha : EV K ta es W e1 W1) (hb : EV K tb es W1 e2 W2) (hs : LstE W2 e1 = some (l.map .dat)) (hs2 : LstE W2 e2 = some (m.map .dat)) (hp : D.pys l = some p) (hq : D.pys m = some q) (s1 : SeqAt.shaped (.list p) = true) (s2 : SeqAt.shaped (.list q) = true) : EV K (tOp (rEqA K) ta tb) es W (.dat (.bl (PyData.eqvAll p q))) W2 :=
  ev_op2 ha hb fun F Hb H σ as v u S r1 r2 Q k => by
    obtain ⟨a, xs, rfl, h1, hpp⟩ := S.lstE hs r1
    obtain ⟨b, ys, rfl, h2, hqq⟩ := S.lstE hs2 r2
    exact .inr ⟨.list p, .list q, .lst h1 (DtA.py _ _ _ (DtA.mono S.base _ _ (DtA.of_dat (xs := xs) hpp)) hp), .lst h2 (DtA.py _ _ _ (DtA.mono S.base _ _ (DtA.of_dat (xs := ys) hqq)) hq), s1, s2, k.here S (.bl _)⟩
end
end AS
/-! R1: coprime bases: the plain law of `refined` (no program in sight). -/
namespace Cb
inductive Gen (S : List Nat) : Nat → Prop
  | one : Gen S 1
  | mul {x n : Nat} : x ∈ S → Gen S n → Gen S (x * n)
theorem Gen.mem {S : List Nat} {x : Nat} (h : x ∈ S) : Gen S x := by
  have := Gen.mul h .one
  rwa [Nat.mul_one] at this
theorem Gen.times {S : List Nat} {a b : Nat} (ha : Gen S a) (hb : Gen S b) : Gen S (a * b) := by
  induction ha with
  | one => rwa [Nat.one_mul]
  | mul h _ ih => rw [Nat.mul_assoc]; exact .mul h ih
theorem Gen.trans {S T : List Nat} {n : Nat} (h : ∀ x ∈ S, Gen T x) (hn : Gen S n) : Gen T n := by
  induction hn with
  | one => exact .one
  | mul hx _ ih => exact (h _ hx).times ih
/-- closed for divisors -/
def Dc (p : Nat → Prop) : Prop := ∀ a b, a ∣ b → 0 < b → p b → p a
structure Inv (orig base wait : List Nat) : Prop where
  two : ∀ b ∈ base, 2 ≤ b
  pos : ∀ w ∈ wait, 1 ≤ w
  cop : base.Pairwise fun a b => Nat.gcd a b = 1
  gen : ∀ n ∈ orig, Gen (base ++ wait) n
  her : ∀ p : Nat → Prop, Dc p → (∀ n ∈ orig, p n) → ∀ x ∈ base ++ wait, p x
theorem Inv.start {orig : List Nat} (h : ∀ n ∈ orig, 1 ≤ n) : Inv orig [] orig :=
  ⟨fun _ h => absurd h (by simp), h, .nil, fun n hn => .mem (by simpa using hn), fun p _ hp x hx => hp x (by simpa using hx)⟩
variable {orig base wait : List Nat} {x o : Nat}
theorem Inv.drop (h : Inv orig base (wait ++ [x])) (hx : x = 1 ∨ x ∈ base) : Inv orig base wait := by
  refine ⟨h.two, fun w hw => h.pos w (by simp [hw]), h.cop, fun n hn => (h.gen n hn).trans fun y hy => ?_, fun p dp hp y hy => h.her p dp hp y (by simp at hy ⊢; rcases hy with h | h <;> simp [h])⟩
  simp at hy
  rcases hy with hy | hy | rfl
  · exact .mem (by simp [hy])
  · exact .mem (by simp [hy])
  · rcases hx with rfl | hx
    · exact .one
    · exact .mem (by simp [hx])
theorem Inv.put (h : Inv orig base (wait ++ [x])) (h1 : x ≠ 1) (hc : ∀ b ∈ base, Nat.gcd x b ≤ 1) : Inv orig (base ++ [x]) wait := by
  have hx := h.pos x (by simp)
  refine ⟨fun b hb => ?_, fun w hw => h.pos w (by simp [hw]), ?_, fun n hn => (h.gen n hn).trans fun y hy => .mem (by simp at hy ⊢; rcases hy with h | h | h <;> simp [h]), fun p dp hp y hy => h.her p dp hp y (by simp at hy ⊢; rcases hy with h | h | h <;> simp [h])⟩
  · simp at hb
    rcases hb with hb | rfl
    · exact h.two b hb
    · omega
  · rw [List.pairwise_append]
    refine ⟨h.cop, by simp, fun a ha b hb => ?_⟩
    simp at hb
    subst hb
    have := hc a ha
    have g : 0 < Nat.gcd b a := Nat.gcd_pos_of_pos_left _ (by omega)
    rw [Nat.gcd_comm]
    omega
theorem Inv.split (h : Inv orig base (wait ++ [x])) (ho : o ∈ base) (hg : 1 < Nat.gcd x o) : Inv orig (base.filter fun b => decide (b ≠ o)) (wait ++ [Nat.gcd x o, o / Nat.gcd x o, x / Nat.gcd x o]) := by
  have hx := h.pos x (by simp)
  have h2 := h.two o ho
  have d1 := Nat.gcd_dvd_left x o
  have d2 := Nat.gcd_dvd_right x o
  have e1 : Nat.gcd x o * (x / Nat.gcd x o) = x := Nat.mul_div_cancel' d1
  have e2 : Nat.gcd x o * (o / Nat.gcd x o) = o := Nat.mul_div_cancel' d2
  refine ⟨fun b hb => h.two b (List.mem_filter.mp hb).1, fun w hw => ?_, h.cop.filter _, fun n hn => (h.gen n hn).trans fun y hy => ?_, fun p dp hp y hy => ?_⟩
  · simp at hw
    rcases hw with hw | rfl | rfl | rfl
    · exact h.pos w (by simp [hw])
    · omega
    · exact Nat.div_pos (Nat.le_of_dvd (by omega) d2) (by omega)
    · exact Nat.div_pos (Nat.le_of_dvd (by omega) d1) (by omega)
  · simp at hy
    rcases hy with hy | hy | rfl
    · by_cases q : y = o
      · subst q
        have z : Gen (base.filter (fun b => decide (b ≠ y)) ++ (wait ++ [Nat.gcd x y, y / Nat.gcd x y, x / Nat.gcd x y])) (Nat.gcd x y * (y / Nat.gcd x y)) := (Gen.mem (by simp)).times (Gen.mem (by simp))
        rwa [e2] at z
      · exact .mem (by simp [hy, q])
    · exact .mem (by simp [hy])
    · have z : Gen (base.filter (fun b => decide (b ≠ o)) ++ (wait ++ [Nat.gcd y o, o / Nat.gcd y o, y / Nat.gcd y o])) (Nat.gcd y o * (y / Nat.gcd y o)) := (Gen.mem (by simp)).times (Gen.mem (by simp))
      rwa [e1] at z
  · have px := h.her p dp hp x (by simp)
    have po := h.her p dp hp o (by simp [ho])
    simp at hy
    rcases hy with hy | hy | rfl | rfl | rfl
    · exact h.her p dp hp y (by simp [hy.1])
    · exact h.her p dp hp y (by simp [hy])
    · exact dp _ _ d1 (by omega) px
    · exact dp _ _ ⟨_, by rw [Nat.mul_comm]; exact e2.symm⟩ (by omega) po
    · exact dp _ _ ⟨_, by rw [Nat.mul_comm]; exact e1.symm⟩ (by omega) px
/-! the measure -/
def lg : List Nat → Nat
  | [] => 0
  | x :: r => x.log2 + lg r
theorem lg_append : ∀ a b : List Nat, lg (a ++ b) = lg a + lg b
  | [], b => by simp [lg]
  | x :: r, b => by rw [List.cons_append, lg, lg, lg_append r b]; omega
def mu (base wait : List Nat) : Nat := 3 * (lg base + lg wait) + wait.length
theorem log2_mul_le {a b : Nat} (ha : 0 < a) (hb : 0 < b) : a.log2 + b.log2 ≤ (a * b).log2 := by
  have h1 := Nat.log2_self_le (n := a) (by omega)
  have h2 := Nat.log2_self_le (n := b) (by omega)
  have hab : a * b ≠ 0 := Nat.ne_of_gt (Nat.mul_pos ha hb)
  rw [Nat.le_log2 hab, Nat.pow_add]
  exact Nat.mul_le_mul h1 h2
theorem log2_two {a : Nat} (h : 2 ≤ a) : 1 ≤ a.log2 := (Nat.le_log2 (by omega)).mpr h
theorem lg_filter : ∀ {l : List Nat}, o ∈ l → lg (l.filter fun b => decide (b ≠ o)) + o.log2 ≤ lg l
  | y :: r, h => by
    have aux : ∀ l : List Nat, lg (l.filter fun b => decide (b ≠ o)) ≤ lg l := by
      intro l
      induction l with
      | nil => simp [lg]
      | cons a r ih =>
        by_cases q : a = o
        · rw [List.filter_cons_of_neg (by simp [q]), lg]; omega
        · rw [List.filter_cons_of_pos (by simp [q]), lg, lg]; omega
    by_cases q : y = o
    · subst q
      rw [List.filter_cons_of_neg (by simp), lg]
      have := aux r
      omega
    · rw [List.filter_cons_of_pos (by simp [q]), lg, lg]
      have h' : o ∈ r := by simpa [Ne.symm q] using h
      have := lg_filter h'
      omega
theorem mu_drop : mu base wait < mu base (wait ++ [x]) := by
  unfold mu
  rw [lg_append, List.length_append]
  show _ < 3 * (lg base + (lg wait + lg [x])) + (wait.length + 1)
  omega
theorem mu_put : mu (base ++ [x]) wait < mu base (wait ++ [x]) := by
  unfold mu
  rw [lg_append, lg_append, List.length_append]
  show _ < 3 * (lg base + (lg wait + lg [x])) + (wait.length + 1)
  omega
theorem mu_split (hx : 1 ≤ x) (h2 : 2 ≤ o) (ho : o ∈ base) (hg : 1 < Nat.gcd x o) : mu (base.filter fun b => decide (b ≠ o)) (wait ++ [Nat.gcd x o, o / Nat.gcd x o, x / Nat.gcd x o]) < mu base (wait ++ [x]) := by
  have d1 := Nat.gcd_dvd_left x o
  have d2 := Nat.gcd_dvd_right x o
  have e1 : Nat.gcd x o * (x / Nat.gcd x o) = x := Nat.mul_div_cancel' d1
  have e2 : Nat.gcd x o * (o / Nat.gcd x o) = o := Nat.mul_div_cancel' d2
  have p1 := log2_mul_le (a := Nat.gcd x o) (b := x / Nat.gcd x o) (by omega) (Nat.div_pos (Nat.le_of_dvd (by omega) d1) (by omega))
  have p2 := log2_mul_le (a := Nat.gcd x o) (b := o / Nat.gcd x o) (by omega) (Nat.div_pos (Nat.le_of_dvd (by omega) d2) (by omega))
  rw [e1] at p1
  rw [e2] at p2
  have p3 := log2_two (a := Nat.gcd x o) (by omega)
  have p4 := lg_filter ho
  unfold mu
  rw [lg_append, lg_append, List.length_append, List.length_append]
  show 3 * (lg _ + (lg wait + ((Nat.gcd x o).log2 + ((o / Nat.gcd x o).log2 + ((x / Nat.gcd x o).log2 + 0))))) + (wait.length + 3) < 3 * (lg base + (lg wait + (x.log2 + 0))) + (wait.length + 1)
  omega
theorem len_le : ∀ {l : List Nat}, (∀ b ∈ l, 2 ≤ b) → l.length ≤ lg l
  | [], _ => by simp [lg]
  | y :: r, h => by
    have h1 := log2_two (h y (by simp))
    have h2 := len_le (l := r) fun b hb => h b (by simp [hb])
    rw [List.length_cons, lg]
    omega
/-- how many laps at most -/
theorem mu_le {s : Nat} : ∀ {l : List Nat}, (∀ n ∈ l, n < 2 ^ s) → 0 < s → mu [] l ≤ l.length * (3 * s + 1)
  | [], _, _ => by simp [mu, lg]
  | y :: r, h, hs => by
    have ih := mu_le (l := r) (fun n hn => h n (by simp [hn])) hs
    have hy : y.log2 ≤ s := by
      by_cases q : y = 0
      · subst q; simp
      · have := (Nat.log2_lt q).mpr (h y (by simp)); omega
    unfold mu at ih ⊢
    simp only [lg, List.length_cons] at ih ⊢
    rw [Nat.add_mul]
    omega
end Cb
/-! R2: how many numbers without common divisors there are below a bound. -/
namespace Cb
def prod : List Nat → Nat
  | [] => 1
  | x :: r => x * prod r
def fac : Nat → Nat
  | 0 => 1
  | n + 1 => (n + 1) * fac n
theorem prod_pos : ∀ {l : List Nat}, (∀ x ∈ l, 0 < x) → 0 < prod l
  | [], _ => by decide
  | x :: r, h => Nat.mul_pos (h x (by simp)) (prod_pos fun y hy => h y (by simp [hy]))
/-- of distinct positive numbers one is as great as their count -/
theorem big_of : ∀ (n : Nat) (l : List Nat), l.Nodup → (∀ x ∈ l, 1 ≤ x ∧ x ≤ n) → l.length ≤ n
  | 0, [], _, _ => Nat.le_refl _
  | 0, x :: r, _, h => by have := h x (by simp); omega
  | n + 1, l, hn, h => by
    have h1 : (l.filter fun y => decide (y ≠ n + 1)).length ≤ n := big_of n _ (hn.filter _) fun x hx => by
      obtain ⟨a, b⟩ := List.mem_filter.mp hx
      have := h x a
      have : x ≠ n + 1 := of_decide_eq_true b
      omega
    have h2 : ∀ l : List Nat, l.Nodup → l.length ≤ (l.filter fun y => decide (y ≠ n + 1)).length + 1 := by
      intro l hl
      induction l with
      | nil => simp
      | cons a r ih =>
        rw [List.nodup_cons] at hl
        by_cases q : a = n + 1
        · rw [List.filter_cons_of_neg (by simp [q]), List.length_cons]
          have : r.filter (fun y => decide (y ≠ n + 1)) = r := by
            rw [List.filter_eq_self]
            intro y hy
            exact decide_eq_true fun e => hl.1 (by rw [q, ← e]; exact hy)
          rw [this]
          omega
        · rw [List.filter_cons_of_pos (by simp [q]), List.length_cons, List.length_cons]
          have := ih hl.2
          omega
    have := h2 l hn
    omega
theorem prod_filter {m : Nat} : ∀ {l : List Nat}, m ∈ l → l.Nodup → prod l = m * prod (l.filter fun y => decide (y ≠ m))
  | a :: r, h, hn => by
    rw [List.nodup_cons] at hn
    by_cases q : a = m
    · have : r.filter (fun y => decide (y ≠ m)) = r := by
        rw [List.filter_eq_self]
        intro y hy
        exact decide_eq_true fun e => hn.1 (by rw [q, ← e]; exact hy)
      rw [List.filter_cons_of_neg (by simp [q]), this, prod, q]
    · rw [List.filter_cons_of_pos (by simp [q]), prod, prod]
      have h' : m ∈ r := by simpa [Ne.symm q] using h
      rw [prod_filter h' hn.2, ← Nat.mul_assoc, ← Nat.mul_assoc, Nat.mul_comm a m]
theorem len_filter {m : Nat} : ∀ {l : List Nat}, m ∈ l → l.Nodup → l.length = (l.filter fun y => decide (y ≠ m)).length + 1
  | a :: r, h, hn => by
    rw [List.nodup_cons] at hn
    by_cases q : a = m
    · have : r.filter (fun y => decide (y ≠ m)) = r := by
        rw [List.filter_eq_self]
        intro y hy
        exact decide_eq_true fun e => hn.1 (by rw [q, ← e]; exact hy)
      rw [List.filter_cons_of_neg (by simp [q]), this, List.length_cons]
    · rw [List.filter_cons_of_pos (by simp [q]), List.length_cons, List.length_cons]
      have h' : m ∈ r := by simpa [Ne.symm q] using h
      rw [← len_filter h' hn.2]
theorem fac_le : ∀ (n : Nat) (l : List Nat), l.length = n → l.Nodup → (∀ x ∈ l, 1 ≤ x) → fac n ≤ prod l
  | 0, l, h, _, _ => by
    have : l = [] := List.length_eq_zero_iff.mp h
    subst this; exact Nat.le_refl _
  | n + 1, l, h, hn, hp => by
    have ⟨m, hm, hge⟩ : ∃ m ∈ l, n + 1 ≤ m := by
      apply Classical.byContradiction
      intro hc
      have := big_of n l hn fun x hx => ⟨hp x hx, by
        apply Classical.byContradiction
        intro h2
        exact hc ⟨x, hx, by omega⟩⟩
      omega
    have e := len_filter hm hn
    have ih := fac_le n (l.filter fun y => decide (y ≠ m)) (by omega) (hn.filter _) fun x hx => hp x (List.mem_filter.mp hx).1
    rw [prod_filter hm hn]
    exact Nat.mul_le_mul hge ih
/-- numbers ≥ 2 without common divisors -/
structure Cop (l : List Nat) : Prop where
  two : ∀ b ∈ l, 2 ≤ b
  cop : l.Pairwise fun a b => Nat.gcd a b = 1
theorem Cop.nodup {l : List Nat} (h : Cop l) : l.Nodup := by
  have z : l.Pairwise fun a b => 2 ≤ a ∧ Nat.gcd a b = 1 := h.cop.imp_of_mem fun {a b} ha _ hab => ⟨h.two a ha, hab⟩
  exact z.imp fun {a b} ⟨h1, h2⟩ e => by subst e; rw [Nat.gcd_self] at h2; omega
theorem Cop.filter {l : List Nat} (h : Cop l) (p : Nat → Bool) : Cop (l.filter p) := ⟨fun b hb => h.two b (List.mem_filter.mp hb).1, h.cop.filter p⟩
theorem Cop.get {l : List Nat} (h : Cop l) {a b : Nat} (ha : a ∈ l) (hb : b ∈ l) (hne : a ≠ b) : Nat.gcd a b = 1 := by
  induction l with
  | nil => simp at ha
  | cons x r ih =>
    have hc := List.pairwise_cons.mp h.cop
    have hr : Cop r := ⟨fun b hb => h.two b (by simp [hb]), hc.2⟩
    simp at ha hb
    rcases ha with rfl | ha
    · rcases hb with rfl | hb
      · exact absurd rfl hne
      · exact hc.1 b hb
    · rcases hb with rfl | hb
      · rw [Nat.gcd_comm]; exact hc.1 a ha
      · exact ih hr ha hb
/-- at most one of them is divided by p -/
theorem Cop.one {l : List Nat} (h : Cop l) (p : Nat) (hp : 2 ≤ p) : l.length ≤ (l.filter fun b => decide (b % p ≠ 0)).length + 1 := by
  induction l with
  | nil => simp
  | cons x r ih =>
    have hc := List.pairwise_cons.mp h.cop
    have hr : Cop r := ⟨fun b hb => h.two b (by simp [hb]), hc.2⟩
    by_cases q : x % p = 0
    · have : r.filter (fun b => decide (b % p ≠ 0)) = r := by
        rw [List.filter_eq_self]
        intro y hy
        refine decide_eq_true fun e => ?_
        have h1 : p ∣ Nat.gcd x y := Nat.dvd_gcd (Nat.dvd_of_mod_eq_zero q) (Nat.dvd_of_mod_eq_zero e)
        rw [hc.1 y hy] at h1
        have := Nat.le_of_dvd (by decide) h1
        omega
      rw [List.filter_cons_of_neg (by simp [q]), this, List.length_cons]
      omega
    · rw [List.filter_cons_of_pos (by simp [q]), List.length_cons, List.length_cons]
      have := ih hr
      omega
theorem prod_le_filter (p : Nat → Bool) : ∀ {l : List Nat}, (∀ x ∈ l, 0 < x) → prod (l.filter p) ≤ prod l
  | [], _ => by simp [prod]
  | x :: r, h => by
    have ih := prod_le_filter p (l := r) fun y hy => h y (by simp [hy])
    have hx := h x (by simp)
    by_cases q : p x = true
    · rw [List.filter_cons_of_pos q, prod, prod]
      exact Nat.mul_le_mul_left _ ih
    · rw [List.filter_cons_of_neg q, prod]
      have := Nat.mul_le_mul hx ih
      omega
theorem prod_third : ∀ {l : List Nat}, (∀ x ∈ l, 3 * (x / 3) ≤ x) → 3 ^ l.length * prod (l.map fun x => x / 3) ≤ prod l
  | [], _ => by simp [prod]
  | x :: r, h => by
    have ih := prod_third (l := r) fun y hy => h y (by simp [hy])
    have hx := h x (by simp)
    rw [List.length_cons, List.map_cons, prod, prod, Nat.pow_succ]
    have := Nat.mul_le_mul hx ih
    have e : 3 ^ r.length * 3 * (x / 3 * prod (r.map fun x => x / 3)) = 3 * (x / 3) * (3 ^ r.length * prod (r.map fun x => x / 3)) := by
      simp only [Nat.mul_assoc, Nat.mul_left_comm, Nat.mul_comm]
    omega
theorem Cop.count {l : List Nat} (h : Cop l) {n : Nat} (hn : prod l < 3 ^ n * fac n) : l.length < n + 2 := by
  have c2 := h.filter fun b => decide (b % 2 ≠ 0)
  have c3 := c2.filter fun b => decide (b % 3 ≠ 0)
  have l2 := h.one 2 (by decide)
  have l3 := c2.one 3 (by decide)
  generalize hm : ((l.filter fun b => decide (b % 2 ≠ 0)).filter fun b => decide (b % 3 ≠ 0)) = m at c3 l3
  have hmod : ∀ x ∈ m, 2 ≤ x ∧ x % 2 ≠ 0 ∧ x % 3 ≠ 0 := fun x hx => by
    refine ⟨c3.two x hx, ?_⟩
    rw [← hm] at hx
    obtain ⟨a, b⟩ := List.mem_filter.mp hx
    obtain ⟨_, c⟩ := List.mem_filter.mp a
    exact ⟨of_decide_eq_true c, of_decide_eq_true b⟩
  have nd : (m.map fun x => x / 3).Nodup := by
    rw [List.nodup_iff_pairwise_ne, List.pairwise_map]
    refine c3.nodup.imp_of_mem fun {a b} ha hb hab e => hab ?_
    have := hmod a ha
    have := hmod b hb
    omega
  have f1 := fac_le m.length (m.map fun x => x / 3) (by simp) nd fun y hy => by
    obtain ⟨x, hx, rfl⟩ := List.mem_map.mp hy
    have := hmod x hx
    omega
  have f2 := prod_third (l := m) fun x _ => Nat.mul_div_le x 3
  have f3 : prod m ≤ prod l := by
    rw [← hm]
    exact Nat.le_trans (prod_le_filter _ fun x hx => by have := c2.two x hx; omega) (prod_le_filter _ fun x hx => by have := h.two x hx; omega)
  have f4 : 3 ^ m.length * fac m.length < 3 ^ n * fac n := Nat.lt_of_le_of_lt (Nat.le_trans (Nat.mul_le_mul_left _ f1) (Nat.le_trans f2 f3)) hn
  have mono : ∀ d, 3 ^ n * fac n ≤ 3 ^ (n + d) * fac (n + d) := by
    intro d
    induction d with
    | zero => exact Nat.le_refl _
    | succ d ih =>
      refine Nat.le_trans ih (Nat.mul_le_mul (Nat.pow_le_pow_right (by decide) (by omega)) ?_)
      show fac (n + d) ≤ (n + d + 1) * fac (n + d)
      have := Nat.mul_le_mul_right (fac (n + d)) (show 1 ≤ n + d + 1 by omega)
      omega
  have : m.length < n := by
    apply Classical.byContradiction
    intro hc
    have := mono (m.length - n)
    rw [show n + (m.length - n) = m.length by omega] at this
    omega
  omega
/-- numbers without common divisors whose prime factors divide L: not many -/
theorem Cop.prod_dvd : ∀ {l : List Nat} {L : Nat}, Cop l → (∀ x ∈ l, x ∣ L) → prod l ∣ L
  | [], L, _, _ => Nat.one_dvd L
  | x :: r, L, h, hd => by
    have hc := List.pairwise_cons.mp h.cop
    have hr : Cop r := ⟨fun b hb => h.two b (by simp [hb]), hc.2⟩
    have ih := Cop.prod_dvd hr fun y hy => hd y (by simp [hy])
    have co : ∀ l : List Nat, (∀ y ∈ l, Nat.gcd x y = 1) → Nat.Coprime x (prod l) := by
      intro l
      induction l with
      | nil => intro _; exact Nat.coprime_one_right x
      | cons a r ih => intro h; exact Nat.Coprime.mul_right (h a (by simp)) (ih fun y hy => h y (by simp [hy]))
    exact Nat.Coprime.mul_dvd_of_dvd_of_dvd (co r hc.1) (hd x (by simp)) ih
def Pw (L x : Nat) : Prop := ∃ n, x ∣ L ^ n
theorem Pw.dc (L : Nat) : Dc (Pw L) := fun a b h _ ⟨n, hn⟩ => ⟨n, Nat.dvd_trans h hn⟩
theorem Pw.mul {L a b : Nat} (ha : Pw L a) (hb : Pw L b) : Pw L (a * b) := by
  obtain ⟨n, hn⟩ := ha
  obtain ⟨m, hm⟩ := hb
  exact ⟨n + m, by rw [Nat.pow_add]; exact Nat.mul_dvd_mul hn hm⟩
theorem gcd_pow_one {x L : Nat} (h : Nat.gcd x L = 1) : ∀ n, Nat.gcd x (L ^ n) = 1
  | 0 => by rw [Nat.pow_zero]; exact Nat.gcd_one_right x
  | n + 1 => by rw [Nat.pow_succ]; exact Nat.Coprime.mul_right (gcd_pow_one h n) h
theorem Cop.few {l : List Nat} (h : Cop l) {L : Nat} (hL : 0 < L) (hp : ∀ x ∈ l, Pw L x) {n : Nat} (hn : L < 3 ^ n * fac n) : l.length < n + 2 := by
  have g2 : ∀ x ∈ l, 2 ≤ Nat.gcd x L := fun x hx => by
    have h1 : 0 < Nat.gcd x L := Nat.gcd_pos_of_pos_right _ hL
    obtain ⟨k, hk⟩ := hp x hx
    apply Classical.byContradiction
    intro hc
    have e : Nat.gcd x L = 1 := by omega
    have := gcd_pow_one e k
    rw [Nat.gcd_eq_left hk] at this
    have := h.two x hx
    omega
  have c : Cop (l.map fun x => Nat.gcd x L) := by
    refine ⟨fun b hb => ?_, ?_⟩
    · obtain ⟨x, hx, rfl⟩ := List.mem_map.mp hb
      exact g2 x hx
    · rw [List.pairwise_map]
      refine h.cop.imp fun {a b} hab => ?_
      exact Nat.Coprime.coprime_dvd_left (Nat.gcd_dvd_left a L) (Nat.Coprime.coprime_dvd_right (Nat.gcd_dvd_left b L) hab)
  have hd := c.prod_dvd (L := L) fun x hx => by
    obtain ⟨y, _, rfl⟩ := List.mem_map.mp hx
    exact Nat.gcd_dvd_right y L
  have := c.count (Nat.lt_of_le_of_lt (Nat.le_of_dvd hL hd) hn)
  simpa using this
end Cb
namespace Cb
/-- the part of a number that is no power of b -/
theorem Gen.nil {n : Nat} (h : Gen [] n) : n = 1 := by
  cases h with
  | one => rfl
  | mul h _ => simp at h
theorem Gen.split {b : Nat} {r : List Nat} {n : Nat} (h : Gen (b :: r) n) : ∃ k m, n = b ^ k * m ∧ Gen r m := by
  induction h with
  | one => exact ⟨0, 1, by simp, .one⟩
  | mul hx _ ih =>
    obtain ⟨k, m, rfl, hm⟩ := ih
    simp at hx
    rcases hx with rfl | hx
    · exact ⟨k + 1, m, by rw [Nat.pow_succ, ← Nat.mul_assoc, Nat.mul_comm _ (_ ^ k)], hm⟩
    · exact ⟨k, _, by rw [Nat.mul_left_comm], .mul hx hm⟩
theorem Gen.cop {b : Nat} {r : List Nat} {n : Nat} (h : Gen r n) (hc : ∀ x ∈ r, Nat.gcd b x = 1) : Nat.gcd b n = 1 := by
  induction h with
  | one => exact Nat.gcd_one_right b
  | mul hx _ ih => exact Nat.Coprime.mul_right (hc _ hx) ih
theorem Gen.pos {r : List Nat} {n : Nat} (h : Gen r n) (hp : ∀ x ∈ r, 2 ≤ x) : 0 < n := by
  induction h with
  | one => decide
  | mul hx _ ih => exact Nat.mul_pos (by have := hp _ hx; omega) ih
theorem pow_lt_of {b k m s : Nat} (hb : 2 ≤ b) (hm : 0 < m) (h : b ^ k * m < 2 ^ s) : k < s := by
  have h1 : 2 ^ k ≤ b ^ k := Nat.pow_le_pow_left hb k
  have h2 : 2 ^ k ≤ b ^ k * m := Nat.le_trans h1 (Nat.le_mul_of_pos_right _ hm)
  exact (Nat.pow_lt_pow_iff_right (by decide)).mp (Nat.lt_of_le_of_lt h2 h)
end Cb
/-! AS12: lists of natural numbers in the state; sorted ones. -/
namespace AS
open PySem PySem.Spec PyProof.Rows L2
def nE (l : List Nat) : List En := l.map fun o : Nat => .dat (.int (o : Int))
def zI (l : List Nat) : List Int := l.map fun o : Nat => (o : Int)
theorem nE_eq (l : List Nat) : nE l = ((zI l).map D.int).map En.dat := by simp [nE, zI]
theorem nE_eq2 (l : List Nat) : nE l = (l.map fun o : Nat => D.int (o : Int)).map En.dat := by simp [nE]
theorem nE_append (a b : List Nat) : nE (a ++ b) = nE a ++ nE b := by simp [nE]
theorem nE_length (a : List Nat) : (nE a).length = a.length := by simp [nE]
theorem zI_flat (l : List Nat) : ((zI l).map D.int).all (D.flat 9) = true := by simp [D.flat]
theorem zI_mem {x : Nat} {l : List Nat} : (x : Int) ∈ zI l ↔ x ∈ l := by
  unfold zI
  rw [List.mem_map]
  exact ⟨fun ⟨a, h, e⟩ => by have : a = x := by omega
                             subst this; exact h, fun h => ⟨x, h, rfl⟩⟩
theorem fdiv_nat (a b : Nat) : Int.fdiv (a : Int) (b : Int) = ((a / b : Nat) : Int) := by
  rw [Int.fdiv_eq_ediv_of_nonneg _ (by omega)]; rfl
theorem fmod_nat (a b : Nat) : Int.fmod (a : Int) (b : Int) = ((a % b : Nat) : Int) := by
  rw [Int.fmod_eq_emod_of_nonneg _ (by omega)]; rfl
theorem lstE_ptr {W : List Cn} {i : Nat} {l : List En} (h : W[i]? = some (.lst l)) : LstE W (.ptr i) = some l := by simp only [LstE, h]
theorem lstH_ptr {W : List Cn} {i : Nat} {l : List En} (h : W[i]? = some (.lst l)) : LstH W (.ptr i) = some l := by simp only [LstH, h]
theorem seqE_ptr {W : List Cn} {i : Nat} {l : List En} (h : W[i]? = some (.lst l)) : SeqE W (.ptr i) = some l := by simp only [SeqE, lstE_ptr h]
def srt (l : List Nat) : List Nat := l.mergeSort
theorem srt_perm (l : List Nat) : (srt l).Perm l := List.mergeSort_perm _ _
theorem srt_le (l : List Nat) : (srt l).Pairwise (· ≤ ·) := by
  have := List.pairwise_mergeSort (le := fun a b : Nat => decide (a ≤ b)) (fun a b c h1 h2 => by simp at *; omega) (fun a b => by simp; omega) l
  exact this.imp fun h => by simpa using h
theorem srt_uni (l : List Nat) (ns : List Int) (h1 : ns.Perm (zI l)) (h2 : ns.Pairwise (· ≤ ·)) : ns = zI (srt l) := by
  have p : ns.Perm (zI (srt l)) := h1.trans ((srt_perm l).symm.map (fun o : Nat => (o : Int)))
  have q : (zI (srt l)).Pairwise (· ≤ ·) := by
    unfold zI
    rw [List.pairwise_map]
    exact (srt_le l).imp fun h => by omega
  exact p.eq_of_pairwise (fun a b _ _ h3 h4 => by omega) h2 q
section
variable {K : PySem.W.Frag} {es : List En} {W W1 : List Cn} {ta : TE}
/-- x is None, x told by what holds of it -/
theorem et_isNP {b : Bool} (h : EVp K ta es W fun e w => w = W1 ∧ ∃ d, e = .dat d ∧ d.isN = b) : ET K (tTest (tOp (fun x y H Q => y = .non ∧ Q (.bl (decide (x = .non))) H) ta (tC .non))) es W b W1 := fun F Hb H σ as S Q k =>
  h F Hb H σ as S _ fun v Hb1 H1 as1 e w hp g s S1 r => by
    obtain ⟨rfl, d, rfl, hb⟩ := hp
    have r : Dt K Hb1 v d := r
    show V.non = V.non ∧ ∃ k, V.bl (decide (v = .non)) = .bl k ∧ Q k H1
    refine ⟨rfl, _, rfl, ?_⟩
    rw [r.isN, hb]
    exact k Hb1 H1 as1 g s S1
end
/-- what `refined` tells -/
structure Bs (ns ms : List Nat) : Prop where
  asc : ms.Pairwise (· < ·)
  two : ∀ b ∈ ms, 2 ≤ b
  cop : ms.Pairwise fun a b => Nat.gcd a b = 1
  gen : ∀ n ∈ ns, Cb.Gen ms n
  her : ∀ p : Nat → Prop, Cb.Dc p → (∀ n ∈ ns, p n) → ∀ x ∈ ms, p x
theorem Bs.of {ns base : List Nat} (h : Cb.Inv ns base []) : Bs ns (srt base) := by
  have pm := srt_perm base
  have c : Cb.Cop base := ⟨h.two, h.cop⟩
  refine ⟨?_, fun b hb => h.two b (pm.mem_iff.mp hb), (pm.pairwise_iff fun {x y} e => by rw [Nat.gcd_comm]; exact e).mpr h.cop, fun n hn => (h.gen n hn).trans fun x hx => .mem (pm.mem_iff.mpr (by simpa using hx)), fun p dp hp x hx => h.her p dp hp x (by simpa using pm.mem_iff.mp hx)⟩
  have nd : (srt base).Nodup := pm.nodup_iff.mpr c.nodup
  exact ((srt_le base).and nd).imp fun ⟨h1, h2⟩ => by omega
end AS
/-! X1: an exception of a callee that leaves a list comprehension (the library's blocks let none out). -/
namespace XC
open PySem PySem.Spec PyProof.Rows L2
/-- a callee of the block Y let an exception out that EB tells of -/
def Let (Y : Cx) (EB : XK) (u : Value) (s' : Shared) : Prop :=
  ∃ (pins : List (Addr × Obj)) (σ : L2.St) (H : Hp) (s : Shared), Inv Y pins σ H s ∧ L2.CX Y.prog Y.w Y.stack H s EB u s'
theorem Let.passes {Y : Cx} {EB : XK} : Passes (L2.CX Y.prog Y.w) (Y.wish (Let Y EB)) EB := fun pins σ H s _ _ I c => ⟨pins, σ, H, s, I.unwish, c⟩
/-- a frame is no address that lies higher -/
theorem frs_lt {X : Cx} {pins : List (Addr × Obj)} {σ : L2.St} {H : Hp} {s : Shared} (I : Inv X pins σ H s) {b : Addr} (hb : b ∈ frs X.stack) : b < s.heap.objs.size := by
  obtain ⟨_, o, ho, _⟩ := I.stack.mem hb
  exact Heap.lt_size ho
/-- it leaves the block: noted in the def's frame, the block's names let go, in the def's air -/
theorem block_fails {X : Cx} {pins : List (Addr × Obj)} {σ : L2.St} {H3 : Hp} {s3 : Shared} {scope : Scope} {ce : Env} {fp : List Addr} {EB : XK} {W : WX} {u : Value} {s' : Shared}
    (hst : X.stack = X.env :: X.outer) (hfr : X.env.frame = some X.env.locals) (tk : Takes X W) (hW : ∀ c d H, EB c d H → W c d σ H) (I3 : Inv X pins σ H3 s3) (hfp : ∀ b ∈ fp, FpOk X pins H3 b)
    (hC : ce.locals = s3.heap.objs.size) (hcf : ce.frame = X.env.frame) (hu : Let (X.blk s3 H3 scope ce fp) EB u s') :
    notedBy (model X.prog X.w) X.A ce (CompFails (model X.prog X.w) X.A X.xe ce) u s' := by
  obtain ⟨pins', σ', H1, s, I, a, B, H2, cls, d, rfl, fl, hok, ub, na, os, ag, hE⟩ := hu
  have below : ∀ b o, s3.heap.get? b = some o → b ≠ ce.locals := fun b o e => by
    rw [hC]; exact Nat.ne_of_lt (Heap.lt_size e)
  have Cfr : ce.locals ∉ frs X.stack := fun h => by
    have := frs_lt I3 h
    rw [hC] at this
    exact Nat.lt_irrefl _ this
  obtain ⟨m, ⟨oC, esC, epC, hoC, hdC, hsC⟩, _⟩ := I.loc
  have hoC : s.heap.get? ce.locals = some oC := hoC
  have nC1 : H1 ce.locals = none := I.free
  have nC2 : H2 ce.locals = none := ub.free _ _ hoC nC1
  have BC : B.get? ce.locals = some oC := ub.keep _ _ hoC nC1 Cfr
  have hoC' : s'.heap.get? ce.locals = some oC := fl.1 _ _ BC
  have nsC : s'.heap.Ns ce.locals m := ⟨oC, esC, epC, hoC', hdC, hsC⟩
  -- the ground without the block's names
  obtain ⟨B', hB', hBn⟩ := restrict B fun b => decide (b ≠ ce.locals)
  have toB : ∀ b o, B'.get? b = some o → B.get? b = some o ∧ b ≠ ce.locals := fun b o e => by
    by_cases q : b = ce.locals
    · rw [hBn b (by simp [q])] at e; cases e
    · rw [hB' b (by simp [q])] at e; exact ⟨e, q⟩
  have inB : ∀ b o, B.get? b = some o → b ≠ ce.locals → B'.get? b = some o := fun b o e q => by rw [hB' b (by simp [q])]; exact e
  have noB : ∀ b, B.get? b = none → B'.get? b = none := fun b e => by
    cases q : B'.get? b with
    | none => rfl
    | some o => rw [(toB b o q).1] at e; cases e
  -- the state that the def has behind it
  obtain ⟨G, g1, g2⟩ := restrict s'.heap fun b => decide (b ≠ ce.locals) && ((B.get? b).isSome || decide (b ∈ frs X.stack))
  have gB : ∀ b o, B.get? b = some o → b ≠ ce.locals → G.get? b = some o := fun b o e q => by
    rw [g1 b (by simp [e, q])]; exact fl.1 b o e
  have gF : ∀ b, b ∈ frs X.stack → G.get? b = s'.heap.get? b := fun b hb => g1 b (by simp [hb]; rintro rfl; exact Cfr hb)
  have gO : ∀ b o, G.get? b = some o → s'.heap.get? b = some o ∧ b ≠ ce.locals ∧ ((B.get? b).isSome = true ∨ b ∈ frs X.stack) := fun b o e => by
    cases q : (decide (b ≠ ce.locals) && ((B.get? b).isSome || decide (b ∈ frs X.stack))) with
    | false => rw [g2 b q] at e; cases e
    | true =>
      rw [g1 b q] at e
      rw [Bool.and_eq_true, Bool.or_eq_true] at q
      exact ⟨e, of_decide_eq_true q.1, q.2.imp id of_decide_eq_true⟩
  have U : Un (frs X.stack) fp H3 H1 s3.heap s.heap := I.base
  have J : Inv X pins σ H2 { s3 with heap := G, gens := s'.gens, toks := s'.toks, drawn := s'.drawn } := by
    refine I3.call' (ch := fp) rfl ⟨fun b o e n hb hx => ?_, fun b o e n hb hx => ?_, fun b o e n hx => ?_, fun b o e hx => ?_, fun b xs e => ub.tups _ _ (U.tups _ _ e), fun b o xs e => ub.frzs _ _ _ (U.frzs _ _ _ e), fun b ps e => ?_⟩ (fun b o q => ?_) ag fun b hb => ?_
    · exact gB b o (ub.keep b o (U.keep b o e n hb hx) (U.free b o e n hx) hb) (below b o e)
    · obtain ⟨sl, q⟩ := U.slot b o e n hb hx
      obtain ⟨sl', q'⟩ := ub.slot b _ q hb
      exact ⟨sl', by show G.get? b = _; rw [gF b hb]; exact q'⟩
    · obtain ⟨o', q⟩ := U.there b o e hx
      exact ub.free b o' q (U.free b o e n hx)
    · obtain ⟨o', q⟩ := U.there b o e hx
      by_cases hb : b ∈ frs X.stack
      · obtain ⟨sl, q'⟩ := ub.slot b _ q hb
        exact ⟨_, by show G.get? b = _; rw [gF b hb]; exact q'⟩
      · obtain ⟨o'', q'⟩ := ub.there b _ q hb
        exact ⟨o'', gB b _ q' (below b o e)⟩
    · obtain ⟨m1, e1⟩ := U.tbls b ps e
      obtain ⟨m2, e2⟩ := ub.tbls b _ e1
      exact ⟨m1 ++ m2, by rw [e2, Array.append_assoc]⟩
    · refine (hok b o q).stay (fun c v hc r => gB c v r ?_) (fun _ r => r) fun _ _ r => r
      rintro rfl
      rcases hc with hc | hc
      · rw [hc, q] at nC2; cases nC2
      · rw [hc] at nC2; cases nC2
    · obtain ⟨_, f1, f2, f3, f4, f5⟩ := hfp b hb
      exact ⟨f3, f1, f4, f5⟩
  obtain ⟨st, nB, ff, oe, vs, Tr, oT, ts, he, hz, hd, h1, hnT, hTe, hT, hdT, h3⟩ := fl
  rw [show (X.blk s3 H3 scope ce fp).stack = X.stack from rfl, hst] at ff
  have fl' : HandSPX.FlyingZ B' (X.env :: X.outer) a (Zc cls d) s'.heap := by
    refine ⟨fun b o e => st b o (toB b o e).1, noB _ nB, funFrames_none ff fun b hb => noB _ ?_, oe, vs, Tr, oT, ts, he, hz, hd, h1, noB _ hnT, hTe, hT, hdT, h3⟩
    obtain ⟨hn, _⟩ := ff.mem hb
    exact hn
  show wpAny _ _ (noteFrame (.ref a) ce) _ _ _
  rw [noteFrame_env _ hcf]
  refine HandSPX.looks_onZ Zc.steady (by rw [I3.ok.frames, hst]) hfr fl' fun h4 hh up4 => ?_
  obtain ⟨slC, hoC4⟩ := up4 _ _ hoC' fun vs q => by rw [hdC] at q; cases q
  refine ⟨m, ⟨_, esC, epC, hoC4, hdC, hsC⟩, fun h5 m5 ns5 sb5 => ?_⟩
  obtain ⟨k1, k2, k3, oe4, vs4, T4, oT4, ts4, he4, hz4, hd4, h14, hnT4, hTe4, hT4, hdT4, h34⟩ := hh
  have ne4 : ∀ {b : Addr} {o : Obj} {f : Array Value}, h4.get? b = some o → o.data = .fields f → b ≠ ce.locals := fun {b o f} e q z => by
    subst z
    rw [hoC4] at e; cases e
    rw [show ({ oC with slots := slC } : Obj).data = oC.data from rfl, hdC] at q; cases q
  have he5 : h5.get? a = some oe4 := (sb5.2 a (ne4 he4 hd4)).trans he4
  have hT5 : h5.get? T4 = some oT4 := (sb5.2 T4 (ne4 hT4 hdT4)).trans hT4
  have hh5 : HandSPX.HeldZ B' (X.env :: X.outer) a (Zc cls d) X.env.locals h5 :=
    ⟨fun b o e => (sb5.2 b (toB b o e).2).trans (k1 b o e), k2, Heap.FunFrames.sameBut sb5 ns5 k3, oe4, vs4, T4, oT4, ts4, he5, hz4, hd4, h14, hnT4, hTe4, hT5, hdT4, h34⟩
  unfold PySem.passOn
  refine wpAny_bind (wpAny_field he5 hd4 h14 ?_)
  rw [if_neg (by simp), hcf, hfr]
  refine wpAny_bind (HandSPX.setFlight_onZ hh5 fun h6 hh6 up6 => wpAny_throw (tk _ _ ?_))
  refine ⟨a, B', _, pins, σ, H2, cls, d, rfl, J, fun b o e hb => ?_, fun b o e nf => ?_, .inr (.inr ?_), na, os.trans I.os, ag, hW _ _ _ hE⟩
  · obtain ⟨e', hq, hx⟩ := gO b o e
    rcases hx with hx | hx
    · obtain ⟨o', q⟩ := Option.isSome_iff_exists.mp hx
      have z := st b o' q
      rw [e'] at z; cases z
      exact inB b o q hq
    · exact absurd hx hb
  · obtain ⟨e', hq, _⟩ := gO b o e
    obtain ⟨sl, e4⟩ := up4 b o e' nf
    obtain ⟨sl', e6⟩ := up6 b { o with slots := sl } ((sb5.2 b hq).trans e4) nf
    exact ⟨sl', e6⟩
  · rw [hst]; exact hh6
/-- as the library's rule, but what the element's callee lets out goes on -/
theorem lcx_core {X : Cx} {pins : List (Addr × Obj)} {s : Shared} {σ : L2.St} {H : Hp} {Q : VK} {elt tg iter : Expr} {ifs : List Expr} {scope : Scope} {own : List (Str × Nat)} {pos pos' : Pos} {wi : TI} {g : TG} {tt : TT} {te : TE} {use : Option (Value → Sem Unit)} {Qf : Value → Shared → Prop} {EB : XK} {W : WX}
    (hst : X.stack = X.env :: X.outer) (hfr : X.env.frame = some X.env.locals) (tk : Takes X W) (hW : ∀ c d H, EB c d H → W c d σ H)
    (hc : X.calm = true) (hN : X.N.Nodup) (I : Inv X pins σ H s) (hi : PI X tg iter wi) (ok : BlkOk X.N X.env.scope scope own)
    (hg : ∀ (s : Shared) (H : Hp) (C : Addr) (cl : List (Str × Addr)) (fp : List Addr), PG (X.blk s H scope (compEnvC scope cl C X.env) fp) tg g)
    (ht : ∀ (s : Shared) (H : Hp) (C : Addr) (cl : List (Str × Addr)) (fp : List Addr), PTs (X.blk s H scope (compEnvC scope cl C X.env) fp) ifs tt)
    (he : ∀ (s : Shared) (H : Hp) (C : Addr) (cl : List (Str × Addr)) (fp : List Addr), PE ((X.blk s H scope (compEnvC scope cl C X.env) fp).wish (Let (X.blk s H scope (compEnvC scope cl C X.env) fp) EB)) elt te)
    (hs : ∀ x, foldedSetIterable iter X.env x = pure x) (h : tLc wi g tt te (own.map (·.2)) σ H Q)
    (end_ok : ∀ D ce s' m H', Inv X pins σ H' s' → Q (.ref D) H' → s'.heap.Ns ce.locals m → FpOk X pins H' ce.locals → compEnds (model X.prog X.w) X.A X.xe use Qf (.ref D) ce (.ok .next) s') :
    wpAny (model X.prog X.w) X.A (comprehension (.ListComp elt [⟨tg, iter, ifs, 0⟩] scope pos) scope X.env pos' (newList []) false (eval iter X.env) use) Qf X.xe s := by
  have clo : ∀ y ∈ scope.names, y.2 = .free → ∃ c, X.env.cells.lookup y.1 = some c := fun y hy q => I.ok.has _ (ok.free y hy q)
  have nm : ∀ y ∈ scope.names, y.2 = .local → scope.names.lookup y.1 = some .local := fun y hy q => (ok.uniq y hy).trans (by rw [q])
  refine comprehension_at (use := use) rfl hs (closure_ok clo) ok.kind nm (thn (hi.run pins s σ H _ I h) fun _ _ came => thn came fun _ s2 came2 => ?_)
  obtain ⟨it, fp, tn, J, H2, rfl, I2, T, st2, f2, body⟩ := came2
  refine wpAny_newObj_type (newEnv_comp ?_) (Nat.zero_le _)
  obtain ⟨D, eD⟩ : ∃ D, s2.heap.objs.size = D := ⟨_, rfl⟩
  rw [eD]
  obtain ⟨Wt, ⟨m0, w0⟩, turn⟩ := body D (I2.hok.fresh (Nat.le_of_eq eD))
  obtain ⟨s3, e3⟩ : ∃ s3 : Shared, s3 = { s2 with heap := s2.heap.push { cls := .type "list", data := .seq ([] : List Value).toArray } } := ⟨_, rfl⟩
  have old3 : ∀ b o, s2.heap.get? b = some o → s3.heap.get? b = some o := fun b o q => by
    rw [e3]; exact Heap.get?_push_of_some _ q
  have I3 : Inv X pins σ (upd H2 D (.lst [])) s3 := by
    rw [e3]
    exact I2.laid (t' := s2.toks) (fun b o q => Heap.get?_push_of_some _ q) (Nat.le_of_eq eD) ⟨Nat.zero_le _, [], 0, .nil, by rw [← eD]; exact Heap.get?_push_size _ rfl⟩
  have f3 : ∀ b ∈ fp, FpOk X pins (upd H2 D (.lst [])) b ∧ b < s3.heap.objs.size := fun b hb => by
    obtain ⟨o, q, _⟩ := T.obj _ _ st2 b hb
    have lt := Heap.lt_size q
    exact ⟨⟨(upd_ne (by rw [← eD]; exact Nat.ne_of_lt lt)).trans (f2 b hb).1, (f2 b hb).2⟩, Heap.lt_size (old3 b o q)⟩
  have st3 : tn 0 s3.heap := T.keep _ _ _ st2 fun b _ => old3 b
  rw [← e3]
  obtain ⟨cl, ecl⟩ : ∃ cl, cellsFrom (s3.heap.objs.size + 1) scope.names (cloFrom X.env.cells scope.names []) = cl := ⟨_, rfl⟩
  have I4 := block_start I3 ok hN f3
  have nfp : ∀ b ∈ fp, (upd H2 D (.lst [])) b = none := fun b hb => (f3 b hb).1.1
  show codeAny _ _ (.compStart (.ListComp elt [⟨tg, iter, ifs, 0⟩] scope pos) 0 (.ref it) (.ref D) (compEnvC scope (cellsFrom (s3.heap.objs.size + 1) scope.names (cloFrom X.env.cells scope.names [])) s3.heap.objs.size X.env))
    (compEnds (model X.prog X.w) X.A X.xe use Qf (.ref D) (compEnvC scope (cellsFrom (s3.heap.objs.size + 1) scope.names (cloFrom X.env.cells scope.names [])) s3.heap.objs.size X.env)) { s3 with heap := pushCells (s3.heap.push { cls := .type "dict", data := .dict #[] }) scope.names }
  rw [ecl] at I4 ⊢
  have pg := hg s3 (upd H2 D (.lst [])) s3.heap.objs.size cl fp
  have pt := ht s3 (upd H2 D (.lst [])) s3.heap.objs.size cl fp
  have pe := he s3 (upd H2 D (.lst [])) s3.heap.objs.size cl fp
  obtain ⟨H3, eH⟩ : ∃ H3, upd H2 D (.lst []) = H3 := ⟨_, rfl⟩
  rw [eH] at I3 I4 pg pt pe w0 nfp f3
  obtain ⟨ce, ece⟩ : ∃ ce, compEnvC scope cl s3.heap.objs.size X.env = ce := ⟨_, rfl⟩
  have ceC : ce.locals = s3.heap.objs.size := by rw [← ece]; rfl
  have ceF : ce.frame = X.env.frame := by rw [← ece]; rfl
  rw [ece] at I4 pg pt pe ⊢
  obtain ⟨s4, e4⟩ : ∃ s4 : Shared, s4 = { s3 with heap := pushCells (s3.heap.push { cls := .type "dict", data := .dict #[] }) scope.names } := ⟨_, rfl⟩
  rw [← e4] at I4 ⊢
  have st4 : tn 0 s4.heap := T.keep _ _ _ st3 fun b _ o q => by rw [e4]; exact pushCells_keeps _ _ _ _ (Heap.get?_push_of_some _ q)
  have fpY : ∀ {σ' : L2.St} {H' : Hp} {s' : Shared}, Inv (X.blk s3 H3 scope ce fp) [] σ' H' s' → (∀ b ∈ fp, H' b = none) → ∀ b ∈ fp, FpOk (X.blk s3 H3 scope ce fp) [] H' b := fun I' nn b hb =>
    ⟨nn b hb, (I'.ok.exf b hb).1, I'.ok.exfs b hb, Or.inl hb, (I'.ok.exf b hb).2, fun p hp => by cases hp⟩
  have gone : ∀ {u : Value} {s' : Shared}, Let (X.blk s3 H3 scope ce fp) EB u s' → notedBy (model X.prog X.w) X.A ce (fun e s'' => compEnds (model X.prog X.w) X.A X.xe use Qf (.ref D) ce (.error e) s'') u s' := fun {u s'} hu => by
    have z := block_fails hst hfr tk hW I3 (fun b hb => (f3 b hb).1) ceC ceF hu
    cases use <;> exact wpAny_mono z (fun _ _ q => q) fun _ _ q => (by
      first
        | exact q
        | skip)
  have loop : codeAny (model X.prog X.w) X.A (.compLoop (.ListComp elt [⟨tg, iter, ifs, 0⟩] scope pos) 0 (.ref it) (.ref D) ce) (compEnds (model X.prog X.w) X.A X.xe use Qf (.ref D) ce) s4 := by
    refine compLoop_any (fun n s' => ∃ i H', Inv (X.blk s3 H3 scope ce fp) [] (wipe σ (own.map (·.2))) H' s' ∧ tn i s'.heap ∧ (∀ b ∈ fp, H' b = none) ∧ Wt i n H') ?_ m0 ⟨0, H3, I4, st4, nfp, w0⟩
    rintro n s5 ⟨i, H5, I5, st5, n5, w5⟩
    rcases turn i n H5 w5 with ⟨halt, wish⟩ | ⟨going, Nx, less, step⟩
    · refine thnF (T.done (X.blk s3 H3 scope ce fp) rfl rfl rfl hc i [] s5 _ H5 (fun _ _ => False) I5 (fpY I5 n5) st5 halt) ?_
      rintro _ s6 ⟨rfl, I6⟩
      have J : Inv X pins σ H5 s6 := I3.call' (ch := fp) I6.os I6.base I6.hok I6.bare fun b hb => by
        obtain ⟨_, q1, q2, q3, q4, q5⟩ := (f3 b hb).1
        exact ⟨q3, q1, q4, q5⟩
      obtain ⟨m, ns, _⟩ := I6.loc
      refine end_ok D ce s6 m H5 J wish ns (I3.fpOk (Nat.le_of_eq ceC.symm) ?_)
      exact I6.free
    · refine thnF (T.item (X.blk s3 H3 scope ce fp) rfl rfl rfl hc i [] s5 _ H5 (fun _ _ => False) I5 (fpY I5 n5) st5 going) ?_
      rintro _ s6 ⟨u, rfl, handed⟩
      refine thnF handed ?_
      rintro _ s7 ⟨x, H7, I7, r7, y7, st7, n7⟩
      refine thnF (pg.run _ s7 _ H7 x u _ (I7.pinned (fpY I7 n7) (T.obj _ _ st7)) r7 (step x H7 y7)) ?_
      rintro _ s8 ⟨σ8, H8, I8, same, tested⟩
      refine thnF (pt.run _ s8 σ8 H8 _ I8 tested) ?_
      rintro b s9 ⟨H9, I9, given⟩
      have on : ∀ {s' : Shared} {H' : Hp}, Inv (X.blk s3 H3 scope ce fp) ([] ++ pinsAt fp s7.heap) σ8 H' s' → Nx H' → ∃ m, m < n ∧ ∃ i H', Inv (X.blk s3 H3 scope ce fp) [] (wipe σ (own.map (·.2))) H' s' ∧ tn i s'.heap ∧ (∀ b ∈ fp, H' b = none) ∧ Wt i m H' := by
        intro s' H' I' nx
        obtain ⟨m', lt, w'⟩ := less H' nx
        have kept : ∀ b ∈ fp, ∀ o, s7.heap.get? b = some o → s'.heap.get? b = some o ∧ H' b = none := fun b hb o q =>
          ⟨(I'.pin (b, o) (List.mem_append_right _ (List.mem_append_right _ (mem_pinsAt hb q)))).1, (I'.pin (b, o) (List.mem_append_right _ (List.mem_append_right _ (mem_pinsAt hb q)))).2.1⟩
        refine ⟨m', lt, i + 1, H', (I'.unpinned (pins := [])).weak (by rw [← same, wipe_length]) (fun j v q => ?_), T.keep _ _ _ st7 fun b hb o q => (kept b hb o q).1, fun b hb => ?_, w'⟩
        · rw [← same] at q
          exact (wipe_some q).1
        · obtain ⟨o, q, _⟩ := T.obj _ _ st7 b hb
          exact (kept b hb o q).2
      cases b with
      | false => exact on I9 given
      | true =>
        refine wpAny_mono (pe.run _ s9 σ8 H9 _ (I9.wish _) given) ?_ fun _ _ q => gone q
        rintro z s10 ⟨yv, H10, I10, r10, acc, at10, small, nx⟩
        exact app_ok (X := X.blk s3 H3 scope ce fp) I10.unwish at10 small r10 fun s11 I11 => on I11 nx
  exact codeAny_compStart_list loop (T.self X.A 0 _ _ _ st4 loop)
/-- as a value -/
theorem pe_lcX {X : Cx} {elt tg iter : Expr} {ifs : List Expr} {scope : Scope} {own : List (Str × Nat)} {pos : Pos} {wi : TI} {g : TG} {tt : TT} {te : TE} {EB : XK} {W : WX}
    (hst : X.stack = X.env :: X.outer) (hfr : X.env.frame = some X.env.locals) (tk : Takes X W) (hW : ∀ c d σ H, EB c d H → W c d σ H)
    (hc : X.calm = true) (hN : X.N.Nodup) (hi : PI X tg iter wi) (ok : BlkOk X.N X.env.scope scope own)
    (hg : ∀ (s : Shared) (H : Hp) (C : Addr) (cl : List (Str × Addr)) (fp : List Addr), PG (X.blk s H scope (compEnvC scope cl C X.env) fp) tg g)
    (ht : ∀ (s : Shared) (H : Hp) (C : Addr) (cl : List (Str × Addr)) (fp : List Addr), PTs (X.blk s H scope (compEnvC scope cl C X.env) fp) ifs tt)
    (he : ∀ (s : Shared) (H : Hp) (C : Addr) (cl : List (Str × Addr)) (fp : List Addr), PE ((X.blk s H scope (compEnvC scope cl C X.env) fp).wish (Let (X.blk s H scope (compEnvC scope cl C X.env) fp) EB)) elt te)
    (hs : ∀ x, foldedSetIterable iter X.env x = pure x := by intro _; rfl) : PE X (.ListComp elt [⟨tg, iter, ifs, 0⟩] scope pos) (tLc wi g tt te (own.map (·.2))) := by
  refine ⟨fun pins s σ H Q I h => ?_⟩
  rw [eval_ListComp]
  refine lcx_core hst hfr tk (fun c d H => hW c d σ H) hc hN I hi ok hg ht he hs h ?_
  intro D ce s' m H' I' q ns far
  refine ⟨m, ns, fun h2 sb => ⟨.ref D, H', ?_, rfl, q⟩⟩
  exact I'.turned (t' := s'.toks) (fun b o ne e => (sb.2 b ne).trans e) far.1 far.2.1 far.2.2.2.1 far.2.2.2.2.1 far.2.2.2.2.2
/-- name = [..] on one line, the name a local -/
theorem ps_setLcX {X : Cx} {i : Nat} {y : Str} {py : Pos} {elt tg iter : Expr} {ifs : List Expr} {scope : Scope} {own : List (Str × Nat)} {pos spos : Pos} {wi : TI} {g : TG} {tt : TT} {te : TE} {EB : XK} {W : WX}
    (hst : X.stack = X.env :: X.outer) (hfr : X.env.frame = some X.env.locals) (tk : Takes X W) (hW : ∀ c d σ H, EB c d H → W c d σ H)
    (hc : X.calm = true) (hN : X.N.Nodup) (hy : X.N[i]? = some y) (hyl : X.env.scope.names.lookup y = some .local)
    (hsw : swapsWith (.ListComp elt [⟨tg, iter, ifs, 0⟩] scope pos) (some (.Name y py)) spos.line X.env = pure true) (hi : PI X tg iter wi) (ok : BlkOk X.N X.env.scope scope own)
    (hg : ∀ (s : Shared) (H : Hp) (C : Addr) (cl : List (Str × Addr)) (fp : List Addr), PG (X.blk s H scope (compEnvC scope cl C X.env) fp) tg g)
    (ht : ∀ (s : Shared) (H : Hp) (C : Addr) (cl : List (Str × Addr)) (fp : List Addr), PTs (X.blk s H scope (compEnvC scope cl C X.env) fp) ifs tt)
    (he : ∀ (s : Shared) (H : Hp) (C : Addr) (cl : List (Str × Addr)) (fp : List Addr), PE ((X.blk s H scope (compEnvC scope cl C X.env) fp).wish (Let (X.blk s H scope (compEnvC scope cl C X.env) fp) EB)) elt te)
    (hs : ∀ x, foldedSetIterable iter X.env x = pure x := by intro _; rfl) : PS X (.Assign [.Name y py] (.ListComp elt [⟨tg, iter, ifs, 0⟩] scope pos) spos) (tAsg (tLc wi g tt te (own.map (·.2))) (gName i)) := by
  refine ⟨fun pins s σ H D I h => ?_⟩
  rw [exec_Assign_Name_used _ _ _ _ hsw]
  refine wpAny_bind (wpAny_standAt (wpAny_bind (wpAny_bind ?_)))
  have h : tLc wi g tt te (own.map (·.2)) σ H (fun x H1 => gName i x σ H1 D.nx) := h
  refine wpAny_mono (lcx_core (use := some (assign (.Name y py) X.env)) (Qf := fun _ s' => SP X pins D .next s') hst hfr tk (fun c d H => hW c d σ H) hc hN I hi ok hg ht he hs h ?_) (fun _ s' q => wpAny_pure (wpAny_pure q)) fun _ _ q => q
  intro L ce s' m H' I' q ns far
  show wpAny _ _ (assign (.Name y py) X.env (.ref L)) _ _ _
  refine wpAny_assign_Name (store_ok2 (v := V.ref L) I' hN hy (.inl hyl) rfl ?_ (.inr hyl))
  rintro s2 I2 ⟨a, sb, ha⟩
  have ne : ce.locals ≠ a := by
    rcases ha with rfl | z
    · exact far.2.1
    · exact fun e => far.2.2.2.2.1 y a z e.symm
  exact ⟨m, ns.sameBut sb ne, fun h3 sb3 => ⟨_, H', I2.turned (t' := s2.toks) (fun b o nb e => (sb3.2 b nb).trans e) far.1 far.2.1 far.2.2.2.1 far.2.2.2.2.1 far.2.2.2.2.2, q⟩⟩
end XC
/-! X2: defs whose bodies ask for repr of lists and tuples: nothing that guards against repr within repr may be under way. -/
namespace XC
open PySem PySem.Spec PyProof.Rows L2
/-- as FnOk, but only where no repr is under way -/
structure FnG (P : Program) (w : World) (K : PySem.W.Frag) (mg : Str → Option Value) (base : Heap) (CX : CXT) (k : Nat) (f : Addr) (fd : FuncData) (ps : List Str) (sp : Sp) : Prop where
  len : ∀ vs H Q E, sp vs H Q E → vs.length = ps.length
  run : ∀ (A : Around) (outer : List Env) (s : Shared) (H : Hp) (args : Args) (us : List Value) (vs : List V) (Q : VK) (E : XK), A.guards = some [] → Room k A → Env0 P w K mg base A outer s H → BindsTo s fd args (ps.zip us) → Vals vs us → sp vs H Q E →
    codeAny (model P w) A (.call (.ref f) args) (CR CX outer P w H s Q E) s
theorem fn_ofG {CX : CXT} {P : Program} {w : World} {K : PySem.W.Frag} {mg : Str → Option Value} {base : Heap} {k : Nat} {f : Addr} {x qual : Str} {st : Stmt} {fd : FuncData} {N ps : List Str} {sp : Sp} (T : Fun K x qual st f fd) (S : FnScope N ps (defScope st))
    (len : ∀ vs H Q E, sp vs H Q E → vs.length = ps.length)
    (hbody : ∀ (cdv : Value) (A : Around) (outer : List Env) (s : Shared) (H : Hp) (vs : List V) (Q : VK) (E : XK), A.guards = some [] → Room k (A.deeper (envOfC qual (defScope st) s.heap.objs.size f cdv)) → sp vs H Q E →
      ∃ t, PSs (cxOf CX P w K mg base N qual (defScope st) f cdv A outer s H E) (defBody st) t ∧ t { nx := fun _ H' => Q .non H', rt := Q } (L2.start N vs) H) : FnG P w K mg base CX (k + 1) f fd ps sp := by
  obtain ⟨oc, od, kV, doc, pm, an, cdv, ct, osl, rfl, lk, hcd⟩ := T.ex
  refine ⟨len, ?_⟩
  intro A outer s H args us vs Q E hg hr e0 hb r hsp
  have stay : ∀ b o, base.get? b = some o → s.heap.get? b = some o := fun b o e => (e0.bs b o e).1
  have lim := e0.mod.nolimit.keeps stay
  have at_ := e0.mod.kin.keeps stay
  have params : ∀ y ∈ ps.zip us, (defScope st).names.lookup y.1 = some .local ∨ ((defScope st).names.lookup y.1 = some .cell ∧ ((cellsFrom (s.heap.objs.size + 1) (defScope st).names []).lookup y.1).isSome = true) := by
    rintro ⟨n, v⟩ hy
    rcases S.par n (List.of_mem_zip hy).1 with q | q
    · exact Or.inl q
    · exact Or.inr ⟨q, PySem.W.cellsFrom_some _ _ _ (Or.inl q)⟩
  refine codeAny_call_function hr.depth (at_ _ _ lk) rfl S.co S.gen rfl (PySem.W.codeRec_of at_ hcd) (hb _ _ _ _ (wpAny_newFunctionEnv_cells S.kind params ?_))
  rintro env rfl s1 x
  refine ⟨lim.keeps x.toInCall.keep, codeAny_func ?_⟩
  obtain ⟨t, ht, hq⟩ := hbody cdv A outer s H vs Q E hg (hr.deeper _) hsp
  refine wpAny_mono (ht.run [] s1 (L2.start N vs) H _ (inv_start S hr.hd e0 (len _ _ _ _ hsp) r x) hq) ?_ fun _ _ q => q
  intro fl s' hs
  cases fl with
  | next => obtain ⟨_, H', J, q⟩ := hs; exact ⟨V.non, H', J.os, J.bare, J.base, J.hok, rfl, q⟩
  | ret u => obtain ⟨v, _, H', J, rv, q⟩ := hs; exact ⟨v, H', J.os, J.bare, J.base, J.hok, rv, q⟩
  | brk => obtain ⟨_, _, _, q⟩ := hs; exact q.elim
  | cont => obtain ⟨_, _, _, q⟩ := hs; exact q.elim
theorem pe_callG {X : Cx} {CX : CXT} {k : Nat} {f : Addr} {fd : FuncData} {ps : List Str} {sp : Sp} {E : XK} {x : Str} {p pos : Pos} {e : Expr} {es : List Expr} {t : TA} (F : FnG X.prog X.w X.K X.mg X.base CX k f fd ps sp) (hgd : X.A.guards = some []) (hr : Room k X.A) (hg : Gl X x)
    (hm : X.mg x = some (.ref f)) (hk : PySem.W.keepIn X.K (.ref f) = true) (hb : Binds X.K fd ps []) (hx : Passes CX X E)
    (ha : PA X (e :: es) t) (hdb : (x == ("__debug__" : Str)) = false := by decide) (he : starEach (e :: es) X.env = (false, eval e X.env) :: starEach es X.env := by rfl) (hpl : (backTo pos (starEach es X.env)).any (·.1) = false := by rfl) :
    PE X (.Call (.Name x p) (e :: es) [] pos) (tCall sp [] E t) := by
  refine ⟨fun pins s σ H Q I h => wpAny_Call_Name_kw (ld_glob I hg hm ?_ hdb)⟩
  refine PySem.W.callWith_K (h₀ := X.base) I.ok.mod.kin hk (thn (ha.run pos pins s σ H _ I h) ?_) he hpl
  rintro us s1 ⟨vs, H1, I1, r, q⟩
  refine ⟨I1.kIn, ?_⟩
  have q : sp (vs ++ []) H1 Q E := q
  rw [List.append_nil] at q
  have hl : (us ++ []).length = ps.length := by rw [List.append_nil, ← r.length]; exact F.len _ _ _ _ q
  have bind := hb s1 us I1.kIn hl
  rw [List.append_nil] at bind
  refine wpAny_call (codeAny_mono (F.run X.A X.stack s1 H1 ⟨us, []⟩ us vs Q E hgd hr I1.env0 bind r q) ?_)
  intro r' s' hq
  match r', hq with
  | .error er, hq => exact hx pins σ H1 s1 er s' I1 hq
  | .ok (.ret u), hq => exact I1.after hq
  | .ok .next, hq => exact hq.elim
  | .ok .brk, hq => exact hq.elim
  | .ok .cont, hq => exact hq.elim
/-- repr of data -/
def rRepr (K : PySem.W.Frag) : List V → Hp → VK → Prop := fun xs H Q => ∃ (v : V) (d : PyData), xs = [v] ∧ Dp K H v d ∧ d.showable = true ∧ d.hasDict = false ∧ d.depth ≤ 9 ∧ d.shown.length ≤ sizeLine ∧ Q (.str d.shown) H
theorem call_repr {X : Cx} (hgd : X.A.guards = some []) (hu : X.A.units + 64 < cLine) : CallR X (.builtin "repr") (rRepr X.K) := by
  rintro pins s σ H _ us Q I r ⟨v, d, rfl, hd, h1, h2, h3, h4, q⟩
  cases r with
  | @cons _ u _ _ ru rn =>
    cases rn
    obtain ⟨as, hr⟩ := Dp.reads I d v u hd ru
    have ends : ∀ t : Tok, EP X pins σ Q (.str d.shown t) { s with toks := s.toks + 1 } := fun t => ⟨.str d.shown, H, I.tok _, ⟨_, rfl⟩, q⟩
    cases hd with
    | non => cases ru; exact PySem.P.repr_of_none (ends _)
    | bl b => cases ru; exact PySem.P.repr_of_bool (ends _)
    | int i =>
      obtain ⟨t, rfl⟩ := ru
      exact PySem.P.repr_of_int (by simpa [PyData.showable] using h1) (ends _)
    | str y =>
      obtain ⟨t, rfl⟩ := ru
      exact PySem.P.repr_of_str (ends _) h4
    | @lst a xs ds _ _ =>
      cases ru
      refine repr_of_reads' hr h1 (PyData.noDict_hsm h2) hgd (by omega) (fun _ _ e => e) (fun h' t tk k => ⟨.str _, H, I.kept k, ⟨_, rfl⟩, q⟩) h4
    | @tup a xs ds _ _ =>
      cases ru
      refine repr_of_reads' hr h1 (PyData.noDict_hsm h2) hgd (by omega) (fun _ _ e => e) (fun h' t tk k => ⟨.str _, H, I.kept k, ⟨_, rfl⟩, q⟩) h4
/-- the law is called where no repr is under way -/
theorem law_callG {P : Program} {w : World} {K : PySem.W.Frag} {mg mb : Str → Option Value} {CX : CXT} {k : Nat} {fa a : Addr} {fd : FuncData} {x : Str} {sp : Sp} {s1 : Shared} {vs : List Value} {ns : List Int}
    (KX : K.In s1.heap) (hns : s1.heap.Ns mainGlobals mg) (hb : s1.heap.Ns builtinsNs mb) (hbb : ∀ x : Str, x ≠ "__name__" → mb x = bootBuiltins x) (hlim : s1.heap.NoLimit) (hg : s1.gens = #[])
    (ha : s1.heap.get? a = some { cls := .type "list", data := .seq vs.toArray }) (hi : IntsAre vs ns) (hl : ns.length ≤ sizeLine) (hr : Room k callerA)
    (F : ∀ base : Heap, K.In base → base.Ns mainGlobals mg → FnG P w K mg base CX k fa fd [x] sp) (hbind : ∀ (s : Shared) (u : Value), BindsTo s fd ⟨[u], []⟩ [(x, u)])
    (hsp : ∀ H : Hp, Only H → SqL K H a (ns.map V.int) → sp [.ref a] H (fun v _ => v = .bl true) fun _ _ _ => False)
    (hCX : ∀ H e s', CX [] H s1 (fun _ _ _ => False) e s' → False) :
    codeAny (model P w) callerA (.call (.ref fa) ⟨[.ref a], []⟩) (fun r s' => r = .ok (.ret (.bool true)) ∧ OldK s1.heap s'.heap ∧ s'.os = s1.os ∧ AllBare s'.gens) s1 := by
  have rv := vals_ints hi
  have run : ∀ H : Hp, Only H → SqL K H a (ns.map V.int) → HOk P w H s1.heap → (∀ b u, H b = some u → b = a ∧ K.lookup a = none) →
      codeAny (model P w) callerA (.call (.ref fa) ⟨[.ref a], []⟩) (fun r s' => r = .ok (.ret (.bool true)) ∧ OldK s1.heap s'.heap ∧ s'.os = s1.os ∧ AllBare s'.gens) s1 := by
    intro H only sq hok tracked
    have free : ∀ {b : Addr} {o : Obj}, s1.heap.get? b = some o → (b = a → K.lookup a ≠ none ∨ ∃ es ep, o.data = .dict es ep) → H b = none := by
      intro b o e h
      cases q : H b with
      | none => rfl
      | some u =>
        obtain ⟨rfl, nk⟩ := tracked b u q
        rcases h rfl with h | ⟨es, ep, h⟩
        · exact absurd nk h
        · rw [ha] at e
          cases e
          cases h
    have space : ∀ {b : Addr} {m : Str → Option Value}, s1.heap.Ns b m → (hidT s1.heap H).Ns b m := by
      rintro b m ⟨o, es, ep, e, d, r⟩
      exact ⟨o, es, ep, hidT_get e (free e fun _ => .inr ⟨es, ep, d⟩), d, r⟩
    have kin : K.In (hidT s1.heap H) := fun b o e => hidT_get (KX b o e) (free (KX b o e) fun z => .inl (by rw [← z, e]; simp))
    obtain ⟨mc, l1, l2⟩ := hlim
    have e0 : Env0 P w K mg (hidT s1.heap H) callerA [] s1 H :=
      { frames := rfl, mod := ⟨kin, space hns, ⟨mb, space hb, hbb⟩, ⟨mc, space l1, l2⟩⟩, bs := fun b o e => of_hidT e, bsz := Nat.le_of_eq (hidT_size _ _), funs := trivial, frf := fun b z => (nomatch z), hok := hok, bare := .of_eq hg }
    refine codeAny_mono ((F _ kin (space hns)).run callerA [] s1 H ⟨[.ref a], []⟩ [.ref a] [.ref a] _ _ rfl hr e0 (hbind s1 (.ref a)) (.cons rfl .nil) (hsp H only sq)) ?_
    intro r s' h
    match r, h with
    | .error e, h => exact (hCX H e s' h).elim
    | .ok .next, h => exact h.elim
    | .ok .brk, h => exact h.elim
    | .ok .cont, h => exact h.elim
    | .ok (.ret u), h =>
      obtain ⟨v, H', os, bare, un, hok', ru, q⟩ := h
      have q : v = .bl true := q
      subst q
      obtain rfl : u = Value.bool true := ru
      refine ⟨rfl, OldK.of_keep fun b o e => ?_, os, bare⟩
      rcases only b with z | ⟨ob, xs, z⟩
      · exact un.keep b o e z (fun y => nomatch y) (fun y => nomatch y)
      · obtain ⟨e1, _⟩ := hok b _ z
        obtain ⟨e2, _⟩ := hok' b _ (un.frzs b ob _ z)
        rw [e] at e1
        cases e1
        exact e2
  cases hk : K.lookup a with
  | some o =>
    have e := KX a o hk
    rw [ha] at e
    cases e
    exact run (fun _ => none) (fun _ => .inl rfl) (.inr ⟨_, vs.toArray, _, hk, rfl, rfl, rfl, by rw [List.size_toArray, hi.length]; exact hl, by simpa using rv⟩) (fun b u z => by cases z) (fun b u z => by cases z)
  | none =>
    have one : ∀ {b : Addr} {u : HO}, (if b = a then some (HO.frz { cls := .type "list", data := .seq vs.toArray } (.lst (ns.map V.int))) else none) = some u → b = a ∧ u = .frz { cls := .type "list", data := .seq vs.toArray } (.lst (ns.map V.int)) := by
      intro b u z
      split at z
      · rename_i h
        cases z
        exact ⟨h, rfl⟩
      · cases z
    refine run (fun b => if b = a then some (.frz { cls := .type "list", data := .seq vs.toArray } (.lst (ns.map V.int))) else none) (fun b => ?_) (.inl (.inr ⟨_, if_pos rfl⟩)) (fun b u z => ?_) (fun b u z => ⟨(one z).1, hk⟩)
    · by_cases q : b = a
      · exact .inr ⟨_, _, if_pos q⟩
      · exact .inl (if_neg q)
    · obtain ⟨rfl, rfl⟩ := one z
      exact ⟨ha, by rw [List.length_map]; exact hl, vs, _, rv, ha⟩
theorem walk_ofG {l : PySem.W.OpenLaw} {n k : Nat} {q : Program} {loose : List Str} {XP : (Str → Option Value) → Heap → Prop} {YP : World → Heap → Prop} {d : DefRec} {K : Params → PySem.W.Frag} {CX : World → CXT} {sp : World → Sp} {x : Str}
    (hn : l.most = some n) (hn2 : n ≤ sizeLine) (hdf : d.params.defaults = []) (hr : Room k callerA) (hY : ∀ (w : World) (h : Heap), YP w h → (K w.params).In h)
    (F : ∀ (w : World) (mg : Str → Option Value) (fa : Addr) (h : Heap), (K w.params).In h → h.Ns mainGlobals mg → mg d.name = some (.ref fa) →
      ∃ fd : FuncData, (∀ (s : Shared) (u : Value), BindsTo s fd ⟨[u], []⟩ [(x, u)]) ∧ ∀ base : Heap, (K w.params).In base → base.Ns mainGlobals mg → FnG l.prog w (K w.params) mg base (CX w) k fa fd [x] (sp w))
    (hsp : ∀ (w : World) (H : Hp) (a : Addr) (ns : List Int), ns.length ≤ n → Only H → SqL (K w.params) H a (ns.map V.int) → sp w [.ref a] H (fun v _ => v = .bl true) fun _ _ _ => False)
    (hCX : ∀ (w : World) (H : Hp) (s : Shared) (e : Value) (s' : Shared), CX w [] H s (fun _ _ _ => False) e s' → False) : PySem.W.WalkO q loose XP YP l.row.toRowW d [] (fun f vs => PySem.call f vs) := by
  refine Att.attach_call hn hdf ?_
  intro w s0 s1 mg mb fa o pm cd doc a vs ns G Y ho hd hcd hmg hobj hints hlen hg
  obtain ⟨fd, bind, prom⟩ := F w mg fa _ (hY w _ Y) G.T.g hmg
  exact law_callG (hY w _ Y) G.T.g G.T.b G.T.builtins G.T.nolimit hg hobj hints (Nat.le_trans hlen hn2) hr prom bind (fun H only sq => hsp w H a ns hlen only sq) fun H e s' => hCX w H s1 e s'
end XC
/-! AS13: exceptions over the abstract state. -/
namespace AS
open PySem PySem.Spec PyProof.Rows L2
/-- whoever waits takes an exception of the class at C with these fields -/
def AccE (K : PySem.W.Frag) (C : Addr) (l : List (Str × D)) (E : XK) (F Hb : Hp) : Prop :=
  ∀ (Hb' H : Hp) (dx : Addr) (fs : List (Str × V)), Same Hb Hb' → Same Hb' H → Same F H → (∀ a o, F a = some o → Hb' a = none ∧ NT o) → Hb' dx = some (.xd fs) → Paired (fun (p : Str × V) (q : Str × D) => p.1 = q.1 ∧ Dt K Hb' p.2 q.2) fs l → E (.ref C) (some dx) H
def spX (K : PySem.W.Frag) (C : Addr) (l : List (Str × D)) (args : List En) : List V → Hp → XK → Prop := fun vs H E =>
  ∃ F Hb as, ST K F Hb H (vs.map some) args [] as ∧ AccE K C l E F Hb
theorem spX.len {K : PySem.W.Frag} {C : Addr} {l : List (Str × D)} {args : List En} {vs : List V} {H : Hp} {E : XK} (h : spX K C l args vs H E) : vs.length = args.length := by
  obtain ⟨_, _, _, S, _⟩ := h
  have := S.sl
  simpa using this
def XV (K : PySem.W.Frag) (F Hb : Hp) (te : TE) (es : List En) (W : List Cn) : Prop := ∀ F' Hb' H σ as, Same F F' → Same Hb Hb' → ST K F' Hb' H σ es W as → ∀ Q : VK, te σ H Q
def XA (K : PySem.W.Frag) (F Hb : Hp) (ta : TA) (es : List En) (W : List Cn) : Prop := ∀ F' Hb' H σ as, Same F F' → Same Hb Hb' → ST K F' Hb' H σ es W as → ∀ Q : List V → Hp → Prop, ta σ H Q
def XS (K : PySem.W.Frag) (F Hb : Hp) (t : TS) (es : List En) (W : List Cn) : Prop := ∀ F' Hb' H σ as, Same F F' → Same Hb Hb' → ST K F' Hb' H σ es W as → ∀ D : Ends, t D σ H
section
variable {K : PySem.W.Frag} {C : Addr} {l : List (Str × D)} {E : XK} {F Hb F' Hb' : Hp} {es es1 : List En} {W W1 : List Cn} {ta : TA} {te : TE} {t u : TS} {tt : TT} {e : En}
theorem AccE.mono (A : AccE K C l E F Hb) (f : Same F F') (s : Same Hb Hb') : AccE K C l E F' Hb' := fun Hb2 H dx fs s2 s3 f3 ds hx p =>
  A Hb2 H dx fs (s.trans s2) s3 (f.trans f3) (fun a o q => ds a o (f _ _ q)) hx p
theorem xv_call {sp : Sp} {args : List D} (A : AccE K C l E F Hb) (ha : EA K ta es W (args.map .dat) W1) (h : ∀ vs H Q, spX K C l (args.map .dat) vs H E → sp vs H Q E) : XV K F Hb (tCall sp [] E ta) es W := fun F' Hb' H σ as f s S Q =>
  ha F' Hb' H σ as S _ fun vs Hb1 H1 as1 g1 s1 S1 r1 => by
    obtain ⟨F2, as0, g0, h0, Sc, Fn, Rn, back⟩ := call_in (cW := []) (R := W1) S1 r1 (fun e he => by obtain ⟨d, _, rfl⟩ := List.mem_map.mp he; trivial) (fun c hc => absurd hc (by simp))
    show sp (vs ++ []) H1 Q E
    rw [List.append_nil]
    have f2 : Same F' F2 := fun a o q => by
      have q1 := S1.frm a o q
      cases q2 : F2 a with
      | none => rw [Fn a q2] at q; cases q
      | some o2 => rw [Sc.frm a o2 q2] at q1; exact q1
    exact h vs H1 Q ⟨F2, Hb1, as0, Sc, A.mono (f.trans f2) (s.trans s1)⟩
theorem xa_first (h : XV K F Hb te es W) : XA K F Hb (tCons te ta) es W := fun F' Hb' H σ as f s S Q => h F' Hb' H σ as f s S _
theorem xa_rest (h : EV K te es W e W1) (h2 : XA K F Hb ta es W1) : XA K F Hb (tCons te ta) es W := fun F' Hb' H σ as f s S Q =>
  h F' Hb' H σ as S _ fun v Hb1 H1 as1 g1 s1 S1 r1 => h2 F' Hb1 H1 σ as1 f (s.trans s1) S1 _
theorem xv_callA {sp : Sp} {dvs : List V} (h : XA K F Hb ta es W) : XV K F Hb (tCall sp dvs E ta) es W := fun F' Hb' H σ as f s S Q => h F' Hb' H σ as f s S _
theorem xs_ret (h : XV K F Hb te es W) : XS K F Hb (tRet te) es W := fun F' Hb' H σ as f s S D => h F' Hb' H σ as f s S _
theorem xs_asg {g : TG} (h : XV K F Hb te es W) : XS K F Hb (tAsg te g) es W := fun F' Hb' H σ as f s S D => h F' Hb' H σ as f s S _
theorem xs_drop (h : XV K F Hb te es W) : XS K F Hb (tDrop te) es W := fun F' Hb' H σ as f s S D => h F' Hb' H σ as f s S _
theorem xs_first (h : XS K F Hb t es W) : XS K F Hb (tSeq t u) es W := fun F' Hb' H σ as f s S D => h F' Hb' H σ as f s S _
theorem xs_then (h : SDd K t es W es1 W1) (h2 : XS K F Hb u es1 W1) : XS K F Hb (tSeq t u) es W := fun F' Hb' H σ as f s S D =>
  h F' Hb' H σ as { D with nx := u D } S ⟨fun Hb1 H1 σ1 as1 e1 w1 ⟨p, q⟩ g1 s1 S1 => by
    subst p q
    exact h2 F' Hb1 H1 σ1 as1 f (s.trans s1) S1 D, fun _ _ _ _ _ _ _ _ x => x.elim, fun _ _ _ _ _ _ x => x.elim, fun _ _ _ _ _ _ x => x.elim⟩
theorem xs_if {b : Bool} (h : ET K tt es W b W1) (h1 : b = true → XS K F Hb t es W1) (h2 : b = false → XS K F Hb u es W1) : XS K F Hb (tIfS tt t u) es W := fun F' Hb' H σ as f s S D =>
  h F' Hb' H σ as S _ fun Hb1 H1 as1 g1 s1 S1 => by
    cases b with
    | true => exact h1 rfl F' Hb1 H1 σ as1 f (s.trans s1) S1 D
    | false => exact h2 rfl F' Hb1 H1 σ as1 f (s.trans s1) S1 D
/-- a def's body that raises -/
theorem fn_goX {N : List Str} {vs : List V} {args : List En} {H : Hp} {Q : VK} (h : spX K C l args vs H E) (hb : ∀ F Hb, AccE K C l E F Hb → XS K F Hb t (args ++ List.replicate (N.length - args.length) .un) []) :
    t { nx := fun _ H' => Q .non H', rt := Q } (L2.start N vs) H := by
  obtain ⟨F, Hb, as, S, A⟩ := h
  exact hb F Hb A F Hb H _ as (Same.refl _) (Same.refl _) (start_slots S) _
/-- what __init__ of an exception with the fields what, number promises -/
def spInit (C : Addr) : Sp := fun vs H Q _ => ∃ (a : Addr) (v1 v2 : V), vs = [.ref a, v1, v2] ∧ H a = some (exo a C none) ∧
  ∀ dx, H dx = none → dx ≠ a → Q .non (upd (upd (upd H dx (exd dx [("what", v1)])) a (exo a C (some dx))) dx (exd dx [("number", v2), ("what", v1)]))
theorem xs_raise {d1 d2 : D} (A : AccE K C [("number", d2), ("what", d1)] E F Hb) (ha : EA K ta es W [.dat d1, .dat d2] W1) : XS K F Hb (fun _ σ H => tMkO C (spInit C) [] ta σ H fun cls d H' => E cls d H') es W := fun F' Hb' H σ as f s S D =>
  ha F' Hb' H σ as S _ fun vs Hb1 H1 as1 g1 s1 S1 r1 => by
    cases r1 with
    | @cons v1 _ _ _ a1 t1 => cases t1 with
      | @cons v2 _ _ _ a2 t2 => cases t2 with
        | nil =>
          refine ⟨by simp, fun a hn => ⟨a, v1, v2, rfl, upd_same, fun dx hdx hne => ⟨rfl, dx, [("number", v2), ("what", v1)], ?_, upd_same, ?_, ?_⟩⟩⟩
          · rw [upd_ne (Ne.symm hne), upd_same]
          · rw [upd_ne hne] at hdx; exact hdx
          · have hd1 : H1 dx = none := by rw [upd_ne hne] at hdx; exact hdx
            obtain ⟨S2, s2⟩ := S1.new (o := .xd [("number", v2), ("what", v1)]) hd1
            have eH : ∀ G : Hp, (∀ b, b ≠ a → b ≠ dx → G b = H1 b) → upd (L2.del G a) dx (.xd [("number", v2), ("what", v1)]) = upd H1 dx (.xd [("number", v2), ("what", v1)]) := fun G hG => by
              funext b
              by_cases hb : b = dx
              · rw [hb, upd_same, upd_same]
              · rw [upd_ne hb, upd_ne hb]
                by_cases hba : b = a
                · rw [hba, L2.del_same, hn]
                · rw [L2.del_ne hba, hG b hba hb]
            rw [eH _ fun b h1 h2 => by rw [upd_ne h2, upd_ne h1, upd_ne h2, upd_ne h1]]
            exact A _ _ dx _ ((s.trans s1).trans s2) S2.base (f.trans S2.frm) (fun a o q => S2.dis a o (f _ _ q)) upd_same (.cons ⟨rfl, Dt.mono s2 _ _ a2⟩ (.cons ⟨rfl, Dt.mono s2 _ _ a1⟩ .nil))
/-- an element of a list comprehension raises -/
theorem xv_lc {wi : TI} {g : TG} {vs js : List Nat} {l : List En} {stay : List Cn → Prop} {W0 : List Cn} (hi : EI K wi es W l stay W0) (k : Nat) (fs : Nat → D) (hk : k ≤ 1000000) (hst : stay W0) (hjs : ∀ j ∈ js, j ∈ vs)
    (step : ∀ i x, i < k → l[i]? = some x → ∃ e2, EG K g js x (wipeE es vs) W0 e2 ∧ ET K tt e2 W0 true W0 ∧ EV K te e2 W0 (.dat (fs i)) W0)
    (bad : ∃ x e2, l[k]? = some x ∧ EG K g js x (wipeE es vs) W0 e2 ∧ ET K tt e2 W0 true W0 ∧ XV K F Hb te e2 W0) : XV K F Hb (tLc wi g tt te vs) es W := fun F' Hb' H σ as f s S Q =>
  hi F' Hb' H σ as S _ fun J Hb1 H1 as1 g1 s1 S1 walk p hp => by
    obtain ⟨xk, ek, hxk, hgk, htk, hvk⟩ := bad
    have hF : F' p = none := S1.frm.free hp
    have ff : ∀ acc, Same F (upd F' p (.lst acc)) := fun acc a o q => by
      have q' := f a o q
      rw [upd_ne (ne_of_none q' hF)]; exact q'
    have hkl : k < l.length := (List.getElem?_eq_some_iff.mp hxk).1
    refine ⟨fun i m H' => m = k - i ∧ i ≤ k ∧ ∃ Hb2 as' acc, Gr as1 as' ∧ Same Hb1 Hb2 ∧ acc.length = i ∧ ST K (upd F' p (.lst acc)) Hb2 H' (L2.wipe σ vs) (wipeE es vs) W0 as',
      ⟨k, by simp, Nat.zero_le _, Hb1, as1, [], Gr.refl _, Same.refl _, rfl, (S1.outside hp NT.lst).wipe vs⟩, ?_⟩
    rintro i m H' ⟨rfl, hik, Hb2, as2, acc, g2, s2, hacc, S2⟩
    have wk := walk i _ Hb2 H' _ _ _ as2 S2 s2 g2 hst
    obtain ⟨hgo, hyl⟩ := wk.1 l[i] (by simp [show i < l.length by omega])
    refine .inr ⟨hgo, fun H3 => i < k ∧ ∃ Hb' as' acc, Gr as1 as' ∧ Same Hb1 Hb' ∧ acc.length = i + 1 ∧ ST K (upd F' p (.lst acc)) Hb' H3 (L2.wipe σ vs) (wipeE es vs) W0 as', fun H3 h => ⟨k - (i + 1), by omega, rfl, h.1, h.2⟩, fun x H3 hy => ?_⟩
    obtain ⟨Hb3, s3, S3, r3, _⟩ := hyl x H3 hy
    by_cases hlt : i < k
    · obtain ⟨e2, hg, ht, he⟩ := step i l[i] hlt (by simp [show i < l.length by omega])
      refine hg _ Hb3 H3 _ as2 x S3 r3 _ fun σ4 hw S4 => ⟨by rw [hw vs hjs, wipe_wipe], ?_⟩
      refine ht _ Hb3 H3 σ4 as2 S4 _ fun Hb5 H5 as5 g5 s5 S5 => ?_
      show te σ4 H5 _
      refine he _ Hb5 H5 σ4 as5 S5 _ fun y Hb6 H6 as6 g6 s6 S6 r6 => ?_
      refine ⟨acc, S6.frm p _ upd_same, by rw [hacc, sizeLine_eq]; omega, hlt, Hb6, as6, acc ++ [y], (g2.trans g5).trans g6, ((s2.trans s3).trans s5).trans s6, by simp [hacc], ?_⟩
      exact (S6.outset NT.lst).slots ((S.wipe vs).sl) fun i e h => RS.mono (g5.trans g6) ((s3.trans s5).trans s6) (S2.slot i e h)
    · have e : i = k := by omega
      subst e
      have el : l[i] = xk := by
        have : l[i]? = some l[i] := by simp [hkl]
        rw [hxk] at this
        exact (Option.some.inj this).symm
      rw [el] at r3
      refine hgk _ Hb3 H3 _ as2 x S3 r3 _ fun σ4 hw S4 => ⟨by rw [hw vs hjs, wipe_wipe], ?_⟩
      refine htk _ Hb3 H3 σ4 as2 S4 _ fun Hb5 H5 as5 g5 s5 S5 => ?_
      show te σ4 H5 _
      exact hvk _ Hb5 H5 σ4 as5 (ff acc) (((s.trans s1).trans (s2.trans s3)).trans s5) S5 _
end
/-- a def of the top that may raise -/
theorem TopF.calX {P : Program} {w : World} {K : PySem.W.Frag} {mg : Str → Option Value} {base : Heap} {x : Str} {st : Stmt} {N ps : List Str} {k : Nat} {sp : Sp} (T : TopF K mg x st) (S : FnScope N ps (defScope st)) (len : ∀ vs H Q E, sp vs H Q E → vs.length = ps.length)
    (hb : ∀ (kV doc pm : Value) (an : Option Addr) (cdv ct : Value) (us : List Value), us.length = ps.length → bindArgs (PySem.W.fnOf x x (defArgs st) (defBody st) (defScope st) .none kV doc pm an cdv ct) ⟨us, []⟩ = pure (ps.zip us))
    (hbody : ∀ (f : Addr) (cdv : Value) (A : Around) (outer : List Env) (s : Shared) (H : Hp) (vs : List V) (Q : VK) (E : XK), Room k (A.deeper (envOfC x (defScope st) s.heap.objs.size f cdv)) → sp vs H Q E →
      ∃ t, PSs (cxOf (L2.CX P w) P w K mg base N x (defScope st) f cdv A outer s H E) (defBody st) t ∧ t { nx := fun _ H' => Q .non H', rt := Q } (L2.start N vs) H) : Cal P w K mg base (L2.CX P w) (k + 1) x ps sp := by
  obtain ⟨f, fd, F, hm⟩ := T
  exact ⟨f, fd, F.okX S len (fun cdv A outer s H vs Q E => hbody f cdv A outer s H vs Q E), hm, F.kp, F.binds hb⟩
section
variable {X : Cx} {x : Str} {p pos : Pos} {e : Expr} {es : List Expr} {t : TA} {k : Nat} {ps : List Str} {sp : Sp} {E : XK}
theorem pe_calX (C : Cal X.prog X.w X.K X.mg X.base (L2.CX X.prog X.w) k x ps sp) (hx : Passes (L2.CX X.prog X.w) X E) (hr : Room k X.A) (hg : Gl X x) (ha : PA X (e :: es) t) (hdb : (x == ("__debug__" : Str)) = false := by decide) (he : starEach (e :: es) X.env = (false, eval e X.env) :: starEach es X.env := by rfl) (hpl : (backTo pos (starEach es X.env)).any (·.1) = false := by rfl) :
    PE X (.Call (.Name x p) (e :: es) [] pos) (tCall sp [] E t) := by
  obtain ⟨f, fd, F, hm, hk, hb⟩ := C
  exact pe_call F hr hg hm hk hb .nil hx ha hdb he hpl
theorem pe_calS {ES : L2.St → XK} (C : Cal X.prog X.w X.K X.mg X.base (L2.CX X.prog X.w) k x ps sp) (hx : ∀ σ, PassesAt (L2.CX X.prog X.w) X σ (ES σ)) (hr : Room k X.A) (hg : Gl X x) (ha : PA X (e :: es) t) (hdb : (x == ("__debug__" : Str)) = false := by decide) (he : starEach (e :: es) X.env = (false, eval e X.env) :: starEach es X.env := by rfl) (hpl : (backTo pos (starEach es X.env)).any (·.1) = false := by rfl) :
    PE X (.Call (.Name x p) (e :: es) [] pos) (tCallSD sp [] ES t) := by
  obtain ⟨f, fd, F, hm, hk, hb⟩ := C
  exact pe_callSD F hr hg hm hk hb .nil hx ha hdb he hpl
end
/-- within a def: what the def waits for takes a callee's exception -/
theorem passes_def {P : Program} {w : World} {K : PySem.W.Frag} {mg : Str → Option Value} {base : Heap} {N : List Str} {qual : Str} {sc : Scope} {f : Addr} {cd : Value} {A : Around} {outer : List Env} {s : Shared} {H : Hp} {E : XK} :
    Passes (L2.CX P w) (cxOf (L2.CX P w) P w K mg base N qual sc f cd A outer s H E) E :=
  passes_call (X := cxOf (L2.CX P w) P w K mg base N qual sc f cd A outer s H E) (takes_of rfl rfl rfl rfl) fun _ _ _ _ h => h
end AS
/-! AS14: an own error with the fields what, number; defs with defaults; defs that ask for repr. -/
namespace AS
open PySem PySem.Spec PyProof.Rows L2
def CB (mg : Str → Option Value) : Addr := match mg "BadNumber" with
  | some (.ref a) => a
  | _ => 0
structure Bad (K : PySem.W.Frag) (mg : Str → Option Value) (st : Stmt) : Prop where
  gC : mg "BadNumber" = some (.ref (CB mg))
  oex : OexC K (CB mg)
  xfc : XfC K (CB mg)
  noW : PySem.W.findIn K (.ref (CB mg)) "what" = some none
  noN : PySem.W.findIn K (.ref (CB mg)) "number" = some none
  own : PySem.W.exmOne K (.ref (CB mg)) (.ref (CB mg)) = some true
  ini : ∃ (f : Addr) (fd : FuncData), PySem.W.findIn K (.ref (CB mg)) "__init__" = some (some (.ref f)) ∧ PySem.W.typeIn K (.ref f) = some (.type "function") ∧ Fun K "__init__" "BadNumber.__init__" st f fd
/-- __init__'s body as a reading -/
theorem init_reads {K : PySem.W.Frag} {mg : Str → Option Value} {st : Stmt} (B : Bad K mg st) {vs : List V} {H : Hp} {Q : VK} {E : XK} {N : List Str} (hN : N.length = 3) (h : spInit (CB mg) vs H Q E) :
    tSeq (tOst K "what" (tVar 0) (tVar 1)) (tOst K "number" (tVar 0) (tVar 2)) { nx := fun _ H' => Q .non H', rt := Q } (L2.start N vs) H := by
  obtain ⟨a, v1, v2, rfl, ha, q⟩ := h
  have es : L2.start N [V.ref a, v1, v2] = [some (.ref a), some v1, some v2] := by unfold L2.start; simp [hN]
  rw [es]
  refine ⟨v1, rfl, .ref a, rfl, a, CB mg, rfl, B.oex, B.noW, .inl ⟨ha, fun dx hdx hne => ?_⟩⟩
  exact ⟨v2, rfl, .ref a, rfl, a, CB mg, rfl, B.oex, B.noN, .inr ⟨dx, [("what", v1)], upd_same, by rw [upd_ne hne, upd_same], by simp, q dx hdx hne⟩⟩
section
variable {X : Cx} {e : Expr} {es : List Expr} {ta : TA} {p pos pos' : Pos} {k : Nat} {W : WX} {st : Stmt} {ps : List Str}
/-- raise BadNumber(what, number) -/
theorem ps_bad (B : Bad X.K X.mg st) (F : ∀ f fd, Fun X.K "__init__" "BadNumber.__init__" st f fd → FnOk X.prog X.w X.K X.mg X.base CX0 k f fd ps (spInit (CB X.mg)) ∧ Binds X.K fd ps []) (hr : Room (k + 1) X.A) (hc : X.calm = true) (tk : Takes X W) (hg : Gl X "BadNumber") (ha : PA X (e :: es) ta)
    (he : starEach (e :: es) X.env = (false, eval e X.env) :: starEach es X.env := by rfl) (hpl : (backTo pos (starEach es X.env)).any (·.1) = false := by rfl) :
    PS X (.Raise (some (.Call (.Name "BadNumber" p) (e :: es) [] pos)) none pos') (fun _ σ H => tMkO (CB X.mg) (spInit (CB X.mg)) [] ta σ H fun cls d H' => W cls d σ H') := by
  obtain ⟨f, fd, i1, i2, i3⟩ := B.ini
  obtain ⟨F1, F2⟩ := F f fd i3
  exact ps_raise hc tk (pmk_oex B.oex i1 i2 F1 hr F2 .nil pass0 hg B.gC ha (by decide) he hpl)
/-- what is never reached -/
theorem pss_dead {l : List Stmt} : PSs X l (fun _ _ _ => False) := ⟨fun _ _ _ _ _ _ h => h.elim⟩
end
/-- a def with defaults, where it stands -/
def TopD (K : PySem.W.Frag) (mg : Str → Option Value) (x : Str) (st : Stmt) (dvs : List V) : Prop := ∃ (f : Addr) (fd : FuncData), FunD K x x (defArgs st) (defBody st) (defScope st) dvs [] f fd ∧ mg x = some (.ref f)
def CalD (P : Program) (w : World) (K : PySem.W.Frag) (mg : Str → Option Value) (base : Heap) (CX : CXT) (k : Nat) (x : Str) (ps : List Str) (sp : Sp) (dvs : List V) : Prop :=
  ∃ (f : Addr) (fd : FuncData) (ds : List Value), FnOk P w K mg base CX k f fd ps sp ∧ mg x = some (.ref f) ∧ PySem.W.keepIn K (.ref f) = true ∧ Binds K fd ps ds ∧ Vals dvs ds
theorem pe_calDS {X : Cx} {x : Str} {p pos : Pos} {e : Expr} {es : List Expr} {t : TA} {k : Nat} {ps : List Str} {sp : Sp} {dvs : List V} {ES : L2.St → XK} (C : CalD X.prog X.w X.K X.mg X.base (L2.CX X.prog X.w) k x ps sp dvs) (hx : ∀ σ, PassesAt (L2.CX X.prog X.w) X σ (ES σ)) (hr : Room k X.A) (hg : Gl X x) (ha : PA X (e :: es) t) (hdb : (x == ("__debug__" : Str)) = false := by decide) (he : starEach (e :: es) X.env = (false, eval e X.env) :: starEach es X.env := by rfl) (hpl : (backTo pos (starEach es X.env)).any (·.1) = false := by rfl) :
    PE X (.Call (.Name x p) (e :: es) [] pos) (tCallSD sp dvs ES t) := by
  obtain ⟨f, fd, ds, F, hm, hk, hb, hv⟩ := C
  exact pe_callSD F hr hg hm hk hb hv hx ha hdb he hpl
/-- a def that asks for repr -/
def CalG (P : Program) (w : World) (K : PySem.W.Frag) (mg : Str → Option Value) (base : Heap) (CX : CXT) (k : Nat) (x : Str) (ps : List Str) (sp : Sp) : Prop :=
  ∃ (f : Addr) (fd : FuncData), XC.FnG P w K mg base CX k f fd ps sp ∧ mg x = some (.ref f) ∧ PySem.W.keepIn K (.ref f) = true ∧ Binds K fd ps []
theorem TopF.calG {P : Program} {w : World} {K : PySem.W.Frag} {mg : Str → Option Value} {base : Heap} {x : Str} {st : Stmt} {N ps : List Str} {k : Nat} {sp : Sp} (T : TopF K mg x st) (S : FnScope N ps (defScope st)) (len : ∀ vs H Q E, sp vs H Q E → vs.length = ps.length)
    (hb : ∀ (kV doc pm : Value) (an : Option Addr) (cdv ct : Value) (us : List Value), us.length = ps.length → bindArgs (PySem.W.fnOf x x (defArgs st) (defBody st) (defScope st) .none kV doc pm an cdv ct) ⟨us, []⟩ = pure (ps.zip us))
    (hbody : ∀ (f : Addr) (cdv : Value) (A : Around) (outer : List Env) (s : Shared) (H : Hp) (vs : List V) (Q : VK) (E : XK), A.guards = some [] → Room k (A.deeper (envOfC x (defScope st) s.heap.objs.size f cdv)) → sp vs H Q E →
      ∃ t, PSs (cxOf CX0 P w K mg base N x (defScope st) f cdv A outer s H E).nox (defBody st) t ∧ t { nx := fun _ H' => Q .non H', rt := Q } (L2.start N vs) H) : CalG P w K mg base CX0 (k + 1) x ps sp := by
  obtain ⟨f, fd, F, hm⟩ := T
  exact ⟨f, fd, XC.fn_ofG F S len (fun cdv A outer s H vs Q E hg hr h => by obtain ⟨t, h1, h2⟩ := hbody f cdv A outer s H vs Q E hg hr h; exact ⟨t, h1.nox, h2⟩), hm, F.kp, F.binds hb⟩
theorem pe_calG {X : Cx} {x : Str} {p pos : Pos} {e : Expr} {es : List Expr} {t : TA} {k : Nat} {ps : List Str} {sp : Sp} (C : CalG X.prog X.w X.K X.mg X.base CX0 k x ps sp) (hgd : X.A.guards = some []) (hr : Room k X.A) (hg : Gl X x) (ha : PA X (e :: es) t) (hdb : (x == ("__debug__" : Str)) = false := by decide) (he : starEach (e :: es) X.env = (false, eval e X.env) :: starEach es X.env := by rfl) (hpl : (backTo pos (starEach es X.env)).any (·.1) = false := by rfl) :
    PE X (.Call (.Name x p) (e :: es) [] pos) (tCall sp [] E0 t) := by
  obtain ⟨f, fd, F, hm, hk, hb⟩ := C
  exact XC.pe_callG F hgd hr hg hm hk hb pass0 ha hdb he hpl
end AS
/-! AS15: try .. except BadNumber as e: return (e.what, repr(e.number)). -/
namespace AS
open PySem PySem.Spec PyProof.Rows L2
section
variable {K : PySem.W.Frag} {mg : Str → Option Value} {C : Addr} {l : List (Str × D)} {F Hb H : Hp} {σ : L2.St} {es : List En} {as : List Addr} {ta : TA} {P : Po} {D0 : Ends}
/-- a state without owned objects over a heap that has grown -/
theorem ST.grown {Hb' H' : Hp} (S : ST K F Hb H σ es [] as) (s1 : Same Hb Hb') (s2 : Same Hb' H') (f : Same F H') (ds : ∀ a o, F a = some o → Hb' a = none ∧ NT o) : ST K F Hb' H' σ es [] as :=
  ⟨s2, f, ds, S.len, fun i a c q1 q2 q3 => by simp at q2, fun i j a c d q1 q2 q3 q4 q5 q6 => by simp at q3, S.sl, fun i e h => RS.mono (Gr.refl _) s1 (S.slot i e h)⟩
/-- a call whose exception is wished for at the caller's slots -/
theorem call_bad {sp : Sp} {dvs : List V} {ES : L2.St → XK} {args : List D} (S : ST K F Hb H σ es [] as) (A : AccE K C l (ES σ) F Hb) (ha : EA K ta es [] (args.map .dat) [])
    (h : ∀ vs H Q, spX K C l (args.map .dat) vs H (ES σ) → sp (vs ++ dvs) H Q (ES σ)) (Q : VK) : tCallSD sp dvs ES ta σ H Q :=
  ha F Hb H σ as S _ fun vs Hb1 H1 as1 g1 s1 S1 r1 => by
    obtain ⟨F2, as0, g0, h0, Sc, Fn, Rn, back⟩ := call_in (cW := []) (R := []) S1 r1 (fun e he => by obtain ⟨d, _, rfl⟩ := List.mem_map.mp he; trivial) (fun c hc => absurd hc (by simp))
    have f2 : Same F F2 := fun a o q => by
      have q1 := S1.frm a o q
      cases q2 : F2 a with
      | none => rw [Fn a q2] at q; cases q
      | some o2 => rw [Sc.frm a o2 q2] at q1; exact q1
    exact h vs H1 Q ⟨F2, Hb1, as0, Sc, A.mono f2 s1⟩
/-- one value more -/
theorem spX.more {args : List D} {vs : List V} {E : XK} {b : Bool} (h : spX K C l (args.map .dat) vs H E) : spX K C l ((args ++ [D.bl b]).map .dat) (vs ++ [V.bl b]) H E := by
  obtain ⟨F, Hb, as, S, A⟩ := h
  have hl : vs.length = args.length := by have := S.sl; simpa using this
  refine ⟨F, Hb, as, S.slots (by simp [hl]) fun i e he => ?_, A⟩
  rw [List.map_append] at he
  by_cases hi : i < args.length
  · rw [List.getElem?_append_left (by simpa using hi)] at he
    rw [List.map_append, List.getElem?_append_left (by simpa [hl] using hi)]
    exact S.slot i e he
  · rw [List.getElem?_append_right (by simpa using hi)] at he
    rw [List.map_append, List.getElem?_append_right (by simpa [hl] using hi)]
    have hi2 : i - (args.map En.dat).length = 0 := by
      have := (List.getElem?_eq_some_iff.mp he).1
      simp at this ⊢
      omega
    have hi3 : i - (vs.map some).length = 0 := by simpa [hl] using hi2
    rw [hi2] at he
    rw [hi3]
    cases he
    exact RS.of (e := .dat (.bl b)) (.bl b)
abbrev tSuite (K : PySem.W.Frag) (C : Addr) (i : Nat) (a : Addr) (cls : Value) (d : Option Addr) : TS :=
  tRet (tTup (tCons (tXf a cls d C "what" (tVar i)) (tCons (tCB (XC.rRepr K) (tCons (tXf a cls d C "number" (tVar i)) tNil)) tNil)))
/-- the except clause takes it and returns -/
theorem acc_as {i : Nat} {Wout : WX} {d : D} {p : PyData} {x : Str} (own : PySem.W.exmOne K (.ref C) (.ref C) = some true) (S : ST K F Hb H σ es [] as) (k : Rt K F Hb as P.rt D0.rt) (hi : i < es.length) (hp : d.py = some p) (h1 : p.showable = true) (h2 : p.hasDict = false) (h3 : p.depth ≤ 9) (h4 : p.shown.length ≤ sizeLine)
    (hq : P.rt (.dat (.tup [.str x, .str p.shown])) []) : AccE K C [("number", d), ("what", .str x)] (WE (wAs K (.ref C) i (tSuite K C i) Wout D0) σ) F Hb := fun Hb' H' dx fs s1 s2 f1 ds hx pf => by
  refine ⟨true, own, fun _ a ha => ?_, fun q => nomatch q⟩
  have S1 := S.grown s1 s2 f1 ds
  have S2 := S1.set (i := i) (v := .ref a) (e := .dat (.rf a)) (.rf a)
  have hs : (σ.set i (some (V.ref a)))[i]? = some (some (.ref a)) := List.getElem?_set_self (by rw [S.sl]; exact hi)
  cases pf with
  | @cons n _ _ _ pn pr => cases pr with
    | @cons m _ _ _ pm pr2 =>
      cases pr2
      obtain ⟨nk, nv⟩ := n
      obtain ⟨mk, mv⟩ := m
      obtain ⟨rfl, dn⟩ := pn
      obtain ⟨rfl, dm⟩ := pm
      cases dm
      have hH := s2 dx _ hx
      refine ⟨.ref a, hs, rfl, rfl, dx, _, .str x, rfl, hH, by rw [L2.lookup_put, if_neg (show ¬ ("what" : Str) = "number" by decide), L2.lookup_put, if_pos rfl], ?_⟩
      refine ⟨.ref a, hs, rfl, rfl, dx, _, nv, rfl, hH, by rw [L2.lookup_put, if_pos rfl], ?_⟩
      refine ⟨nv, p, rfl, Dt.py _ _ _ (Dt.mono s2 _ _ dn) hp, h1, h2, h3, h4, ?_⟩
      refine ⟨by show 2 ≤ sizeLine; decide, fun q hqn => ?_⟩
      obtain ⟨S3, s3⟩ := S2.new (o := .tup [.str x, .str p.shown]) hqn
      exact k _ _ _ _ as _ [] _ hq (Gr.refl _) (s1.trans s3) S3 (.tup (.inl (.inl upd_same)) (.cons (.str _) (.cons (.str _) .nil)))
end
/-- the law's own def -/
theorem fn_ofGn {P : Program} {w : World} {K : PySem.W.Frag} {mg : Str → Option Value} {base : Heap} {x : Str} {st : Stmt} {N ps : List Str} {k : Nat} {sp : Sp} {f : Addr} {fd : FuncData} (F : Fun K x x st f fd) (S : FnScope N ps (defScope st)) (len : ∀ vs H Q E, sp vs H Q E → vs.length = ps.length)
    (hbody : ∀ (cdv : Value) (A : Around) (outer : List Env) (s : Shared) (H : Hp) (vs : List V) (Q : VK) (E : XK), A.guards = some [] → Room k (A.deeper (envOfC x (defScope st) s.heap.objs.size f cdv)) → sp vs H Q E →
      ∃ t, PSs (cxOf CX0 P w K mg base N x (defScope st) f cdv A outer s H E).nox (defBody st) t ∧ t { nx := fun _ H' => Q .non H', rt := Q } (L2.start N vs) H) : XC.FnG P w K mg base CX0 (k + 1) f fd ps sp :=
  XC.fn_ofG F S len fun cdv A outer s H vs Q E hg hr h => by
    obtain ⟨t, h1, h2⟩ := hbody cdv A outer s H vs Q E hg hr h
    exact ⟨t, h1.nox, h2⟩
end AS
/-! AS16: dicts whose keys are tuples of whole numbers. -/
namespace AS
open PySem L2

/-- the dict d is locked for good ahead of a statement -/
def tFrz (t : TS) : TS := fun D σ H => ∃ d u, H d = some u ∧ Mut (some u) ∧ ∀ od, t D σ (upd H d (.frz od u))
theorem ps_frz {X : Cx} {st : Stmt} {t : TS} (h : PS X st t) : PS X st (tFrz t) := by
  refine ⟨fun pins s σ H D I hw => ?_⟩
  obtain ⟨d, u, hd, mu, hw⟩ := hw
  obtain ⟨od, I1⟩ := I.lock hd mu
  exact h.run pins s σ _ _ I1 (hw od)

section
variable {K : PySem.W.Frag} {F Hb Hb' H H' : Hp} {σ : L2.St} {es es1 es2 : List En} {as as' : List Addr} {W W1 W2 W3 W' : List Cn} {e e1 e2 r : En} {ta tb te tc td ty to tx : TE} {d d1 d2 : D} {v : V} {P : Po} {t u : TS} {tt : TT}
/-- an owned dict is data from here on -/
theorem sd_frz {i j : Nat} {kvs : List (List Int × D)} (h1 : es[j]? = some (.ptr i)) (h2 : W[i]? = some (.dt kvs)) (h : SD K t (es.set j (.dat (.kd (kvs.map (·.1)) (kvs.map (·.2))))) (W.set i .gone) P) : SD K (tFrz t) es W P := fun F Hb H σ as D S k => by
  obtain ⟨a, g1, g2⟩ := S.slot j _ h1
  obtain ⟨ys, q1, q2⟩ := S.freezeT g1 h2
  refine ⟨a, _, q1, trivial, fun od => ?_⟩
  obtain ⟨Hb', s1, S1, hd⟩ := q2 od
  have S2 := S1.set (i := j) (v := V.ref a) (e := .dat (AS.D.kd (kvs.map fun q : List Int × AS.D => q.1) (kvs.map fun q : List Int × AS.D => q.2))) hd
  have e : σ.set j (some (.ref a)) = σ := by
    obtain ⟨hj, hv⟩ := List.getElem?_eq_some_iff.mp g2
    rw [← hv]; exact List.set_getElem_self hj
  rw [e] at S2
  exact h F Hb' _ σ as D S2 (k.on (Gr.refl _) s1)
theorem kV_ints (l : List Int) : (l.map Sum.inl).map kV = l.map V.int := by
  rw [List.map_map]; exact List.map_congr_left fun a _ => rfl
/-- the keys of a dict that is data -/
theorem ei_kd {ks : List (List Int)} {l : List D} (h : EV K td es W (.dat (.kd ks l)) W1) : EI K (iKeys td) es W (ks.map fun k => .dat (.key k)) (fun _ => True) W1 := fun F Hb H σ as S R k =>
  h F Hb H σ as S _ fun v Hb1 H1 as1 g1 s1 S1 r1 => by
    cases r1 with
    | @kd a od ys _ _ q1 q2 q3 =>
      have hl : ys.length = ks.length := by have := congrArg List.length q2; simpa using this
      refine ⟨a, od, rfl, .inr ⟨ys, S1.base _ _ q1, k _ Hb1 H1 as1 g1 s1 S1 fun i F2 Hb2 H2 σ2 es2 W2 as2 S2 s2 g2 _ => ?_⟩⟩
      have hq : H2 a = some (.frz od (.dT ys)) := S2.base _ _ (s2 _ _ q1)
      refine ⟨fun e he => ?_, fun hi => ⟨hq, by rw [hl]; simpa using hi⟩⟩
      rw [List.getElem?_map] at he
      cases hk : ks[i]? with
      | none => rw [hk] at he; cases he
      | some k0 =>
        rw [hk] at he; cases he
        have hi : i < ks.length := (List.getElem?_eq_some_iff.mp hk).1
        refine ⟨⟨hq, by omega⟩, fun x H3 y => ?_⟩
        obtain ⟨rfl, k1, w, q, y1, rfl, y2⟩ := y
        have e1 : k1 = k0.map Sum.inl := by
          have z := congrArg (fun l => l[i]?) q2
          simp only [List.getElem?_map, y1, hk, Option.map_some] at z
          exact Option.some.inj z
        subst e1
        rw [kV_ints] at y2
        obtain ⟨Hb3, s3, S3, hb3⟩ := S2.known y2
        exact ⟨Hb3, s3, S3, .key hb3, Same.refl _⟩
theorem ev_dnewT : EV K tDNewT es W (.ptr W.length) (W ++ [.dt []]) := fun F Hb H σ as S Q k p hp => by
  have g2 : Gr as (as ++ [p]) := ⟨[p], rfl⟩
  refine k _ _ _ _ g2 (Same.refl _) (S.newOwn hp ⟨[], upd_same, .nil⟩) ⟨p, ?_, rfl⟩
  rw [← S.len, List.getElem?_append_right (Nat.le_refl _)]
  simp
/-- the dict that is read -/
def DicE (W : List Cn) : En → Option (List (List Int × D))
  | .dat (.kd ks l) => some (ks.zip l)
  | .ptr i => match W[i]? with
    | some (.dt kvs) => some kvs
    | _ => none
  | _ => none
theorem KD.of_lists : ∀ {ys : List (List Key × V)} {ks : List (List Int)} {l : List D}, ys.map (·.1) = ks.map (fun k => k.map Sum.inl) → DtA K Hb (ys.map (·.2)) l → Paired (KD K Hb) ys (ks.zip l)
  | [], [], _, _, .nil => .nil
  | p :: ys, k :: ks, d :: l, h, .cons r t => by
    simp only [List.map_cons, List.cons.injEq] at h
    exact .cons ⟨h.1, r⟩ (KD.of_lists h.2 t)
theorem ST.dicE {kvs : List (List Int × D)} (S : ST K F Hb H σ es W as) (h : DicE W e = some kvs) (r : RE K Hb as v e) : ∃ a ys, v = .ref a ∧ Rd H a (.dT ys) ∧ Paired (KD K Hb) ys kvs := by
  cases e with
  | un => cases h
  | dat d =>
    cases d with
    | kd ks l =>
      cases h
      cases r with
      | kd h1 h2 h3 => exact ⟨_, _, rfl, .inr ⟨_, S.base _ _ h1⟩, KD.of_lists h2 h3⟩
    | _ => cases h
  | ptr i =>
    obtain ⟨a, h1, rfl⟩ := r
    unfold DicE at h
    cases q : W[i]? with
    | none => simp only [q] at h; cases h
    | some c =>
      simp only [q] at h
      cases c with
      | dt m =>
        cases h
        obtain ⟨_, _, ys, k3, k4⟩ := S.own i a _ h1 q rfl
        exact ⟨a, ys, rfl, .inl k3, k4⟩
      | _ => cases h
def lookT (kvs : List (List Int × D)) (k : List Int) : Option D := (kvs.find? fun kv => decide (kv.1 = k)).map (·.2)
def putT (kvs : List (List Int × D)) (k : List Int) (v : D) : List (List Int × D) :=
  if (kvs.any fun kv => decide (kv.1 = k)) = true then kvs.map (fun kv => if kv.1 = k then (kv.1, v) else kv) else kvs ++ [(k, v)]
theorem inl_inj {a b : List Int} : a.map (Sum.inl : Int → Key) = b.map Sum.inl ↔ a = b := by
  constructor
  · intro h
    have z := congrArg (List.map (fun (x : Key) => match x with | .inl i => i | .inr _ => 0)) h
    rw [List.map_map, List.map_map] at z
    have e : ∀ l : List Int, l.map ((fun (x : Key) => match x with | .inl i => i | .inr _ => 0) ∘ Sum.inl) = l := fun l => by
      have : ((fun (x : Key) => match x with | .inl i => i | .inr _ => (0 : Int)) ∘ Sum.inl) = id := rfl
      rw [this, List.map_id]
    rw [e, e] at z
    exact z
  · intro h; rw [h]
theorem lookT_paired {k : List Int} : ∀ {ys : List (List Key × V)} {kvs : List (List Int × D)}, Paired (KD K Hb) ys kvs → (lookT kvs k = none → valV ys (k.map Sum.inl) = none) ∧ ∀ d, lookT kvs k = some d → ∃ v, valV ys (k.map Sum.inl) = some v ∧ Dt K Hb v d
  | _, _, .nil => ⟨fun _ => rfl, fun d h => by simp [lookT] at h⟩
  | _, _, @Paired.cons _ _ _ p q ys kvs r t => by
    by_cases hk : q.1 = k
    · have z : lookT (q :: kvs) k = some q.2 := by simp [lookT, List.find?_cons, hk]
      rw [z]
      refine ⟨(fun h => nomatch h), fun d h => ?_⟩
      cases h
      exact ⟨p.2, valV_pos (by rw [r.1, hk]), r.2⟩
    · have z : lookT (q :: kvs) k = lookT kvs k := by simp [lookT, List.find?_cons, hk]
      rw [z]
      obtain ⟨i1, i2⟩ := lookT_paired (k := k) t
      have nk : ¬ p.1 = k.map Sum.inl := fun e => hk (inl_inj.mp (by rw [← r.1]; exact e))
      refine ⟨fun h => (valV_neg nk).trans (i1 h), fun d h => ?_⟩
      obtain ⟨v, a1, a2⟩ := i2 d h
      exact ⟨v, (valV_neg nk).trans a1, a2⟩
theorem putT_paired {k : List Int} {w : V} {ys : List (List Key × V)} {kvs : List (List Int × D)} (h : Paired (KD K Hb) ys kvs) (hw : Dt K Hb w d) : Paired (KD K Hb) (putK ys (k.map Sum.inl) w) (putT kvs k d) := by
  have hany : (ys.any fun kv => decide (kv.1 = k.map Sum.inl)) = (kvs.any fun kv => decide (kv.1 = k)) := by
    induction h with
    | nil => rfl
    | cons r t ih =>
      rw [List.any_cons, List.any_cons, ih, r.1]
      congr 1
      exact decide_eq_decide.mpr inl_inj
  unfold putK putT
  rw [hany]
  split
  · rename_i hh
    clear hany hh
    induction h with
    | nil => exact .nil
    | @cons p q ys kvs r t ih =>
      refine .cons ?_ ih
      by_cases hk : q.1 = k
      · dsimp only
        rw [if_pos hk, if_pos (by rw [r.1, hk])]; exact ⟨r.1, hw⟩
      · dsimp only
        rw [if_neg hk, if_neg (by rw [r.1]; exact fun e => hk (inl_inj.mp e))]; exact r
  · exact paired_append h (.cons ⟨rfl, hw⟩ .nil)
theorem ST.key {k : List Int} (S : ST K F Hb H σ es W as) (r : RE K Hb as v (.dat (.key k))) : ∃ b, v = .ref b ∧ H b = some (.tup ((k.map Sum.inl).map kV)) := by
  cases r with
  | key h => exact ⟨_, rfl, by rw [kV_ints]; exact S.base _ _ h⟩
theorem dgetT {a b : Addr} {ys : List (List Key × V)} {k : List Key} (e : Rd H a (.dT ys)) (eb : H b = some (.tup (k.map kV))) : DGet H a (.ref b) (valV ys k) := .inr ⟨ys, k, b, e, rfl, eb, rfl⟩
theorem ev_dgetT {k : List Int} {kvs : List (List Int × D)} (hd : EV K td es W e1 W1) (hy : EV K ty es W1 (.dat (.key k)) W2) (h : DicE W2 e1 = some kvs) (hl : lookT kvs k = some d) : EV K (tDGet td ty) es W (.dat d) W2 := fun F Hb H σ as S Q kk =>
  hd F Hb H σ as S _ fun v Hb1 H1 as1 g1 s1 S1 r1 => hy F Hb1 H1 σ as1 S1 _ fun y Hb2 H2 as2 g2 s2 S2 r2 => by
    obtain ⟨a, ys, rfl, hx, hp⟩ := S2.dicE h (RE.mono g2 s2 r1)
    obtain ⟨b, rfl, hb⟩ := S2.key r2
    obtain ⟨w, hw, rw'⟩ := (lookT_paired (k := k) hp).2 d hl
    exact ⟨a, w, rfl, hw ▸ dgetT hx hb, (kk.on (g1.trans g2) (s1.trans s2)).here S2 rw'⟩
theorem look_isSome {k : List Int} {ys : List (List Key × V)} {kvs : List (List Int × D)} (hp : Paired (KD K Hb) ys kvs) : (valV ys (k.map Sum.inl)).isSome = (lookT kvs k).isSome := by
  obtain ⟨i1, i2⟩ := lookT_paired (k := k) hp
  cases q : lookT kvs k with
  | none => rw [i1 q]; rfl
  | some d =>
    obtain ⟨v, h1, _⟩ := i2 d q
    rw [h1]; rfl
theorem ev_dinT {k : List Int} {kvs : List (List Int × D)} (hy : EV K ty es W (.dat (.key k)) W1) (hd : EV K td es W1 e1 W2) (h : DicE W2 e1 = some kvs) : EV K (tDIn ty td) es W (.dat (.bl (lookT kvs k).isSome)) W2 := fun F Hb H σ as S Q kk =>
  hy F Hb H σ as S _ fun y Hb1 H1 as1 g1 s1 S1 r1 => hd F Hb1 H1 σ as1 S1 _ fun v Hb2 H2 as2 g2 s2 S2 r2 => by
    obtain ⟨a, ys, rfl, hx, hp⟩ := S2.dicE h r2
    obtain ⟨b, rfl, hb⟩ := S2.key (RE.mono g2 s2 r1)
    refine ⟨a, _, rfl, dgetT hx hb, ?_⟩
    rw [look_isSome hp]
    exact (kk.on (g1.trans g2) (s1.trans s2)).here S2 (.bl _)
theorem ev_dget2T {k : List Int} {kvs : List (List Int × D)} (hd : EV K td es W e1 W1) (hy : EV K ty es W1 (.dat (.key k)) W2) (hx : EV K tx es W2 (.dat d) W3) (h0 : ∃ m, DicE W1 e1 = some m) (h : DicE W3 e1 = some kvs) : EV K (tDGet2 td ty tx) es W (.dat ((lookT kvs k).getD d)) W3 := fun F Hb H σ as S Q kk =>
  hd F Hb H σ as S _ fun v Hb1 H1 as1 g1 s1 S1 r1 => by
    obtain ⟨m, h0⟩ := h0
    obtain ⟨a0, ys0, e0, hx0, hp0⟩ := S1.dicE h0 r1
    refine ⟨a0, e0, .inr ⟨_, hx0⟩, hy F Hb1 H1 σ as1 S1 _ fun y Hb2 H2 as2 g2 s2 S2 r2 => hx F Hb2 H2 σ as2 S2 _ fun z Hb3 H3 as3 g3 s3 S3 r3 => ?_⟩
    obtain ⟨a, ys, e4, hx3, hp⟩ := S3.dicE h (RE.mono (g2.trans g3) (s2.trans s3) r1)
    rw [e0] at e4
    cases e4
    obtain ⟨b, rfl, hb⟩ := S3.key (RE.mono g3 s3 r2)
    refine ⟨_, dgetT hx3 hb, ?_⟩
    obtain ⟨i1, i2⟩ := lookT_paired (k := k) hp
    have k3 := kk.on ((g1.trans g2).trans g3) ((s1.trans s2).trans s3)
    cases q : lookT kvs k with
    | none => rw [i1 q]; rw [q] at k3; exact k3.here S3 r3
    | some w =>
      obtain ⟨v1, h1, h2⟩ := i2 w q
      rw [h1]; rw [q] at k3
      exact k3.here S3 h2
theorem sd_dputT {i : Nat} {k : List Int} {kvs : List (List Int × D)} {tv : TE} (hv : EV K tv es W (.dat d) W1) (hd : EV K td es W1 (.ptr i) W2) (hy : EV K ty es W2 (.dat (.key k)) W3) (h : W3[i]? = some (.dt kvs)) (hz : kvs.length < 1000000) :
    SDd K (sDPut td ty tv) es W es (W3.set i (.dt (putT kvs k d))) := fun F Hb H σ as D S kk =>
  hv F Hb H σ as S _ fun v Hb1 H1 as1 g1 s1 S1 r1 => hd F Hb1 H1 σ as1 S1 _ fun o Hb2 H2 as2 g2 s2 S2 r2 => hy F Hb2 H2 σ as2 S2 _ fun y Hb3 H3 as3 g3 s3 S3 r3 => by
    obtain ⟨a, ha, rfl⟩ := r2
    obtain ⟨b, rfl, hb⟩ := S3.key r3
    obtain ⟨_, _, ys, hx, hp⟩ := S3.own i a _ (g3.get ha) h rfl
    refine ⟨a, _, rfl, DPut.t hx hb (by rw [paired_length hp, sizeLine_eq]; omega), ?_⟩
    have hr : Dt K Hb3 v d := RE.mono (g2.trans g3) (s2.trans s3) r1
    exact (kk.nx.on ((g1.trans g2).trans g3) ((s1.trans s2).trans s3)).here (S3.write (c' := .dt (putT kvs k d)) (g3.get ha) h rfl ⟨_, upd_same, putT_paired hp hr⟩) ⟨rfl, rfl⟩
/-- keys are tuples -/
theorem ev_keyT {l : List Int} (h : EV K te es W (.dat (.key l)) W1) : EV K te es W (.dat (.tup (l.map D.int))) W1 := fun F Hb H σ as S Q k =>
  h F Hb H σ as S _ fun v Hb1 H1 as1 g1 s1 S1 r1 => by
    cases r1 with
    | key h1 => exact k _ Hb1 H1 as1 g1 s1 S1 (.tup (.inl (.inl h1)) (DtA.ints l))
theorem ev_tupK {t : TA} {l : List Int} (h : EA K t es W (l.map fun i => .dat (.int i)) W1) (hl : l.length ≤ 16777216) : EV K (tTup t) es W (.dat (.key l)) W1 := fun F Hb H σ as S Q k =>
  h F Hb H σ as S _ fun vs Hb1 H1 as1 g1 s1 S1 r1 => by
    have e : vs = l.map V.int := by
      have r1' : Paired (RE K Hb1 as1) vs ((l.map D.int).map .dat) := by rw [List.map_map]; exact r1
      exact DtA.ints_of l (DtA.of_dat (xs := vs) r1')
    subst e
    exact ⟨by rw [sizeLine_eq]; simp; omega, fun p hp => (k.on g1 s1).fresh S1 hp fun Hb2 s2 e2 => .key e2⟩
theorem ev_tupleK {l : List Int} (ha : EV K ta es W e1 W1) (hs : LstE W1 e1 = some ((l.map D.int).map .dat)) : EV K (tCB (fun xs H Q => ∃ p ys, xs = [.ref p] ∧ ((SqL K H p ys ∧ ∀ l, H l = none → Q (.ref l) (upd H l (.tup ys))) ∨ (SqT K H p ys ∧ Q (.ref p) H))) (tCons ta tNil)) es W (.dat (.key l)) W1 :=
  ev_cb1 ha fun F Hb H σ as v S r1 Q k => by
    obtain ⟨a, xs, rfl, hq, hp⟩ := S.lstE hs r1
    have e : xs = l.map V.int := DtA.ints_of l (DtA.of_dat (xs := xs) hp)
    subst e
    exact ⟨a, _, rfl, .inl ⟨hq, fun p hp' => k.fresh S hp' fun Hb2 s2 e2 => .key e2⟩⟩
end
end AS
/-! X3: dict(list of pairs) where the keys are tuples; a display of such a dict. -/
namespace XC
open PySem L2 PySem.Spec

/-- one entry of a tracked dict with tuple keys is stored -/
theorem store_dT {X : Cx} {pins : List (Addr × Obj)} {σ : L2.St} {H : Hp} {s : Shared} {m q : Addr} {kvs : List (List Key × V)} {k : List Key} {y : V} {r : Value} {B : Around} {E : Value → Shared → Prop} {Q : Unit → Shared → Prop}
    (room : B.units < cLine) (J : Inv X pins σ H s) (em : H m = some (.dT kvs)) (eq : H q = some (.tup (k.map kV))) (lt : kvs.length < sizeLine) (ry : RelV y r)
    (go : ∀ s', Inv X pins σ (upd H m (.dT (putK kvs k y))) s' → Heap.SameBut m s.heap s'.heap → Q () s') : wpAny (model X.prog X.w) B (dictSet m (.ref q) r) Q E s := by
  obtain ⟨small, ns, xs, both, isD⟩ := dt_of J.hok em
  have len : xs.length ≤ sizeLine := Paired.length both ▸ small
  have len' : (putK kvs k y).length ≤ sizeLine := Nat.le_trans (length_putK kvs k y) lt
  refine wpAny_dictSet_heap (hsz := len) room (key_of J.hok eq) isD fun g isD' but => go _ ?_ but
  obtain ⟨ob, es, ep, p1, p2, p3, p4, _, p5⟩ := isD'
  refine d_write J (em ▸ True.intro) but ⟨ob, p1⟩ ⟨len', ns, _, ?_, ob, es, ep, p1, p2, p3, p4, p5⟩
  exact (both.put k eq ry).keeps fun c ys ec => (upd_ne (ne_of ec em fun z => nomatch z)).trans ec

def mergeT (kvs more : List (List Key × V)) : List (List Key × V) := more.foldl (fun acc kv => putK acc kv.1 kv.2) kvs
/-- a pair (key tuple, value) that stands at p -/
abbrev PairT (K : PySem.W.Frag) (H : Hp) : Addr → List Key × V → Prop := fun p kv => ∃ b, SqT K H p [.ref b, kv.2] ∧ H b = some (.tup (kv.1.map kV))
theorem same_upd {H : Hp} {m : Addr} {o : HO} (h : H m = none) : Same H (upd H m o) := fun a u e => (upd_ne (ne_of_none e h)).trans e
/-- the pairs go into the new dict, one by one -/
theorem loop_dT {X : Cx} {pins : List (Addr × Obj)} {σ : L2.St} {H : Hp} {B : Around} {R : Result → Shared → Prop} {m it l : Addr} {res : Value} {ps : List Addr}
    (quiet : B.handled = none) (room : B.in1.units < cLine) (hm : H m = none) (hit : H it = none) (mi : m ≠ it) (at_ : SqL X.K H l (ps.map V.ref)) (ok : ∀ H', H' it = none → FpOk X pins H' it) :
    ∀ (more : List (List Key × V)) (i : Nat) (acc : List (List Key × V)) (ix : Int) (t : Tok) (s : Shared), Paired (PairT X.K H) (ps.drop i) more → i ≤ ps.length → acc.length + more.length ≤ sizeLine →
      Inv X pins σ (upd H m (.dT acc)) s → s.heap.IsListIter it l i → (∀ s', Inv X pins σ (upd H m (.dT (mergeT acc more))) s' → R (.ok (.ret res)) s') →
      codeAny (model X.prog X.w) B (.builtin "dict.update.loop" ⟨[.ref m, .ref it, .int ix t, res], []⟩) R s := by
  have un : ∀ acc, (upd H m (.dT acc)) it = none := fun acc => (upd_ne (Ne.symm mi)).trans hit
  intro more
  induction more with
  | nil =>
    intro i acc ix t s pr hi lz J st go
    have here : ps.length ≤ i := by
      have z := Paired.length pr
      simp only [List.length_drop, List.length_nil] at z
      omega
    obtain ⟨its, rv, pl, _⟩ := J.list (AS.same_l (same_upd hm) at_)
    have ei := refs_at rv
    subst ei
    obtain ⟨o, n, ho, hc, hd, hdat⟩ := pl
    obtain ⟨f0, f1, f2, f3, f4, f5⟩ := ok _ (un acc)
    refine codeAny_builtin ud_entry ?_
    rw [Around.under_plainId ud_plain _]
    refine wpAny_bind (wpAny_pyNext_list_end (A := B.in1) quiet st ⟨o, ho, hc, n, hdat⟩ (Array.getElem?_eq_none (by simpa using here)) fun g eb => ?_)
    refine wpAny_bind (wpAny_pure (wpAny_pure (go _ ?_)))
    exact J.turned (t' := s.toks) (fun b ob hb e => eb b ob hb e) f0 f1 f3 f4 f5
  | cons kv more ih =>
    intro i acc ix t s pr hi lz J st go
    have lt : i < ps.length := by
      have z := Paired.length pr
      simp only [List.length_drop, List.length_cons] at z
      omega
    have ed : ps.drop i = ps[i] :: ps.drop (i + 1) := List.drop_eq_getElem_cons lt
    rw [ed] at pr
    cases pr with
    | cons hp tl =>
      obtain ⟨b, hb1, hb2⟩ := hp
      rw [List.length_cons] at lz
      obtain ⟨its, rv, pl, _⟩ := J.list (AS.same_l (same_upd hm) at_)
      have ei := refs_at rv
      subst ei
      obtain ⟨o, n, ho, hc, hd, hdat⟩ := pl
      obtain ⟨f0, f1, f2, f3, f4, f5⟩ := ok _ (un acc)
      refine codeAny_builtin ud_entry ?_
      rw [Around.under_plainId ud_plain _]
      refine wpAny_bind (wpAny_pyNext_list_item (x := .ref ps[i]) st ⟨o, ho, hc, n, hdat⟩ (by simp [lt]) fun g st1 but => ?_)
      have J1 : Inv X pins σ (upd H m (.dT acc)) { s with heap := g } := J.turned (t' := s.toks) (fun b ob hb e => (but.2 b hb).trans e) f0 f1 f3 f4 f5
      obtain ⟨two, rt, isT, _⟩ := J1.tuple (AS.same_t (same_upd hm) hb1)
      obtain ⟨u, y, e2, ru, ry⟩ := vals2 rt
      subst e2
      cases (show u = Value.ref b from ru)
      obtain ⟨ot, g1, g2, g3, g4⟩ := isT
      refine wpAny_bind (wpAny_holding ?_)
      refine wpAny_bind (wpAny_tryCatch ?_)
      unfold Builtin.Dict.pairItems
      refine wpAny_bind (wpAny_typeOf (T := "tuple") ⟨ot, g1, g2⟩ ?_)
      rw [if_pos (by first | decide | rfl | simp)]
      refine wpAny_bind (wpAny_seqItems g1 g4 (wpAny_pure ?_))
      have kb : (upd H m (.dT acc)) b = some (.tup (kv.1.map kV)) := same_upd hm _ _ hb2
      refine wpAny_holding (store_dT (q := b) (k := kv.1) (y := kv.2) room J1 upd_same kb (by omega) ry fun s2 J2 but2 => ?_)
      rw [upd_upd] at J2
      have z := length_putK acc kv.1 kv.2
      refine wpAny_pure ⟨plainId_quiet ud_plain _, ih (i + 1) (putK acc kv.1 kv.2) (ix + 1) 0 s2 tl (by omega) (by omega) J2 (st1.at fun o' e => (but2.2 it (Ne.symm mi)).trans e) fun s' J' => go s' J'⟩
/-- dict(l), l a list of pairs whose keys are tuples: the new dict is locked at once, for good -/
def rDictT (K : PySem.W.Frag) : List V → Hp → VK → Prop := fun xs H Q => ∃ (l : Addr) (ps : List Addr) (kvs : List (List Key × V)), xs = [.ref l] ∧ SqL K H l (ps.map V.ref) ∧ Paired (PairT K H) ps kvs ∧
  ∀ m od, H m = none → Q (.ref m) (upd H m (.frz od (.dT (mergeT [] kvs))))
theorem call_dictT {X : Cx} (calm : X.calm = true) (hu : X.A.units + 64 < cLine) : CallR X (.type "dict") (rDictT X.K) := by
  intro pins s σ H xs us Q J rv q
  obtain ⟨l, ps, kvs, rfl, at_, pr, q⟩ := q
  obtain ⟨u, rfl, ru⟩ := vals1 rv
  cases ru
  have hh := J.ok.hd calm
  have nm : H s.heap.objs.size = none := J.hok.fresh (Nat.le_refl _)
  have J1 : Inv X pins σ (upd H s.heap.objs.size (.dT [])) { s with heap := s.heap.push { cls := .type "dict", data := .dict #[] } } :=
    J.laid (a := s.heap.objs.size) (o := .dT []) (t' := s.toks) (fun _ _ z => Heap.get?_push_of_some _ z) (Nat.le_refl _) (dt_empty s.heap J.big)
  refine callType_codes (Q₁ := fun obj s₁ => obj = .ref s.heap.objs.size ∧ s₁ = { s with heap := s.heap.push { cls := .type "dict", data := .dict #[] } }) PySem.F.kt_called_dict (PySem.F.kt_typeCall_dict_1 _) PySem.F.entry_dict_init (kt_code_dict_new _ ⟨rfl, rfl⟩) ?_
  rintro obj s₁ ⟨rfl, rfl⟩
  obtain ⟨its, r1, pl, small⟩ := J1.list (AS.same_l (same_upd nm) at_)
  have ei := refs_at r1
  subst ei
  obtain ⟨ol, n, ho, hc, hd, hdat⟩ := pl
  have ty : (s.heap.push { cls := .type "dict", data := .dict #[] }).DictOf (mixKind X.prog X.w) s.heap.objs.size [] := Heap.DictOf.new s.heap
  refine ⟨ty.typeIs, PySem.F.args_dict_init_2 _ _, ?_⟩
  unfold Builtin.«dict.__init__»
  refine wpAny_bind ?_
  unfold Builtin.Dict.selfAndRest
  refine wpAny_bind (wpAny_notOrdered_dict ty.typeIs (wpAny_pure ?_))
  show wpAny _ _ (Builtin.Dict.updateFrom "dict.__init__" s.heap.objs.size (.ref l) [] .none) _ _ _
  unfold Builtin.Dict.updateFrom
  refine wpAny_bind (wpAny_typeOf (T := "list") ⟨ol, ho, hc⟩ ?_)
  rw [if_pos (by first | decide | rfl | simp)]
  refine wpAny_bind (miss_list ho hc hdat hd hh fun g tk keep => ?_)
  rw [if_pos (show (none : Option Value).isNone = true from rfl)]
  refine wpAny_bind (wpAny_rule ?_)
  have J2 : Inv X pins σ (upd H s.heap.objs.size (.dT [])) { s with heap := g, toks := tk } := J1.kept (t' := tk) keep
  have isl : g.IsList l (ps.map Value.ref).toArray := ⟨ol, keep _ _ ho, hc, n, hdat⟩
  refine wpAny_bind (wpAny_pyIter_list isl ?_)
  have J3 : Inv X pins σ (upd H s.heap.objs.size (.dT [])) { s with heap := g.push { cls := .type "list_iterator", data := .fields #[.ref l, .int 0 0] }, toks := tk } := J2.kept (t' := tk) fun b o e => Heap.get?_push_of_some _ e
  have hlt : s.heap.objs.size < g.objs.size := Heap.lt_size (keep _ _ (Heap.get?_push_size _ rfl))
  have nit : (upd H s.heap.objs.size (.dT [])) g.objs.size = none := J2.hok.fresh (Nat.le_refl _)
  have nit' : H g.objs.size = none := (upd_ne (Nat.ne_of_gt hlt)).symm.trans nit
  have lp : kvs.length = ps.length := (Paired.length pr).symm
  have key := loop_dT (X := X) (pins := pins) (σ := σ) (H := H) (B := X.A.in1) (R := wants (fun r s₂ => r = .none ∧ EP X pins σ Q (.ref s.heap.objs.size) s₂) X.xe) (m := s.heap.objs.size) (it := g.objs.size) (l := l) (res := Value.none) (ps := ps)
    hh (by show X.A.units + 1 + 1 < cLine; omega) nm nit' (Nat.ne_of_lt hlt) at_ (fun H' e => J2.fpOk (Nat.le_refl _) e) kvs 0 [] 0 0 _ (by rw [List.drop_zero]; exact pr) (Nat.zero_le _)
    (by rw [List.length_nil, Nat.zero_add, lp]; rw [List.length_map] at small; exact small) J3 ⟨_, Heap.get?_push_size _ rfl, rfl, rfl⟩ fun s' J' => ⟨rfl, ?_⟩
  · first
      | exact wpAny_pure ⟨plainId_quiet ud_plain _, key⟩
      | exact wpAny_bind (wpAny_pure (wpAny_pure ⟨plainId_quiet ud_plain _, key⟩))
  · obtain ⟨od, J4⟩ := J'.lock upd_same True.intro
    rw [upd_upd] at J4
    exact ⟨.ref s.heap.objs.size, _, J4, rfl, q _ od nm⟩
/-- pairs whose keys are tuples -/
abbrev PairK (H : Hp) : V × V → List Key × V → Prop := fun p kv => ∃ b, p.1 = .ref b ∧ H b = some (.tup (kv.1.map kV)) ∧ p.2 = kv.2
theorem all_dT {X : Cx} {pins : List (Addr × Obj)} {σ : L2.St} {H : Hp} {B : Around} {E : Value → Shared → Prop} {m : Addr} {Q : PUnit → Shared → Prop} (room : B.units < cLine) (hm : H m = none) :
    ∀ (ps : List (V × V)) (more : List (List Key × V)) (vs : List (Value × Value)) (acc : List (List Key × V)) (s : Shared), VV ps vs → Paired (PairK H) ps more → acc.length + more.length ≤ sizeLine → Inv X pins σ (upd H m (.dT acc)) s →
      (∀ s', Inv X pins σ (upd H m (.dT (mergeT acc more))) s' → Q PUnit.unit s') →
      wpAny (model X.prog X.w) B (forIn vs PUnit.unit fun (x : Value × Value) (_ : PUnit) => (do dictSet m x.1 x.2; pure (ForInStep.yield PUnit.unit) : Sem (ForInStep PUnit))) Q E s
  | _, _, _, acc, s, .nil, .nil, _, J, go => by
    rw [List.forIn_nil]
    exact wpAny_pure (go s J)
  | _, kv :: more, (u, y) :: vs, acc, s, .cons hr rt, .cons hp pt, lz, J, go => by
    obtain ⟨b, e1, e2, e3⟩ := hp
    obtain ⟨ru, ry⟩ := hr
    rw [e1] at ru
    rw [e3] at ry
    cases (show u = Value.ref b from ru)
    rw [List.length_cons] at lz
    rw [List.forIn_cons]
    refine wpAny_bind (wpAny_bind (store_dT room J upd_same (same_upd hm _ _ e2) (by omega) ry fun s1 J1 _ => wpAny_pure ?_))
    rw [upd_upd] at J1
    have z := length_putK acc kv.1 kv.2
    exact all_dT room hm _ more vs _ s1 rt pt (by omega) J1 go
/-- a display whose keys are tuples; the new dict stands empty while the pairs are made -/
def tDispT (trs : List (TE × TE)) : TE := fun σ H Q => ∀ m, H m = none → tPairs trs σ (upd H m (.dT [])) fun ps H2 => ∃ (H3 : Hp) (kvs : List (List Key × V)), H3 m = none ∧ H2 = upd H3 m (.dT []) ∧ Paired (PairK H3) ps kvs ∧ kvs.length ≤ 15 ∧ Q (.ref m) (upd H3 m (.dT (mergeT [] kvs)))
theorem pe_dispT {X : Cx} {pos : Pos} {keys : List (Option Expr)} {values : List Expr} {trs : List (TE × TE)} (hu : X.A.units + 64 < cLine) (h : PPs X pos keys values trs) (hall : keys.all (·.isSome) = true) (hl : keys.length = values.length) (h0 : keys ≠ [])
    (h15 : keys.length ≤ 15) : PE X (.Dict keys values pos) (tDispT trs) := by
  refine ⟨fun pins s σ H Q J q => ?_⟩
  have nm : H s.heap.objs.size = none := J.hok.fresh (Nat.le_refl _)
  have J1 : Inv X pins σ (upd H s.heap.objs.size (.dT [])) { s with heap := s.heap.push { cls := .type "dict", data := .dict #[] } } :=
    J.laid (a := s.heap.objs.size) (o := .dT []) (t' := s.toks) (fun _ _ z => Heap.get?_push_of_some _ z) (Nat.le_refl _) (dt_empty s.heap J.big)
  have ln := pairTrees_length keys values X.env pos hall hl
  rw [arm_eval_Dict, zip_pairTrees keys values X.env pos hall hl, dictDisplay_pairs _ (fun he => h0 (List.length_eq_zero_iff.mp (by rw [← ln, he]; rfl))) (by omega)]
  refine wpAny_bind (wpAny_standAt (wpAny_bind ?_))
  unfold subDict
  refine wpAny_bind (wpAny_alloc ?_)
  refine wpAny_bind (wpAny_holding ?_)
  rw [if_pos (by omega)]
  refine wpAny_bind (thn (h.run pins _ σ _ _ J1 (q _ nm)) fun vs s1 ⟨ps, H2, J2, rel, H3, kvs, n3, e3, pr, small, q2⟩ => ?_)
  subst e3
  refine wpAny_holding ?_
  refine wpAny_bind (all_dT (by omega) n3 ps kvs vs [] s1 rel pr (by rw [List.length_nil, sizeLine_eq]; omega) J2 fun s' J' => wpAny_pure (wpAny_pure (wpAny_pure ⟨.ref s.heap.objs.size, _, J', rfl, q2⟩)))
/-- a value that is a dict is locked for good -/
def tFrzV (t : TE) : TE := fun σ H Q => t σ H fun v H1 => ∃ d u, v = .ref d ∧ H1 d = some u ∧ Mut (some u) ∧ ∀ od, Q v (upd H1 d (.frz od u))
theorem pe_frzV {X : Cx} {e : Expr} {t : TE} (h : PE X e t) : PE X e (tFrzV t) := by
  refine ⟨fun pins s σ H Q J q => thn (h.run pins s σ H _ J q) fun v s1 ⟨x, H1, J1, r, d, u, ex, hd, mu, go⟩ => ?_⟩
  obtain ⟨od, J2⟩ := J1.lock hd mu
  exact ⟨x, _, J2, r, go od⟩
/-- d == {} -/
def rEmT : R2 := fun x y H Q => ∃ (a b : Addr) (kvs : List (List Key × V)), x = .ref a ∧ y = .ref b ∧ Rd H a (.dT kvs) ∧ Rd H b (.dT []) ∧ Q (.bl kvs.isEmpty) H
theorem same_empty {P : Program} {w : World} {B : Around} {E : Value → Shared → Prop} {s : Shared} {nm : String} {a b : Addr} {oa ob : Obj} {ea eb : Array DictEntry} {na nb : Nat} {Q : Bool → Shared → Prop} (la : (a == sysModules) = false) (lb : (b == sysModules) = false)
    (ga : s.heap.get? a = some oa) (da : oa.data = .dict ea na) (gb : s.heap.get? b = some ob) (db : ob.data = .dict eb nb) (ez : eb.size = 0) (go : Q (decide (ea.size = 0)) s) : wpAny (model P w) B (Builtin.Dict.samePairs nm a b) Q E s := by
  unfold Builtin.Dict.samePairs Builtin.Dict.showsAll
  rw [if_neg (fun z => by rw [la] at z; cases z), if_neg (fun z => by rw [lb] at z; cases z)]
  refine wpAny_bind (wpAny_pure (wpAny_bind (wpAny_pure (wpAny_bind (wpAny_dictEntries ga da ?_)))))
  dsimp only
  refine wpAny_bind (wpAny_dictEntries gb db ?_)
  by_cases hz : ea.size = 0
  · rw [if_neg (by rw [hz, ez]; simp)]
    refine wpAny_bind (wpAny_dictEpoch ga da (wpAny_bind ?_))
    rw [Std.Legacy.Range.forIn_eq_forIn_range', hz]
    simp only [Std.Legacy.Range.size, Nat.sub_zero, Nat.add_sub_cancel, Nat.div_one, List.range'_zero, List.forIn_nil]
    refine wpAny_pure (wpAny_pure ?_)
    simpa [hz] using go
  · rw [if_pos (by rw [ez]; simpa using hz)]
    refine wpAny_bind (wpAny_rule (wpAny_pure ?_))
    simpa [hz] using go
theorem op_eqEm {X : Cx} (hu : X.A.units + 64 < cLine) : OpR X (compareOp .Eq) rEmT := by
  intro pins s σ H x y v u Q J rx ry h
  obtain ⟨a, b, kvs, rfl, rfl, ea, eb, q⟩ := h
  cases (show v = Value.ref a from rx)
  cases (show u = Value.ref b from ry)
  obtain ⟨_, na, xs, ra, da⟩ := dt_rd J.hok ea
  obtain ⟨_, nb, ys, rb, db⟩ := dt_rd J.hok eb
  cases rb
  obtain ⟨oa, ga, ia, p1, p2, p3, p4, _⟩ := id da
  obtain ⟨ob, gb, ib, r1, r2, r3, r4, _⟩ := id db
  have ta : s.TypeIs (.ref a) "dict" := ⟨oa, p1, p2.1⟩
  have tb : s.TypeIs (.ref b) "dict" := ⟨ob, r1, r2.1⟩
  have za : ga.size = kvs.length := by
    rw [Paired.length ra, ← Array.length_toList, p4, List.length_map]
  have zb : gb.size = 0 := by rw [← Array.length_toList, r4]; rfl
  refine wpAny_richCompare_same_room (op := .Eq) ta tb PySem.F.slot_dict_eq (wpAny_call_entry PySem.F.slot_dict_eq ta PySem.F.entry_dict_eq ?_ (PySem.F.args_dict_eq_2 _ _)) (by omega)
  show wpAny _ _ (Builtin.Dict.dictSlotArgs "__eq__" ⟨[.ref a, .ref b], []⟩ >>= _) _ _ s
  refine wpAny_bind ?_
  unfold Builtin.Dict.dictSlotArgs
  refine wpAny_bind (wpAny_notOrdered_dict ta (wpAny_pure (wpAny_bind (wpAny_isInstance (T := "dict") tb PySem.F.sub_dict_dict ?_))))
  simp only [Bool.not_true, Bool.false_eq_true, if_false]
  refine wpAny_bind (wpAny_pure (wpAny_bind (wpAny_pure (wpAny_bind (same_empty na nb p1 p3 r1 r3 zb (wpAny_pure ⟨_, rfl, (fun z => nomatch z), ?_⟩))))))
  refine fin_bl J q ?_
  rw [za]
  cases kvs <;> simp
end XC
/-! X4: sorted(d) of a dict whose keys are tuples of whole numbers; enumerate of a tuple. -/
namespace XC
open PySem L2 PySem.Spec PyProof.Rows

/-- tuples of whole numbers, each where it stands -/
abbrev Keyed (H : Hp) (bs : List (Addr × List Int)) : Prop := ∀ q ∈ bs, H q.1 = some (.tup (q.2.map V.int))
def rSortKT (dm : Nat) (B : Int) : List V → Hp → VK → Prop := fun xs H Q => ∃ (a : Addr) (kvs : List (List Key × V)) (ns : List (List Int)), xs = [.ref a] ∧ Rd H a (.dT kvs) ∧ kvs.map (·.1) = ns.map (fun n => n.map Sum.inl) ∧ ns.length < 64 ∧ (∀ n ∈ ns, n.length = dm ∧ TS.Bd B n) ∧
  ∀ (bs : List (Addr × List Int)) (p : Addr), (bs.map (·.2)).Perm ns → (bs.map (·.2)).Pairwise (fun m n => TS.code B m ≤ TS.code B n) → Keyed H bs → H p = none → Q (.ref p) (upd H p (.lst (bs.map fun q => V.ref q.1)))
theorem perm_refs {L : List (Addr × List Int)} : ∀ {l m : List Value}, l.Perm m → m = L.map (fun q => Value.ref q.1) → ∃ bs : List (Addr × List Int), l = bs.map (fun q => Value.ref q.1) ∧ bs.Perm L := by
  have aux : ∀ {l m : List Value}, l.Perm m → ∀ L : List (Addr × List Int), m = L.map (fun q => Value.ref q.1) → ∃ bs : List (Addr × List Int), l = bs.map (fun q => Value.ref q.1) ∧ bs.Perm L := by
    intro l m h
    induction h with
    | nil => intro L e; cases L with
      | nil => exact ⟨[], rfl, .nil⟩
      | cons a r => cases e
    | cons x _ ih => intro L e; cases L with
      | nil => cases e
      | cons a r =>
        rw [List.map_cons] at e
        injection e with e1 e2
        obtain ⟨bs, h1, h2⟩ := ih r e2
        exact ⟨a :: bs, by rw [List.map_cons, e1, h1], .cons _ h2⟩
    | swap x y l => intro L e; cases L with
      | nil => cases e
      | cons a r => cases r with
        | nil => simp at e
        | cons b r =>
          simp only [List.map_cons, List.cons.injEq] at e
          obtain ⟨e1, e2, e3⟩ := e
          exact ⟨b :: a :: r, by simp only [List.map_cons]; rw [e1, e2, e3], List.Perm.swap _ _ _⟩
    | trans _ _ ih1 ih2 => intro L e
                           obtain ⟨bs, h1, h2⟩ := ih2 L e
                           obtain ⟨cs, h3, h4⟩ := ih1 bs h1
                           exact ⟨cs, h3, h4.trans h2⟩
  intro l m h e
  exact aux h L e
theorem cr_sortKT {X : Cx} (calm : X.calm = true) {dm : Nat} {B : Int} (d1 : 1 ≤ dm) : CallR X (.builtin "sorted") (rSortKT dm B) := by
  intro pins s σ H xs us Q J rv h
  obtain ⟨a, kvs, ns, rfl, rd, hk, few, bd, q⟩ := h
  obtain ⟨u, rfl, ru⟩ := vals1 rv
  cases ru
  obtain ⟨small, low, ks, pr, o, es, ep, ho, hx, hdt, he, _⟩ := (show ObjOk X.prog X.w H s.heap a (.dT kvs) from rd.ok J.hok)
  have l1 : es.size = ks.length := size_of_entries he
  have l2 : kvs.length = ks.length := Paired.length pr
  have l3 : kvs.length = ns.length := by have z := congrArg List.length hk; simpa using z
  -- the keys with their addresses
  have both : ∀ {kvs : List (List Key × V)} {ks : List (List Key × Addr × Value)} {ns : List (List Int)}, KT H kvs ks → kvs.map (·.1) = ns.map (fun n => n.map Sum.inl) →
      ∃ L : List (Addr × List Int), L.map (·.1) = ks.map (fun x => x.2.1) ∧ L.map (·.2) = ns ∧ Keyed H L := by
    intro kvs ks ns r
    induction r generalizing ns with
    | nil => intro e; cases ns with
      | nil => exact ⟨[], rfl, rfl, fun q hq => by cases hq⟩
      | cons n r => cases e
    | @cons p x kvs ks hp t ih => intro e; cases ns with
      | nil => cases e
      | cons n r =>
        simp only [List.map_cons, List.cons.injEq] at e
        obtain ⟨L, e1, e2, e3⟩ := ih e.2
        refine ⟨(x.2.1, n) :: L, by simp only [List.map_cons]; rw [e1], by simp only [List.map_cons]; rw [e2], fun q hq => ?_⟩
        rcases List.mem_cons.mp hq with z | z
        · rw [z]
          have y := hp.2.1
          rw [e.1, AS.kV_ints] at y
          exact y
        · exact e3 q z
  obtain ⟨L, q1, q2, q3⟩ := both pr hk
  have q4 : ks.map (fun x => Value.ref x.2.1) = L.map fun q => Value.ref q.1 := by
    have z := congrArg (List.map Value.ref) q1
    rw [List.map_map, List.map_map] at z
    exact z.symm
  refine Calls.call_function_entry PyProof.Rows.kind_sorted PyProof.Rows.plain_sorted PyProof.Rows.entry_sorted (PyProof.Rows.args_sorted1 _) ?_
  unfold Builtin.«sorted»
  refine wpAny_bind (m := checkCount "sorted" 1 1 _) (wpAny_pure ?_)
  refine wpAny_bind (PySem.W.kdu_collect (A := X.A.in1) (kdl_raw low hx hdt) (J.ok.hd calm) ho (by omega) fun g tk acc kp it => ?_)
  have ea : acc.toList = L.map fun q => Value.ref q.1 := by
    rw [← q4]
    have hl : acc.toList.length = ks.length := by rw [Array.length_toList, it.1]; exact l1
    refine List.ext_getElem (by rw [List.length_map]; exact hl) fun j h1 h2 => ?_
    obtain ⟨en, hen, hv⟩ := it.2 j _ (by rw [← Array.getElem?_toList]; exact List.getElem?_eq_getElem h1)
    have qe := entry_at he j
    rw [hen] at qe
    have hj : j < ks.length := by rw [List.length_map] at h2; exact h2
    rw [List.getElem?_eq_getElem hj] at qe
    have e2 : en = entryOfKey (tupleKind (mixKind X.prog X.w)) ks[j] := Option.some.inj qe
    rw [hv, e2, List.getElem_map]
    rfl
  have J1 : Inv X pins σ H { s with heap := g, toks := tk } := J.kept kp
  have ln : acc.toList.length = ns.length := by rw [ea, List.length_map, ← q2, List.length_map]
  refine wpAny_bind (wpAny_newList ?_ (by rw [ln, sizeLine_eq]; omega))
  have hoL : (g.push (seqObj "list" acc.toList.toArray 0)).get? g.objs.size = some (seqObj "list" acc.toList.toArray 0) := Heap.get?_push_size _ rfl
  show wpAny _ _ _ _ _ { s with heap := g.push (seqObj "list" acc.toList.toArray 0), toks := tk }
  have J2 : Inv X pins σ H { s with heap := g.push (seqObj "list" acc.toList.toArray 0), toks := tk } := J1.kept fun _ _ e => Heap.get?_push_of_some _ e
  have raw : ∀ q ∈ L, TS.TupInts (g.push (seqObj "list" acc.toList.toArray 0)) (.ref q.1) q.2 := fun q hq => tupI_raw J2 (.inl (.inl (q3 q hq)))
  refine wpAny_bind (wpAny_holding (TS.call_sort_tups (s := { s with heap := g.push (seqObj "list" acc.toList.toArray 0), toks := tk }) (d := dm) (B := B) hoL (by rw [ln]; exact few) d1 (fun v hv => ?_) fun out a1 a2 => ?_))
  · rw [ea] at hv
    obtain ⟨q, hq, rfl⟩ := List.mem_map.mp hv
    exact ⟨q.2, raw q hq, bd _ (by rw [← q2]; exact List.mem_map.mpr ⟨q, hq, rfl⟩)⟩
  · obtain ⟨bs, b1, b2⟩ := perm_refs a1 ea
    have kb : Keyed H bs := fun q hq => q3 q (b2.mem_iff.mp hq)
    obtain ⟨e', he'⟩ := PyProof.Rows.sortedHeap_at (vs := acc.toList) (out := out) hoL
    have rvs : Vals (bs.map fun q => V.ref q.1) out.toList := by
      rw [b1]
      have z := vals_refs (bs.map (·.1))
      rw [List.map_map, List.map_map] at z
      exact z
    have sm : (bs.map fun q => V.ref q.1).length ≤ sizeLine := by
      rw [List.length_map, b2.length_eq, ← List.length_map (f := (·.2)), q2, sizeLine_eq]; omega
    refine wpAny_pure ⟨_, rfl, .ref g.objs.size, _, J1.laid (a := g.objs.size) (o := .lst (bs.map fun q => V.ref q.1)) (t' := tk) (fun b u e => ?_) (Nat.le_refl _) ⟨sm, out.toList, e', rvs, he'⟩, rfl, q bs _ ?_ ?_ kb (J1.hok.fresh (Nat.le_refl _))⟩
    · have hb : b < g.objs.size := Heap.lt_size e
      rw [PyProof.Rows.sortedHeap_old (Nat.ne_of_lt hb) (by rw [size_push']; exact Nat.lt_succ_of_lt hb)]
      exact Heap.get?_push_of_some _ e
    · rw [← q2]; exact b2.map _
    · rw [b1, List.pairwise_map] at a2
      rw [List.pairwise_map]
      refine List.Pairwise.imp_of_mem (fun {x y} hx hy z => ?_) a2
      rw [(raw x (b2.mem_iff.mp hx)).ints, (raw y (b2.mem_iff.mp hy)).ints] at z
      exact z
end XC
/-! AS17: dict(pairs), displays, == {}, sorted(d) for dicts with tuple keys, over the abstract state. -/
namespace AS
open PySem L2 XC
section
variable {K : PySem.W.Frag} {F Hb Hb' H H' : Hp} {σ : L2.St} {es es1 es2 : List En} {as as' : List Addr} {W W1 W2 W3 W' : List Cn} {e e1 e2 r : En} {ta tb te tc td ty to tx : TE} {d d1 d2 : D} {v : V} {P : Po} {t u : TS} {tt : TT}
/-- later entries win, the place is the first one's -/
def mergeD (kvs more : List (List Int × D)) : List (List Int × D) := more.foldl (fun acc kv => putT acc kv.1 kv.2) kvs
theorem mergeD_paired : ∀ {more : List (List Key × V)} {moreD : List (List Int × D)} {ys : List (List Key × V)} {kvs : List (List Int × D)}, Paired (KD K Hb) more moreD → Paired (KD K Hb) ys kvs → Paired (KD K Hb) (mergeT ys more) (mergeD kvs moreD)
  | _, _, _, _, .nil, h => h
  | _, _, _, _, @Paired.cons _ _ _ p q more moreE r t, h => by
    show Paired _ (mergeT (putK _ p.1 p.2) more) (mergeD (putT _ q.1 q.2) moreE)
    rw [r.1]
    exact mergeD_paired t (putT_paired h r.2)
/-- dict([(key, value), ..]) -/
theorem ev_dictT {l : List (List Int × D)} (ha : EV K ta es W e1 W1) (hs : LstE W1 e1 = some ((l.map fun q => D.tup [.key q.1, q.2]).map .dat)) : EV K (tCB (rDictT K) (tCons ta tNil)) es W (.dat (.kd ((mergeD [] l).map (·.1)) ((mergeD [] l).map (·.2)))) W1 :=
  ev_cb1 ha fun F Hb H σ as v S r1 Q k => by
    obtain ⟨a, xs, rfl, hq, hp⟩ := S.lstE hs r1
    have hp' := DtA.of_dat (xs := xs) hp
    have cut : ∀ {xs : List V} {l : List (List Int × D)}, DtA K Hb xs (l.map fun q => D.tup [.key q.1, q.2]) → ∃ (ps : List Addr) (kvs : List (List Key × V)), xs = ps.map V.ref ∧ Paired (PairT K H) ps kvs ∧ Paired (KD K Hb) kvs l := by
      intro xs l h
      induction l generalizing xs with
      | nil => cases h; exact ⟨[], [], rfl, .nil, .nil⟩
      | cons q l ih =>
        cases h with
        | cons h t =>
          obtain ⟨ps, kvs, e1, e2, e3⟩ := ih t
          subst e1
          cases h with
          | @tup p ys _ g1 g2 =>
            cases g2 with
            | cons x1 t1 => cases t1 with
              | @cons w _ _ _ x2 t2 => cases t2 with
                | nil => cases x1 with
                  | @key b _ g3 =>
                    exact ⟨p :: ps, (q.1.map Sum.inl, w) :: kvs, rfl, .cons ⟨b, same_t S.base g1, by rw [kV_ints]; exact S.base _ _ g3⟩ e2, .cons ⟨rfl, x2⟩ e3⟩
    obtain ⟨ps, kvs, rfl, g1, g2⟩ := cut hp'
    refine ⟨a, ps, kvs, rfl, hq, g1, fun m od hm => k.fresh S hm fun Hb2 s2 e2 => ?_⟩
    obtain ⟨z1, z2⟩ := KD.lists (mergeD_paired g2 .nil)
    exact .kd e2 z1 (DtA.mono s2 _ _ z2)
/-- a foreign object becomes an owned one -/
theorem ST.claim {p : Addr} {o o' : HO} {c : Cn} (S : ST K (upd F p o) Hb H σ es W as) (hF : F p = none) (nt : NT o') (hc : RC K Hb (as ++ [p]) (upd H p o') p c) : ST K F Hb (upd H p o') σ es (W ++ [c]) (as ++ [p]) := by
  have FF : ∀ a u, F a = some u → a ≠ p := fun a u e q => by subst q; rw [hF] at e; cases e
  have S2 : ST K (upd F p o') Hb (upd H p o') σ es W as := S.outset nt
  have S3 : ST K F Hb (upd H p o') σ es W as :=
    ⟨S2.base, fun b u e => S2.frm b u (by rw [upd_ne (FF b u e)]; exact e), fun b u e => S2.dis b u (by rw [upd_ne (FF b u e)]; exact e), S2.len, fun j b c q1 q2 q3 => by
      obtain ⟨k1, k2, k3⟩ := S2.own j b c q1 q2 q3
      have ne : b ≠ p := fun q => by subst q; rw [upd_same] at k2; cases k2
      rw [upd_ne ne] at k2
      exact ⟨k1, k2, k3⟩, S2.inj, S2.sl, S2.slot⟩
  exact S3.join (S2.dis p _ upd_same).1 hF hc fun j c q1 q2 q3 => by
    obtain ⟨_, k2, _⟩ := S2.own j p c q1 q2 q3
    rw [upd_same] at k2; cases k2
/-- the pairs of a display whose keys are tuples, its values data -/
def EPT (K : PySem.W.Frag) (trs : List (TE × TE)) (es : List En) (W : List Cn) (l : List (List Int × D)) (W' : List Cn) : Prop :=
  ∀ F Hb H σ as, ST K F Hb H σ es W as → ∀ Q : List (V × V) → Hp → Prop,
    (∀ ps Hb' H' as', Gr as as' → Same Hb Hb' → ST K F Hb' H' σ es W' as' → Paired (fun (p : V × V) (q : List Int × D) => Dt K Hb' p.1 (.key q.1) ∧ Dt K Hb' p.2 q.2) ps l → Q ps H') → tPairs trs σ H Q
theorem ept_nil : EPT K [] es W [] W := fun F Hb H σ as S Q k => k [] Hb H as (Gr.refl _) (Same.refl _) S .nil
theorem ept_cons {x : List Int} {trs : List (TE × TE)} {l : List (List Int × D)} (hk : EV K ta es W (.dat (.key x)) W1) (hv : EV K tb es W1 (.dat d) W2) (hr : EPT K trs es W2 l W3) : EPT K ((ta, tb) :: trs) es W ((x, d) :: l) W3 := fun F Hb H σ as S Q k =>
  hk F Hb H σ as S _ fun v Hb1 H1 as1 g1 s1 S1 r1 => hv F Hb1 H1 σ as1 S1 _ fun u Hb2 H2 as2 g2 s2 S2 r2 => hr F Hb2 H2 σ as2 S2 _ fun ps Hb3 H3 as3 g3 s3 S3 r3 =>
    k _ Hb3 H3 as3 ((g1.trans g2).trans g3) ((s1.trans s2).trans s3) S3 (.cons ⟨Dt.mono (s2.trans s3) _ _ r1, Dt.mono s3 _ _ r2⟩ r3)
theorem ev_dispT {trs : List (TE × TE)} {l : List (List Int × D)} (h : EPT K trs es W l W1) (hl : l.length ≤ 15) : EV K (tDispT trs) es W (.ptr W1.length) (W1 ++ [.dt (mergeD [] l)]) := fun F Hb H σ as S Q k p hp =>
  h (upd F p (.dT [])) Hb (upd H p (.dT [])) σ as (S.outside hp (fun _ e => nomatch e)) _ fun ps Hb1 H1 as1 g1 s1 S1 r1 => by
    have hF : F p = none := S.frm.free hp
    have hH : H1 p = some (.dT []) := S1.frm p _ upd_same
    let H3 : Hp := fun b => if b = p then none else H1 b
    have e3 : H1 = upd H3 p (.dT []) := by
      funext b
      by_cases hb : b = p
      · rw [hb, upd_same]; exact hH
      · rw [upd_ne hb]; exact (if_neg hb).symm
    have n3 : H3 p = none := if_pos rfl
    have ne3 : ∀ b, b ≠ p → H3 b = H1 b := fun b hb => if_neg hb
    have cut : ∀ {ps : List (V × V)} {l : List (List Int × D)}, Paired (fun (p : V × V) (q : List Int × D) => Dt K Hb1 p.1 (.key q.1) ∧ Dt K Hb1 p.2 q.2) ps l → ∃ kvs : List (List Key × V), Paired (PairK H3) ps kvs ∧ Paired (KD K Hb1) kvs l := by
      intro ps l r
      induction r with
      | nil => exact ⟨[], .nil, .nil⟩
      | @cons a b x y r t ih =>
        obtain ⟨kvs, z1, z2⟩ := ih
        obtain ⟨r1, r2⟩ := r
        obtain ⟨a1, a2⟩ := a
        cases r1 with
        | @key q _ g =>
          have gq := S1.base _ _ g
          have nq : q ≠ p := fun z => by rw [z, hH] at gq; cases gq
          exact ⟨(b.1.map Sum.inl, a2) :: kvs, .cons ⟨q, rfl, by rw [ne3 q nq, kV_ints]; exact gq, rfl⟩ z1, .cons ⟨rfl, r2⟩ z2⟩
    obtain ⟨kvs, z1, z2⟩ := cut r1
    refine ⟨H3, kvs, n3, e3, z1, by rw [paired_length z2]; exact hl, ?_⟩
    have eu : upd H3 p (.dT (mergeT [] kvs)) = upd H1 p (.dT (mergeT [] kvs)) := by rw [e3, upd_upd]
    rw [eu]
    have S4 := S1.claim (o' := .dT (mergeT [] kvs)) (c := .dt (mergeD [] l)) hF (fun _ e => nomatch e) ⟨_, upd_same, mergeD_paired z2 .nil⟩
    refine k (.ref p) Hb1 _ (as1 ++ [p]) (g1.trans ⟨[p], rfl⟩) s1 S4 ⟨p, ?_, rfl⟩
    rw [← S1.len, List.getElem?_append_right (Nat.le_refl _)]
    simp
/-- an owned dict as a value becomes data -/
theorem ev_frzV {i : Nat} {kvs : List (List Int × D)} (h : EV K te es W (.ptr i) W1) (h2 : W1[i]? = some (.dt kvs)) : EV K (tFrzV te) es W (.dat (.kd (kvs.map (·.1)) (kvs.map (·.2)))) (W1.set i .gone) := fun F Hb H σ as S Q k =>
  h F Hb H σ as S _ fun v Hb1 H1 as1 g1 s1 S1 r1 => by
    obtain ⟨a, g2, rfl⟩ := r1
    obtain ⟨ys, q1, q2⟩ := S1.freezeT g2 h2
    refine ⟨a, _, rfl, q1, trivial, fun od => ?_⟩
    obtain ⟨Hb', s2, S2, hd⟩ := q2 od
    exact (k.on g1 (s1.trans s2)).here S2 hd
/-- d == {} -/
theorem ev_emT {kvs : List (List Int × D)} (ha : EV K ta es W e1 W1) (h : DicE W1 e1 = some kvs) : EV K (tOp rEmT ta tDNewT) es W (.dat (.bl kvs.isEmpty)) (W1 ++ [.dt []]) :=
  fun F Hb H σ as S Q k => ha F Hb H σ as S _ fun v Hb1 H1 as1 g1 s1 S1 r1 p hp => by
    obtain ⟨a, ys, rfl, hx, hpp⟩ := S1.dicE h r1
    have g2 : Gr as1 (as1 ++ [p]) := ⟨[p], rfl⟩
    have S2 := S1.newOwn (c := .dt []) hp ⟨[], upd_same, .nil⟩
    have na : a ≠ p := fun z => by
      rcases hx with z2 | ⟨_, z2⟩ <;> (rw [z, hp] at z2; cases z2)
    have hx' : Rd (upd H1 p (.dT [])) a (.dT ys) := by
      rcases hx with z2 | ⟨o, z2⟩
      · exact .inl (by rw [upd_ne na]; exact z2)
      · exact .inr ⟨o, by rw [upd_ne na]; exact z2⟩
    refine ⟨a, p, ys, rfl, rfl, hx', .inl upd_same, ?_⟩
    have e : ys.isEmpty = kvs.isEmpty := by
      cases hpp with
      | nil => rfl
      | cons r t => rfl
    rw [e]
    exact (k.on (g1.trans g2) s1).here S2 (.bl _)
/-- sorted(d): told by a function that sorts -/
theorem ev_sortKT {dm : Nat} {B : Int} {kvs : List (List Int × D)} {ms : List (List Int)} (ha : EV K ta es W e1 W1) (h : DicE W1 e1 = some kvs) (few : kvs.length < 64) (bd : ∀ q ∈ kvs, q.1.length = dm ∧ _root_.TS.Bd B q.1)
    (hm : ∀ ns : List (List Int), ns.Perm (kvs.map (·.1)) → ns.Pairwise (fun m n => _root_.TS.code B m ≤ _root_.TS.code B n) → ns = ms) : EV K (tCB (rSortKT dm B) (tCons ta tNil)) es W (.dat (.lst (ms.map D.key))) W1 :=
  ev_cb1 ha fun F Hb H σ as v S r1 Q k => by
    obtain ⟨a, ys, rfl, hx, hp⟩ := S.dicE h r1
    obtain ⟨z1, z2⟩ := KD.lists hp
    refine ⟨a, ys, kvs.map (·.1), rfl, hx, z1, by rw [List.length_map]; exact few, fun n hn => ?_, fun bs p b1 b2 b3 b4 => ?_⟩
    · obtain ⟨q, hq, rfl⟩ := List.mem_map.mp hn
      exact bd q hq
    · have em := hm _ b1 b2
      have join : ∀ (bs : List (Addr × List Int)) (Hb : Hp), ST K F Hb H σ es W1 as → Keyed H bs → ∃ Hb', Same Hb Hb' ∧ ST K F Hb' H σ es W1 as ∧ DtA K Hb' (bs.map fun q => V.ref q.1) (bs.map fun q => D.key q.2) := by
        intro bs
        induction bs with
        | nil => intro Hb S _; exact ⟨Hb, Same.refl _, S, .nil⟩
        | cons q bs ih =>
          intro Hb S kb
          obtain ⟨Hb1, s1, S1, k1⟩ := S.known (kb q (by simp))
          obtain ⟨Hb2, s2, S2, k2⟩ := ih Hb1 S1 fun r hr => kb r (by simp [hr])
          exact ⟨Hb2, s1.trans s2, S2, .cons (.key (s2 _ _ k1)) k2⟩
      obtain ⟨Hb2, s2, S2, k2⟩ := join bs Hb S b3
      have e : bs.map (fun q => D.key q.2) = ms.map D.key := by rw [← em, List.map_map]; rfl
      rw [e] at k2
      exact (k.on (Gr.refl _) s2).fresh S2 b4 fun Hb3 s3 e3 => .lst e3 (DtA.mono s3 _ _ k2)
end
end AS
/-! X5: zip and enumerate over lists and tuples in any mix. -/
namespace XC
open PySem PySem.Spec PyProof.Rows L2
/-- a list (true) or a tuple (false) that is read -/
def SqX (K : PySem.W.Frag) (H : Hp) (k : Bool) (a : Addr) (xs : List V) : Prop := match k with
  | true => SqL K H a xs
  | false => SqT K H a xs
def RawX (k : Bool) (h : Heap) (a : Addr) (its : Array Value) : Prop := match k with
  | true => h.IsList a its
  | false => h.IsTuple a its
def CurX (k : Bool) (h : Heap) (it a : Addr) (i : Nat) : Prop := match k with
  | true => h.IsListIter it a i
  | false => h.IsTupleIter it a i
def newX (k : Bool) (a : Addr) : Obj := match k with
  | true => { cls := .type "list_iterator", data := .fields #[.ref a, .int 0 0] }
  | false => { cls := .type "tuple_iterator", data := .fields #[.ref a, .int 0 0] }
theorem CurX.at {k : Bool} {h h' : Heap} {it a : Addr} {i : Nat} (c : CurX k h it a i) (q : ∀ o, h.get? it = some o → h'.get? it = some o) : CurX k h' it a i := by
  cases k with
  | true => exact Heap.IsListIter.at c q
  | false => exact Heap.IsTupleIter.at c q
theorem CurX.obj {k : Bool} {h : Heap} {it a : Addr} {i : Nat} (c : CurX k h it a i) : ∃ o, h.get? it = some o ∧ ∃ fs, o.data = .fields fs := by
  cases k with
  | true => obtain ⟨o, h1, _, h2⟩ := c; exact ⟨o, h1, _, h2⟩
  | false => obtain ⟨o, h1, _, h2⟩ := c; exact ⟨o, h1, _, h2⟩
theorem CurX.new {k : Bool} {h : Heap} {it a : Addr} (e : h.get? it = some (newX k a)) : CurX k h it a 0 := by
  cases k with
  | true => exact ⟨_, e, rfl, rfl⟩
  | false => exact ⟨_, e, rfl, rfl⟩
theorem drawX {prog : Program} {w : World} {A : Around} (hh : A.handled = none) (k : Bool) (it a : Addr) (ne : a ≠ it) (its : Array Value) :
    Draws prog w A it [it, a] its.size (fun i v => its[i]? = some v) (fun i h => CurX k h it a i ∧ RawX k h a its) := by
  cases k with
  | true => exact Draws.list hh it a ne its
  | false => exact Draws.tuple hh it a ne its
/-- gone through -/
theorem endX {prog : Program} {w : World} {A : Around} (hh : A.handled = none) (k : Bool) (it a : Addr) (its : Array Value) (i : Nat) (hn : its[i]? = none) :
    Draws prog w A it [it, a] i (fun _ _ => False) (fun j h => j = i ∧ CurX k h it a j ∧ RawX k h a its) where
  live := fun _ _ st => by
    obtain ⟨o, ho, _⟩ := CurX.obj st.2.1
    exact ⟨o, ho⟩
  frame := fun _ _ _ st hk => by
    refine ⟨st.1, st.2.1.at fun o e => hk it (by simp) o e, ?_⟩
    have q := st.2.2
    cases k with
    | true => exact Heap.IsList.at q fun o e => hk a (by simp) o e
    | false => exact Heap.IsTuple.at q fun o e => hk a (by simp) o e
  item := fun j s Q E hi st hQ => absurd st.1 (Nat.ne_of_lt hi)
  done := fun s Q E st hE => by
    obtain ⟨_, c, r⟩ := st
    cases k with
    | true => exact wpAny_nextOf_list_end hh c r hn hE
    | false => exact RZ.nextOf_tuple_end hh c r hn hE
theorem startX (k : Bool) (a : Addr) (its : Array Value) : Begins (.ref a) (newX k a) fun h => RawX k h a its := by
  cases k with
  | true => exact begins_list a its
  | false => exact begins_tuple a its
section
variable {X : Cx} {pins : List (Addr × Obj)} {σ : L2.St} {H : Hp} {s : Shared} {a b : Addr} {xs ys : List V} {k k2 : Bool}
theorem SqX.raw (I : Inv X pins σ H s) (h : SqX X.K H k a xs) : ∃ its : List Value, Vals xs its ∧ RawX k s.heap a its.toArray ∧ a < s.heap.objs.size := by
  cases k with
  | true =>
    obtain ⟨its, rv, p, _⟩ := I.list h
    exact ⟨its, rv, p.isList, p.lt⟩
  | false =>
    obtain ⟨its, rv, p, _⟩ := I.tuple h
    obtain ⟨o, ho, _⟩ := id p
    exact ⟨its, rv, p, Heap.lt_size ho⟩
theorem SqX.inj (I : Inv X pins σ H s) (h : SqX X.K H k a xs) (h2 : SqX X.K H k a ys) : xs = ys := by
  cases k with
  | true => exact I.list_inj h h2
  | false => exact I.tuple_inj h h2
end
/-! ### enumerate -/
def IteX (K : PySem.W.Frag) (k : Bool) (a : Addr) : It :=
  ⟨fun i H => ∃ (xs : List V) (x : V), SqX K H k a xs ∧ xs[i]? = some x,
    fun i H v H' => ∃ T x, v = .ref T ∧ H T = none ∧ H' = upd H T (.tup [.int (i : Nat), x]) ∧ ∀ xs, SqX K H k a xs → xs[i]? = some x,
    fun i H => ∃ xs : List V, SqX K H k a xs ∧ xs.length ≤ i⟩
theorem turnEX {P : Program} {w : World} {K : PySem.W.Frag} {elts : List Expr} {kk : Nat} {tpos : Pos} (k : Bool) (a e it : Addr) :
    Turn P w K (.Tuple elts kk tpos) (IteX K k a) [e, it] e (fun i h => (∃ old, IsEnum h e it ((i : Nat) : Int) old) ∧ CurX k h it a i ∧ e ≠ it ∧ e ≠ a ∧ a ≠ it) where
  mem := by simp
  obj := fun i h st c hc => by
    obtain ⟨⟨old, he⟩, cu, _⟩ := st
    rcases (by simpa using hc : c = e ∨ c = it) with z | z
    · rw [z]; exact ⟨_, he, (fun v q => nomatch q)⟩
    · obtain ⟨o, h1, fs, h2⟩ := cu.obj
      rw [z]; exact ⟨o, h1, fun v q => by rw [h2] at q; cases q⟩
  keep := fun i h h' st kp => by
    obtain ⟨⟨old, he⟩, cu, n1, n2, n3⟩ := st
    exact ⟨⟨old, kp e (by simp) _ he⟩, cu.at fun o q => kp it (by simp) o q, n1, n2, n3⟩
  item := by
    intro X hP hw hK hc i pins s σ H E I hf st hg
    subst hP hw hK
    obtain ⟨⟨old, he⟩, cu, n1, n2, n3⟩ := st
    obtain ⟨xs, x, hq, hx⟩ := hg
    obtain ⟨its, rv, p, lt⟩ := SqX.raw I hq
    obtain ⟨u, hu, ru⟩ := rv.get hx
    have hel : e < s.heap.objs.size := Heap.lt_size he
    have hil : it < s.heap.objs.size := by obtain ⟨o, q, _⟩ := cu.obj; exact Heap.lt_size q
    have hi : i < its.toArray.size := by
      have := (List.getElem?_eq_some_iff.mp hu).1
      simpa using this
    have hu' : its.toArray[i]? = some u := by simpa using hu
    refine wpAny_pyNext_enum_itemD (drawX (A := X.A.in1) (show X.A.in1.handled = none from I.ok.hd hc) k it a n3 its.toArray) he ⟨cu, p⟩ hi n1 (by simp [n1, n2]) fun y h' tk hP ho hcur hT hsz hk => ?_
    have ey : y = u := by rw [hu'] at hP; exact (Option.some.inj hP).symm
    subst ey
    refine ⟨_, rfl, wpAny_letOwnedTupleGo_enum (s := { s with heap := h', toks := tk + 1 }) ho fun h2 he2 sb => ?_⟩
    have hT2 : h2.get? s.heap.objs.size = some { cls := .type "tuple", data := .seq #[.int i tk, y] } := (sb.2 _ (Nat.ne_of_gt hel)).trans hT
    have fr : H s.heap.objs.size = none := I.hok.fresh (Nat.le_refl _)
    have new : ObjOk X.prog X.w (upd H s.heap.objs.size (.tup [.int (i : Nat), x])) h2 s.heap.objs.size (.tup [.int (i : Nat), x]) :=
      ⟨by show 2 ≤ sizeLine; decide, [.int i tk, y], .cons ⟨_, rfl⟩ (.cons ru .nil), ⟨_, hT2, rfl, _, rfl⟩⟩
    have kp : ∀ c o, c ∉ [e, it] → s.heap.get? c = some o → h2.get? c = some o := fun c o hb q => by
      have c1 : c ≠ e := fun z => hb (by simp [z])
      have c2 : c ≠ it := fun z => hb (by simp [z])
      exact (sb.2 c c1).trans (hk c o c1 c2 q)
    have I1 : Inv X pins σ (upd H s.heap.objs.size (.tup [.int (i : Nat), x])) { s with heap := h2, toks := tk + 1 } := I.turnedNew (ch := [e, it]) kp hf (Nat.le_refl _) new
    refine ⟨.ref s.heap.objs.size, _, I1, rfl, ⟨_, x, rfl, fr, rfl, fun zs hz => by rw [SqX.inj I hz hq]; exact hx⟩, ⟨⟨y, ?_⟩, hcur.1.at fun o q => (sb.2 it (Ne.symm n1)).trans q, n1, n2, n3⟩, fun c hcm => ?_⟩
    · rw [show ((i + 1 : Nat) : Int) = (i : Int) + 1 by omega]; exact he2
    · have lt' : c < s.heap.objs.size := by
        rcases (by simpa using hcm : c = e ∨ c = it) with z | z
        · rw [z]; exact hel
        · rw [z]; exact hil
      rw [upd_ne (Nat.ne_of_lt lt')]
      exact (hf c hcm).1
  done := by
    intro X hP hw hK hc i pins s σ H E I hf st hg
    subst hP hw hK
    obtain ⟨⟨old, he⟩, cu, n1, n2, n3⟩ := st
    obtain ⟨xs, hq, hx⟩ := hg
    obtain ⟨its, rv, p, lt⟩ := SqX.raw I hq
    obtain ⟨f0, f1, f2, f3, f4, f5⟩ := hf it (by simp)
    have hl := rv.length
    have none' : its.toArray[i]? = none := by simp; omega
    cases k with
    | true => exact wpAny_pyNext_enum_end (I.ok.hd hc) he cu p none' fun h' eb => ⟨rfl, I.turned (t' := s.toks) (fun c o hb q => eb c o hb q) f0 f1 f3 f4 f5⟩
    | false =>
      have hT : s.TypeIs (.ref e) "enumerate" := ⟨_, he, rfl⟩
      unfold pyNext
      refine wpAny_bind (wpAny_attempt (wpAny_callSpecial?_slot (name := Str.ofString "__next__") hT F.slot_enumerate_next (wpAny_call_entry F.slot_enumerate_next hT F.entry_enumerate_next ?_ (F.args_enumerate_next_1 _))))
      show wpAny _ _ (field (.ref e) 2 >>= _) _ _ _
      refine wpAny_bind (wpAny_field he rfl (x := .ref it) rfl ?_)
      refine wpAny_bind (RZ.nextOf_tuple_end (I.ok.hd hc) cu p none' fun h' x eb hx' => ?_)
      obtain ⟨o, ho, hcl⟩ := hx'
      refine wpAny_bind (wpAny_isInstance (T := "StopIteration") (b := true) ⟨o, ho, hcl⟩ isSubtype_stop ?_)
      exact wpAny_pure ⟨rfl, I.turned (t' := s.toks) (fun c o hb q => eb c o hb q) f0 f1 f3 f4 f5⟩
  self := fun A i s Q E st h => by
    obtain ⟨⟨old, he⟩, _⟩ := st
    exact wpAny_pyIter_enum he h
set_option maxHeartbeats 4000000 in
theorem meetsEX (k : Bool) (a : Addr) (its : Array Value) :
    Meets (Builtin.«enumerate.__new__» ⟨[.type "enumerate", .ref a], []⟩) (fun _ R s => RawX k s.heap a its ∧
      R (.ok (.ret (.ref (s.heap.push (newX k a)).objs.size))) { s with heap := (s.heap.push (newX k a)).push { cls := .type "enumerate", data := .fields #[.none, .bool false, .ref s.heap.objs.size, rawInt 0, .none, .none] } }) :=
  .of_wp fun prog w A R s h => by
    obtain ⟨hp, g, d, tk, os⟩ := s
    obtain ⟨raw, h⟩ := h
    have hsub := sub_enumerate
    have go : ∀ {A' : Around} {E Q : Value → Shared → Prop}, Q (.ref hp.objs.size) ⟨hp.push (newX k a), g, d, tk, os⟩ → wpAny (model prog w) A' (pyIter (.ref a)) Q E ⟨hp, g, d, tk, os⟩ :=
      fun q => (startX k a its).iter prog w _ _ ⟨hp, g, d, tk, os⟩ _ raw q
    wp_walk using go
    refine wpAny_stack_any (fun st => wpAny_pure ?_)
    split
    · rename_i c _ _ _ _ _
      cases (c == Value.type "enumerate") <;> (wp_walk using go; exact ⟨_, rfl, h⟩)
    · wp_walk using go
      exact ⟨_, rfl, h⟩
theorem callEX {prog : Program} {w : World} {A : Around} {E Q : Value → Shared → Prop} {s : Shared} {k : Bool} {a : Addr} {its : Array Value} (raw : RawX k s.heap a its)
    (h : ∀ h', IsEnum h' (s.heap.objs.size + 1) s.heap.objs.size 0 .none → h'.get? s.heap.objs.size = some (newX k a) → (∀ b o, s.heap.get? b = some o → h'.get? b = some o) → Q (.ref (s.heap.objs.size + 1)) { s with heap := h' }) :
    wpAny (model prog w) A (call (.type "enumerate") [.ref a]) Q E s := by
  refine callType_new F.called_enumerate (by decide) (F.typeCall_enumerate_1 _) (F.newCall_enumerate_1 _) (fun obj => F.args_object_init_2 obj _) F.entry_enumerate_new (meetsEX k a its) ⟨raw, ?_⟩
  have hz : (s.heap.push (newX k a)).objs.size = s.heap.objs.size + 1 := Heap.size_push ..
  have hf : (newX k a).isFreed = false := (startX k a its).free
  show _ ∧ _
  rw [hz]
  have he : IsEnum ((s.heap.push (newX k a)).push { cls := .type "enumerate", data := .fields #[.none, .bool false, .ref s.heap.objs.size, rawInt 0, .none, .none] }) (s.heap.objs.size + 1) s.heap.objs.size 0 .none := by
    have z := Heap.get?_push_size (s.heap.push (newX k a)) (o := { cls := .type "enumerate", data := .fields #[.none, .bool false, .ref s.heap.objs.size, rawInt 0, .none, .none] }) rfl
    rw [hz] at z
    exact z
  exact ⟨⟨_, he, rfl⟩, h _ he (Heap.get?_push_of_some _ (Heap.get?_push_size _ hf)) fun b o x => Heap.get?_push_of_some _ (Heap.get?_push_of_some _ x)⟩
def iEnX (K : PySem.W.Frag) (ta : TA) : TI := fun σ H R => ta σ H fun vs H1 => ∃ k a xs, vs = [.ref a] ∧ SqX K H1 k a xs ∧ R (IteX K k a) H1
theorem pi_enX {X : Cx} {e : Expr} {ta : TA} {p pos tpos : Pos} {elts : List Expr} {kk : Nat} (hg : Gl X "enumerate") (hm : X.mg "enumerate" = none) (ha : PA X [e] ta) (hs : starEach [e] X.env = [(false, eval e X.env)] := by rfl) :
    PI X (.Tuple elts kk tpos) (.Call (.Name "enumerate" p) [e] [] pos) (iEnX X.K ta) := by
  refine ⟨fun pins s σ H R I h => ?_⟩
  refine Call_ (ld_blt I hg hm boot_enumerate (PyProof.Rows.callWith_type1 (thn (ha.run pos pins s σ H _ I h) fun us s1 ⟨vs, H1, I1, r1, q1⟩ => ?_) hs rfl))
  obtain ⟨k, a, xs, rfl, hq, q⟩ := q1
  cases r1 with
  | cons r rr =>
    cases rr
    cases r
    obtain ⟨its, rv, raw, lt⟩ := SqX.raw I1 hq
    refine callEX raw fun h' he hn hk => wpAny_pyIter_enum he ?_
    have I2 : Inv X pins σ H1 { s1 with heap := h' } := I1.kept (t' := s1.toks) hk
    have na : s1.heap.objs.size + 1 ≠ a := fun z => by have : a < s1.heap.objs.size := lt; rw [← z] at this; exact absurd this (by exact Nat.not_lt.mpr (Nat.le_succ _))
    refine ⟨s1.heap.objs.size + 1, [s1.heap.objs.size + 1, s1.heap.objs.size], _, _, H1, rfl, I2, turnEX k a (s1.heap.objs.size + 1) s1.heap.objs.size, ⟨⟨.none, he⟩, CurX.new hn, Nat.succ_ne_self _, na, Nat.ne_of_lt lt⟩, fun b hb => ?_, q⟩
    have hle : s1.heap.objs.size ≤ b := by
      rcases (by simpa using hb : b = s1.heap.objs.size + 1 ∨ b = s1.heap.objs.size) with z | z
      · rw [z]; exact Nat.le_succ _
      · rw [z]; exact Nat.le_refl _
    exact I1.fpOk hle (I1.hok.fresh hle)
/-! ### zip -/
def ItzX (K : PySem.W.Frag) (k k2 : Bool) (a b : Addr) : It :=
  ⟨fun i H => ∃ (xs ys : List V) (x y : V), SqX K H k a xs ∧ SqX K H k2 b ys ∧ xs[i]? = some x ∧ ys[i]? = some y,
    fun i H v H' => ∃ T x y, v = .ref T ∧ H T = none ∧ H' = upd H T (.tup [x, y]) ∧ (∀ xs, SqX K H k a xs → xs[i]? = some x) ∧ ∀ ys, SqX K H k2 b ys → ys[i]? = some y,
    fun i H => ∃ xs ys : List V, SqX K H k a xs ∧ SqX K H k2 b ys ∧ (xs.length ≤ i ∨ ys.length ≤ i)⟩
theorem turnZX {P : Program} {w : World} {K : PySem.W.Frag} {elts : List Expr} {kk : Nat} {tpos : Pos} {k k2 : Bool} {a b z TI TO i1 i2 : Addr} (S : ZipSep2 z TI TO i1 i2 [i1, a] [i2, b]) (ni : i1 ≠ i2) :
    Turn P w K (.Tuple elts kk tpos) (ItzX K k k2 a b) [z, TI, TO, i1, i2] z (fun i h => IsZip h z TI TO .none ∧ IsPair h TI (.ref i1) (.ref i2) ∧ (∃ x y, IsPair h TO x y) ∧ CurX k h i1 a i ∧ CurX k2 h i2 b i ∧ a ≠ i1 ∧ b ≠ i2) where
  mem := by simp
  obj := fun i h st c hc => by
    obtain ⟨hz, hTI, ⟨x, y, hTO⟩, c1, c2, _⟩ := st
    rcases (by simpa using hc : c = z ∨ c = TI ∨ c = TO ∨ c = i1 ∨ c = i2) with q | q | q | q | q
    · rw [q]; exact ⟨_, hz, (fun v q => nomatch q)⟩
    · rw [q]; exact ⟨_, hTI, (fun v q => nomatch q)⟩
    · rw [q]; exact ⟨_, hTO, (fun v q => nomatch q)⟩
    · obtain ⟨o, e1, fs, e2⟩ := c1.obj
      rw [q]; exact ⟨o, e1, fun v q => by rw [e2] at q; cases q⟩
    · obtain ⟨o, e1, fs, e2⟩ := c2.obj
      rw [q]; exact ⟨o, e1, fun v q => by rw [e2] at q; cases q⟩
  keep := fun i h h' st kp => by
    obtain ⟨hz, hTI, ⟨x, y, hTO⟩, c1, c2, n⟩ := st
    exact ⟨kp z (by simp) _ hz, kp TI (by simp) _ hTI, ⟨x, y, kp TO (by simp) _ hTO⟩, c1.at (fun o q => kp i1 (by simp) o q), c2.at (fun o q => kp i2 (by simp) o q), n⟩
  item := by
    intro X hP hw hK hc i pins s σ H E I hf st hg
    subst hP hw hK
    obtain ⟨hz, hTI, ⟨x0, y0, hTO⟩, c1, c2, n1, n2⟩ := st
    obtain ⟨xs, ys, x, y, hqx, hqy, hx, hy⟩ := hg
    obtain ⟨its, rv, p, _⟩ := SqX.raw I hqx
    obtain ⟨its2, rv2, p2, _⟩ := SqX.raw I hqy
    obtain ⟨u, hu, ru⟩ := rv.get hx
    obtain ⟨u2, hu2, ru2⟩ := rv2.get hy
    have hzl : z < s.heap.objs.size := Heap.lt_size hz
    have hi1 : i < its.toArray.size := by have := (List.getElem?_eq_some_iff.mp hu).1; simpa using this
    have hi2 : i < its2.toArray.size := by have := (List.getElem?_eq_some_iff.mp hu2).1; simpa using this
    refine wpAny_pyNext_zipD2_item S (drawX (A := X.A.in1) (show X.A.in1.handled = none from I.ok.hd hc) k i1 a n1 its.toArray) (drawX (A := X.A.in1) (show X.A.in1.handled = none from I.ok.hd hc) k2 i2 b n2 its2.toArray) hz hTI hTO ⟨c1, p⟩ ⟨c2, p2⟩ hi1 hi2 fun v1 v2 h' tk e1 e2 z' TO' d1 d2 hT hsz hk => ?_
    have q1 : v1 = u := by
      have : its.toArray[i]? = some u := by simpa using hu
      rw [this] at e1; exact (Option.some.inj e1).symm
    have q2 : v2 = u2 := by
      have : its2.toArray[i]? = some u2 := by simpa using hu2
      rw [this] at e2; exact (Option.some.inj e2).symm
    subst q1 q2
    refine ⟨_, rfl, wpAny_letOwnedTupleGo_zip (s := { s with heap := h', toks := tk }) z' fun h2 z2 sb => ?_⟩
    have hT2 : h2.get? s.heap.objs.size = some { cls := .type "tuple", data := .seq #[v1, v2] } := (sb.2 _ (Nat.ne_of_gt hzl)).trans hT
    have new : ObjOk X.prog X.w (upd H s.heap.objs.size (.tup [x, y])) h2 s.heap.objs.size (.tup [x, y]) :=
      ⟨by show 2 ≤ sizeLine; decide, [v1, v2], .cons ru (.cons ru2 .nil), ⟨_, hT2, rfl, _, rfl⟩⟩
    have kp : ∀ c o, c ∉ [z, TI, TO, i1, i2] → s.heap.get? c = some o → h2.get? c = some o := fun c o hb q => by
      have m1 : c ≠ z := fun e => hb (by simp [e])
      have m2 : c ≠ TO := fun e => hb (by simp [e])
      have m3 : c ≠ i1 := fun e => hb (by simp [e])
      have m4 : c ≠ i2 := fun e => hb (by simp [e])
      exact (sb.2 c m1).trans (hk c o m1 m2 m3 m4 q)
    have I1 : Inv X pins σ (upd H s.heap.objs.size (.tup [x, y])) { s with heap := h2, toks := tk } := I.turnedNew (ch := [z, TI, TO, i1, i2]) kp hf (Nat.le_refl _) new
    refine ⟨.ref s.heap.objs.size, _, I1, rfl, ⟨_, x, y, rfl, I.hok.fresh (Nat.le_refl _), rfl, fun l hl => by rw [SqX.inj I hl hqx]; exact hx, fun l hl => by rw [SqX.inj I hl hqy]; exact hy⟩, ⟨z2, ?_, ⟨v1, v2, ?_⟩, d1.1.at ?_, d2.1.at ?_, n1, n2⟩, fun c hcm => ?_⟩
    · exact (sb.2 _ S.TIz).trans (hk _ _ S.TIz S.TITO S.TIi1 S.TIi2 hTI)
    · exact (sb.2 _ S.TOz).trans TO'
    · exact fun o q => (sb.2 _ (Ne.symm S.zi1)).trans q
    · exact fun o q => (sb.2 _ (Ne.symm S.zi2)).trans q
    · have lt' : c < s.heap.objs.size := by
        rcases (by simpa using hcm : c = z ∨ c = TI ∨ c = TO ∨ c = i1 ∨ c = i2) with q | q | q | q | q
        · rw [q]; exact hzl
        · rw [q]; exact Heap.lt_size hTI
        · rw [q]; exact Heap.lt_size hTO
        · obtain ⟨o, e, _⟩ := c1.obj; rw [q]; exact Heap.lt_size e
        · obtain ⟨o, e, _⟩ := c2.obj; rw [q]; exact Heap.lt_size e
      rw [upd_ne (Nat.ne_of_lt lt')]
      exact (hf c hcm).1
  done := by
    intro X hP hw hK hc i pins s σ H E I hf st hg
    subst hP hw hK
    obtain ⟨hz, hTI, ⟨x0, y0, hTO⟩, c1, c2, n1, n2⟩ := st
    obtain ⟨xs, ys, hqx, hqy, g⟩ := hg
    obtain ⟨its, rv, p, _⟩ := SqX.raw I hqx
    obtain ⟨its2, rv2, p2, _⟩ := SqX.raw I hqy
    have l1 := rv.length
    have l2 := rv2.length
    have h0 : X.A.in1.handled = none := I.ok.hd hc
    have fin : ∀ (h' : Heap) (tk : Nat), (∀ c o, c ≠ z → c ≠ TO → c ≠ i1 → c ≠ i2 → s.heap.get? c = some o → h'.get? c = some o) → Inv X pins σ H { s with heap := h', toks := tk } := fun h' tk hk =>
      I.turnedL (t' := tk) (h' := h') (ch := [z, TI, TO, i1, i2]) (fun c o hb q => hk c o (fun e => hb (by simp [e])) (fun e => hb (by simp [e])) (fun e => hb (by simp [e])) (fun e => hb (by simp [e])) q) hf
    by_cases e1 : its.toArray[i]? = none
    · by_cases e2 : its2.toArray[i]? = none
      · exact wpAny_pyNext_zipD2_end S (endX h0 k i1 a its.toArray i e1) (endX h0 k2 i2 b its2.toArray i e2) hz hTI hTO ⟨rfl, c1, p⟩ ⟨rfl, c2, p2⟩ (Nat.le_refl _) (Nat.le_refl _) (.inl rfl) fun h' tk hk => ⟨rfl, fin h' tk hk⟩
      · exact wpAny_pyNext_zipD2_end S (endX h0 k i1 a its.toArray i e1) (drawX h0 k2 i2 b n2 its2.toArray) hz hTI hTO ⟨rfl, c1, p⟩ ⟨c2, p2⟩ (Nat.le_refl _) (by simp at e2 ⊢; omega) (.inl rfl) fun h' tk hk => ⟨rfl, fin h' tk hk⟩
    · have e2 : its2.toArray[i]? = none := by simp at e1 ⊢; omega
      exact wpAny_pyNext_zipD2_end S (drawX h0 k i1 a n1 its.toArray) (endX h0 k2 i2 b its2.toArray i e2) hz hTI hTO ⟨c1, p⟩ ⟨rfl, c2, p2⟩ (by simp at e1 ⊢; omega) (Nat.le_refl _) (.inr rfl) fun h' tk hk => ⟨rfl, fin h' tk hk⟩
  self := fun A i s Q E st h => wpAny_pyIter_zip st.1 h
def iZiX (K : PySem.W.Frag) (ta : TA) : TI := fun σ H R => ta σ H fun vs H1 => ∃ k k2 a b xs ys, vs = [.ref a, .ref b] ∧ SqX K H1 k a xs ∧ SqX K H1 k2 b ys ∧ R (ItzX K k k2 a b) H1
theorem pi_ziX {X : Cx} {e e2 : Expr} {ta : TA} {p pos tpos : Pos} {elts : List Expr} {kk : Nat} (hg : Gl X "zip") (hm : X.mg "zip" = none) (ha : PA X [e, e2] ta)
    (hs : starEach [e, e2] X.env = (false, eval e X.env) :: starEach [e2] X.env := by rfl) (hpl : (backTo pos (starEach [e2] X.env)).any (·.1) = false := by rfl) :
    PI X (.Tuple elts kk tpos) (.Call (.Name "zip" p) [e, e2] [] pos) (iZiX X.K ta) := by
  refine ⟨fun pins s σ H R I h => ?_⟩
  refine Call_ (ld_blt I hg hm PyProof.Rows.boot_zip (PyProof.Rows.callWith_type1 (thn (ha.run pos pins s σ H _ I h) fun us s1 ⟨vs, H1, I1, r1, q1⟩ => ?_) hs hpl))
  obtain ⟨k, k2, a, b, xs, ys, rfl, hqx, hqy, q⟩ := q1
  cases r1 with
  | cons r rr => cases rr with
    | cons r' rr =>
      cases rr
      cases r
      cases r'
      obtain ⟨its, rv, p1, la⟩ := SqX.raw I1 hqx
      obtain ⟨its2, rv2, p2, lb⟩ := SqX.raw I1 hqy
      refine zip_begins2 (startX k a its.toArray) (startX k2 b its2.toArray) p1 p2 fun h' hz hTI hTO h1 h2 hsz hk => wpAny_pyIter_zip hz ?_
      have I2 : Inv X pins σ H1 { s1 with heap := h' } := I1.kept (t' := s1.toks) hk
      have sep := zip_sep2 (N := s1.heap.objs.size) (fp1 := [a]) (fp2 := [b]) (by simpa using la) (by simpa using lb)
      refine ⟨s1.heap.objs.size + 4, [s1.heap.objs.size + 4, s1.heap.objs.size + 2, s1.heap.objs.size + 3, s1.heap.objs.size, s1.heap.objs.size + 1], _, _, H1, rfl, I2, turnZX sep (Nat.ne_of_lt (Nat.lt_succ_self _)), ⟨hz, hTI, ⟨_, _, hTO⟩, CurX.new h1, CurX.new h2, Nat.ne_of_lt la, Nat.ne_of_lt (Nat.lt_succ_of_lt lb)⟩, fun c hcm => ?_, q⟩
      have hle : s1.heap.objs.size ≤ c := by
        rcases (by simpa using hcm : c = s1.heap.objs.size + 4 ∨ c = s1.heap.objs.size + 2 ∨ c = s1.heap.objs.size + 3 ∨ c = s1.heap.objs.size ∨ c = s1.heap.objs.size + 1) with z | z | z | z | z
        · rw [z]; exact Nat.le_add_right _ _
        · rw [z]; exact Nat.le_add_right _ _
        · rw [z]; exact Nat.le_add_right _ _
        · rw [z]; exact Nat.le_refl _
        · rw [z]; exact Nat.le_add_right _ _
      exact I1.fpOk hle (I1.hok.fresh hle)
end XC
/-! X6: != by an own __eq__ that says True; tuple * 1. -/
namespace XC
open PySem PySem.Spec PyProof.Rows L2
section
variable {M : Model} {prog : Program} {w : World} {A : Around} {E : Value → Shared → Prop} {s : Shared} {K : PySem.W.Frag} {x y C f : Addr} {ox : Obj} {od : Option Obj}
theorem bound_ne {args : List Value} {Q : Option Value → Shared → Prop} (kin : K.In s.heap) (I : PySem.W.InstAt s.heap x ox C od) (hs : PySem.W.findIn K (.ref C) "__ne__" = some (some (.builtin "object.__ne__")))
    (h : wpAny M A (call (.builtin "object.__ne__") (.ref x :: args)) (fun v => Q (some v)) E s) : wpAny M A (callSpecialIfBound? (.ref x) "__ne__" args) Q E s := by
  have fin : wpAny M A (call (.builtin "object.__ne__") ([.ref x] ++ args) >>= fun v => pure (some v)) Q E s := wpAny_bind (wpAny_mono h (fun _ _ z => wpAny_pure z) (fun _ _ z => z))
  simp only [callSpecialIfBound?, bindSpecialIfBound?]
  refine wpAny_holding (wpAny_bind (wpAny_bind (wpAny_bind (I.type.here ((PySem.W.looks_findIn kin hs).here (wpAny_bind (wpAny_askSetting (wpAny_ite ?_))))))))
  split
  · exact wpAny_bind (wpAny_of_eq (F.cmp_object.ne.bind _) (wpAny_pure (by exact fin)))
  · exact wpAny_tryCatch (wpAny_bind (wpAny_of_eq (F.cmp_object.ne.bind _) (wpAny_pure (by exact fin))))
theorem body_ne {Q : Fin → Shared → Prop} (hu : A.units < cLine) (kin : K.In s.heap) (I : PySem.W.InstAt s.heap x ox C od) (hs : PySem.W.findIn K (.ref C) "__eq__" = some (some (.ref f))) (hf : PySem.W.isFn K (.ref f) = true)
    (hcall : wpAny M A (call (.ref f) [.ref x, .ref y]) (fun v s' => v = .bool true ∧ Q (.done (.ret (.bool false))) s') E s) : wpAny M A (Builtin.«object.__ne__» ⟨[.ref x, .ref y], []⟩) Q E s := by
  unfold Builtin.«object.__ne__»
  have one : wpAny M A (callSpecialIfBound? (.ref x) (Str.ofString "__eq__") [.ref y]) (fun r s' => r = some (.bool true) ∧ Q (.done (.ret (.bool false))) s') E s :=
    PySem.W.ifBound_K kin I hs hf (wpAny_mono hcall (fun v s' z => ⟨by rw [z.1], z.2⟩) (fun _ _ z => z))
  repeat (first
    | with_reducible refine wpAny_cRoomFor hu ?_
    | (refine wpAny_bind (m := callSpecialIfBound? (.ref x) (Str.ofString "__eq__") [.ref y]) (wpAny_mono one (fun r s' z => by
        obtain ⟨rfl, hq⟩ := z
        repeat (first | exact hq | exact wpAny_pure hq | (refine wpAny_bind (m := truthy (.bool _)) (wpAny_truthy_bool ?_)) | wp_step)) (fun _ _ z => z)))
    | wp_step)
theorem rich_ne {Q : Value → Shared → Prop} (hu : A.units + 1 < cLine) (kin : K.In s.heap) (I : PySem.W.InstAt s.heap x ox C od) {oy : Obj} {od' : Option Obj} (J : PySem.W.InstAt s.heap y oy C od') (hm : PySem.W.mroIn K C (.type "object") = some true)
    (hn : PySem.W.findIn K (.ref C) "__ne__" = some (some (.builtin "object.__ne__"))) (hs : PySem.W.findIn K (.ref C) "__eq__" = some (some (.ref f))) (hf : PySem.W.isFn K (.ref f) = true)
    (hcall : wpAny (model prog w) A.in1 (call (.ref f) [.ref x, .ref y]) (fun v s' => v = .bool true ∧ Q (.bool false) s') E s) : wpAny (model prog w) A (richCompare .NotEq (.ref x) (.ref y)) Q E s := by
  have one : wpAny (model prog w) A (tryCompare (.ref x) "__ne__" (.ref y)) (fun r s' => r = some (.bool false) ∧ Q (.bool false) s') E s := by
    unfold tryCompare
    refine wpAny_bind (bound_ne kin I hn (wpAny_call (codeAny_call_builtin F.cmp_object.ne.plain F.cmpEntry_ne (PySem.W.check_slot F.cmpKind_ne F.cmpSplit_ne (I.type.andThen (PySem.W.looks_mroIn kin hm)) (F.cmpArgs_ne _ _) (body_ne (A := A.in1) hu kin I hs hf (wpAny_mono hcall (fun v s' z => ⟨z.1, ?_⟩) (fun _ _ z => z)))))))
    exact wpAny_pure ⟨rfl, z.2⟩
  unfold richCompare
  simp only [oneThing_ref]
  refine wpAny_holding (wpAny_bind (wpAny_cRoomFor (Nat.lt_of_succ_lt hu) ?_))
  rw [cmpInfo_NotEq]
  dsimp only
  refine wpAny_bind (I.type.here (wpAny_bind (J.type.here ?_)))
  rw [show (Value.ref C != Value.ref C) = false from by simp]
  simp only [Bool.false_eq_true, if_false]
  refine wpAny_bind (wpAny_pure ?_)
  simp only [Bool.false_eq_true, if_false]
  refine wpAny_bind (wpAny_mono one (fun r s' z => ?_) (fun _ _ z => z))
  obtain ⟨rfl, hq⟩ := z
  first | exact wpAny_pure hq | exact wpAny_pure (wpAny_pure hq)
end
section
variable {X : Cx} {n : Nat}
def rNeG (D : Eqv) : R2 := fun x y H Q => D x y H ∧ ∀ H', Ext H H' → Q (.bl false) H'
/-- x != y of two instances whose own == says True -/
theorem op_neIns {CX : CXT} {C f : Addr} {fd : FuncData} {ps : List Str} {R : Addr → Addr → Hp → Prop} {E : XK} (F : FnOk X.prog X.w X.K X.mg X.base CX n f fd ps (spEq R)) (hm : PySem.W.mroIn X.K C (.type "object") = some true)
    (hn : PySem.W.findIn X.K (.ref C) "__ne__" = some (some (.builtin "object.__ne__"))) (hs : PySem.W.findIn X.K (.ref C) "__eq__" = some (some (.ref f))) (hf : PySem.W.isFn X.K (.ref f) = true) (hb : Binds X.K fd ps []) (hx : Passes CX X E) (hr : Room (n + 1) X.A) :
    OpR X (compareOp .NotEq) (rNeG (DIns C R)) := by
  intro pins s σ H x y v u Q I rx ry hq
  obtain ⟨⟨a, b, dx, dy, fs, gs, rfl, rfl, ha, hb', r⟩, q⟩ := hq
  cases rx
  cases ry
  obtain ⟨mA, J, _⟩ := ins_get I.hok ha
  obtain ⟨mB, J', _⟩ := ins_get I.hok hb'
  obtain ⟨od, J, _⟩ := J.look
  obtain ⟨od', J', _⟩ := J'.look
  have sb : Sub X n X.A.in1 := Sub.in1 ⟨hr, rfl⟩
  show wpAny (model X.prog X.w) X.A (richCompare .NotEq (.ref a) (.ref b)) (EP X pins σ Q) X.xe s
  refine rich_ne (by have := hr.un; omega) I.kIn J J' hm hn hs hf ?_
  have hsp : spEq R [.ref a, .ref b] H (fun v H' => v = .bl true ∧ Ext H H') E := ⟨a, b, rfl, r, fun H' e => ⟨rfl, e⟩⟩
  have e0 : Env0 X.prog X.w X.K X.mg X.base X.A.in1 X.stack s H := by
    have e := I.env0
    exact ⟨by rw [sb.fr]; exact e.frames, e.mod, e.bs, e.bsz, e.funs, e.frf, e.hok, e.bare⟩
  have r2 : Vals [V.ref a, V.ref b] [Value.ref a, Value.ref b] := .cons rfl (.cons rfl .nil)
  have hl := F.len _ _ _ _ hsp
  refine wpAny_call (codeAny_mono (F.run X.A.in1 X.stack s H ⟨[.ref a, .ref b], []⟩ [.ref a, .ref b] [.ref a, .ref b] _ E sb.room e0 (by
    have := hb s [.ref a, .ref b] I.kIn (by simpa using hl)
    simpa using this) r2 hsp) fun r s' z => ?_)
  cases r with
  | error e => exact hx pins σ H s e s' I z
  | ok fl =>
    cases fl with
    | ret w =>
      obtain ⟨z, H', I', rz, ez, ex⟩ := I.after z
      subst ez
      cases rz
      exact ⟨rfl, .bl false, H', I', rfl, q H' ex⟩
    | next => exact False.elim z
    | brk => exact False.elim z
    | cont => exact False.elim z
/-- t * 1 is t; t * k is new -/
def rRep1 (K : PySem.W.Frag) : R2 := fun x y H Q => ∃ l xs, x = .ref l ∧ y = .int 1 ∧ SqT K H l xs ∧ xs ≠ [] ∧ Q (.ref l) H
theorem mul_one (l : Addr) (items : Array Value) (n : Nat) (dd : Option Addr) (sl : Array (Option Value)) (u : Tok) :
    Meets (Builtin.«tuple.__mul__» ⟨[.ref l, .int 1 u], []⟩) (fun _ R s => s.heap.get? l = some { cls := .type "tuple", dict := dd, data := .seq items n, slots := sl } ∧ R (.ok (.ret (.ref l))) s) :=
  .of_wp fun prog w A R s h => by
    obtain ⟨hp, g, d, tk, os⟩ := s
    obtain ⟨hl, h⟩ := h
    have f1 := AutoSeq1.idx_int
    wp_walk using AutoSeq1.wpAny_loadPart' hl
    repeat (first
      | (refine wpAny_ite_true (decide_eq_true (by simp)) ?_; wp_walk using AutoSeq1.wpAny_loadPart' hl)
      | (refine wpAny_ite_false (by decide) ?_; wp_walk using AutoSeq1.wpAny_loadPart' hl))
    exact ⟨_, rfl, h⟩
theorem op_rep1 : OpR X (binaryOp .Mult) (rRep1 X.K) := by
  intro pins s σ H x y v u Q I rx ry h
  obtain ⟨l, xs, rfl, rfl, hT, hne, q⟩ := h
  cases rx
  obtain ⟨t, rfl⟩ := ry
  obtain ⟨its, r, ⟨⟨cls, dd, data, sl⟩, ho, hc, n, hd⟩, hs⟩ := I.tuple hT
  simp only at hc hd
  subst hc hd
  exact wpAny_binaryOp_repeat_ref (T := "tuple") (U := "int") (by decide) ⟨_, ho, rfl⟩ (fun s' => typeIs_int s' 1 t) noFill_tuple_mul F.fills_int_mul F.slot_int_rmul repeat_tuple F.slot_int_index.lookup
    (call_meets F.slot_int_rmul (typeIs_int s 1 t) F.entry_int_rmul (F.args_int_rmul_2 _ _) (int_rmul_tuple 1 t l its.toArray n dd sl)
      ⟨ho, rfl, ⟨_, ho, rfl⟩, call_meets F.slot_tuple_mul ⟨_, ho, rfl⟩ F.entry_tuple_mul (F.args_tuple_mul_2 _ _) (mul_one l its.toArray n dd sl t) ⟨ho, .ref l, H, I, rfl, q⟩⟩)
def rRepX (K : PySem.W.Frag) : R2 := fun x y H Q => rRepT K x y H Q ∨ rRep1 K x y H Q
theorem op_repX : OpR X (binaryOp .Mult) (rRepX X.K) := OpR.or op_repT op_rep1
end
end XC
/-! AS18: zip and enumerate in any mix, min, tuples that are joined, instances of own classes. -/
namespace AS
open PySem L2 XC
section
variable {K : PySem.W.Frag} {F Hb Hb' H H' : Hp} {σ : L2.St} {es es1 es2 : List En} {as as' : List Addr} {W W1 W2 W3 W' : List Cn} {e e1 e2 r : En} {ta tb te tc td ty to tx : TE} {d d1 d2 : D} {v : V} {P : Po} {t u : TS} {tt : TT}
/-- a list or tuple that is data -/
def SqD : D → Option (List D)
  | .lst l => some l
  | .rl l => some l
  | .tup l => some l
  | .key l => some (l.map D.int)
  | _ => none
theorem Dt.sqx {l : List D} (r : Dt K Hb v d) (h : SqD d = some l) : ∃ k a xs, v = .ref a ∧ DtA K Hb xs l ∧ ∀ H, Same Hb H → SqX K H k a xs := by
  cases r with
  | @lst a xs _ h1 h2 => cases h; exact ⟨true, a, xs, rfl, h2, fun H s => SqL.of (s _ _ h1)⟩
  | @rl a xs _ h1 h2 => cases h; exact ⟨true, a, xs, rfl, h2, fun H s => same_l s h1⟩
  | @tup a xs _ h1 h2 => cases h; exact ⟨false, a, xs, rfl, h2, fun H s => same_t s h1⟩
  | @key a l h1 => cases h; exact ⟨false, a, _, rfl, DtA.ints l, fun H s => .inl (.inl (s _ _ h1))⟩
  | _ => cases h
def enE (l : List D) : List En := l.zipIdx.map fun p => .dat (.tup [.int (p.2 : Nat), p.1])
theorem enE_length {l : List D} : (enE l).length = l.length := by simp [enE]
theorem enE_of {l : List D} {i : Nat} (h : (enE l)[i]? = some e) : ∃ x, l[i]? = some x ∧ e = .dat (.tup [.int (i : Nat), x]) := by
  unfold enE at h
  rw [List.getElem?_map, List.getElem?_zipIdx] at h
  cases q : l[i]? with
  | none => rw [q] at h; simp at h
  | some x => rw [q] at h; simp at h; exact ⟨x, rfl, h.symm⟩
theorem ei_enX {tA : TA} {l : List D} (h : EA K tA es W [.dat d] W1) (hs : SqD d = some l) : EI K (iEnX K tA) es W (enE l) (fun _ => True) W1 := fun F Hb H σ as S R k =>
  h F Hb H σ as S _ fun vs Hb1 H1 as1 g1 s1 S1 r1 => by
    cases r1 with
    | @cons v _ _ _ a1 t1 => cases t1 with
      | nil =>
        obtain ⟨kd, a, xs, rfl, hp, hq⟩ := Dt.sqx (d := d) a1 hs
        refine ⟨kd, a, xs, rfl, hq _ S1.base, k _ Hb1 H1 as1 g1 s1 S1 fun i F2 Hb2 H2 σ2 es2 W2 as2 S2 s2 g2 _ => ?_⟩
        have c : SqX K H2 kd a xs := hq _ (s2.trans S2.base)
        have p2 : DtA K Hb2 xs l := DtA.mono s2 _ _ hp
        refine ⟨fun e he => ?_, fun hi => ⟨xs, c, by rw [enE_length] at hi; rw [hp.length]; exact hi⟩⟩
        obtain ⟨x, hx, rfl⟩ := enE_of he
        obtain ⟨w, hw, dw⟩ := p2.get hx
        refine ⟨⟨xs, w, c, hw⟩, fun y H3 hy => ?_⟩
        obtain ⟨T, y0, rfl, hT, rfl, f1⟩ := hy
        have e1 := f1 xs c
        rw [hw] at e1; cases e1
        obtain ⟨S3, s3⟩ := S2.new (o := .tup [.int (i : Nat), w]) hT
        exact ⟨_, s3, S3, .tup (.inl (.inl upd_same)) (.cons (.int _) (.cons (Dt.mono s3 _ _ dw) .nil)), fun c o q => by rw [upd_ne (ne_of_none q hT)]; exact q⟩
theorem ei_ziX {tA : TA} {l m : List D} (h : EA K tA es W [.dat d1, .dat d2] W1) (hs1 : SqD d1 = some l) (hs2 : SqD d2 = some m) : EI K (iZiX K tA) es W (zipE l m) (fun _ => True) W1 := fun F Hb H σ as S R k =>
  h F Hb H σ as S _ fun vs Hb1 H1 as1 g1 s1 S1 r1 => by
    cases r1 with
    | @cons v _ _ _ a1 t1 => cases t1 with
      | @cons v2 _ _ _ a2 t2 => cases t2 with
        | nil =>
          obtain ⟨kd, a, xs, rfl, hp, hq⟩ := Dt.sqx (d := d1) a1 hs1
          obtain ⟨kd2, b, ys, rfl, hp2, hq2⟩ := Dt.sqx (d := d2) a2 hs2
          refine ⟨kd, kd2, a, b, xs, ys, rfl, hq _ S1.base, hq2 _ S1.base, k _ Hb1 H1 as1 g1 s1 S1 fun i F2 Hb2 H2 σ2 es2 W2 as2 S2 s2 g2 _ => ?_⟩
          have c1 : SqX K H2 kd a xs := hq _ (s2.trans S2.base)
          have c2 : SqX K H2 kd2 b ys := hq2 _ (s2.trans S2.base)
          have p1 : DtA K Hb2 xs l := DtA.mono s2 _ _ hp
          have p2 : DtA K Hb2 ys m := DtA.mono s2 _ _ hp2
          refine ⟨fun e he => ?_, fun hi => ⟨xs, ys, c1, c2, ?_⟩⟩
          · obtain ⟨x, y, hx, hy, rfl⟩ := zipE_of he
            obtain ⟨w, hw, dw⟩ := p1.get hx
            obtain ⟨w2, hw2, dw2⟩ := p2.get hy
            refine ⟨⟨xs, ys, w, w2, c1, c2, hw, hw2⟩, fun z H3 hz => ?_⟩
            obtain ⟨T, x0, y0, rfl, hT, rfl, f1, f2⟩ := hz
            have q1 := f1 xs c1
            have q2 := f2 ys c2
            rw [hw] at q1; rw [hw2] at q2; cases q1; cases q2
            obtain ⟨S3, s3⟩ := S2.new (o := .tup [w, w2]) hT
            exact ⟨_, s3, S3, .tup (.inl (.inl upd_same)) (.cons (Dt.mono s3 _ _ dw) (.cons (Dt.mono s3 _ _ dw2) .nil)), fun c o q => by rw [upd_ne (ne_of_none q hT)]; exact q⟩
          · have l1 := hp.length
            have l2 := hp2.length
            simp [zipE] at hi
            omega
/-- min(xs) of whole numbers -/
theorem ev_min {ns : List Int} {m : Int} (ha : EV K ta es W e1 W1) (hs : LstE W1 e1 = some ((ns.map D.int).map .dat)) (hm : m ∈ ns) (hle : ∀ y ∈ ns, m ≤ y) : EV K (tCB (rMin K) (tCons ta tNil)) es W (.dat (.int m)) W1 :=
  ev_cb1 ha fun F Hb H σ as v S r1 Q k => by
    obtain ⟨p, xs, rfl, hq, hp⟩ := S.lstE hs r1
    have e : xs = ns.map V.int := DtA.ints_of ns (DtA.of_dat (xs := xs) hp)
    subst e
    refine ⟨p, ns, rfl, hq, List.length_pos_of_mem hm, fun m' h1 h2 => ?_⟩
    have : m' = m := by
      have a1 := h2 m hm
      have a2 := hle m' h1
      omega
    subst this
    exact k.here S (.int _)
theorem dta_nil {xs : List V} {l : List D} (h : DtA K Hb xs l) : xs = [] ↔ l = [] := by
  cases h <;> simp
/-- t + u, tuples of data -/
theorem ev_catT {l m : List D} (ha : EV K ta es W (.dat (.tup l)) W1) (hb : EV K tb es W1 (.dat (.tup m)) W2) (hl : l.length + m.length ≤ 16777216) : EV K (tOp (rAddX K) ta tb) es W (.dat (.tup (l ++ m))) W2 :=
  ev_op2 ha hb fun F Hb H σ as v u S r1 r2 Q k => by
    cases r1 with
    | @tup a xs _ h1 h2 => cases r2 with
      | @tup b ys _ h3 h4 =>
        refine .inr (.inr (.inl ⟨a, b, xs, ys, rfl, rfl, same_t S.base h1, same_t S.base h3, by rw [h2.length, h4.length, sizeLine_eq]; omega, fun e => ?_, fun e0 e => ?_, fun e1 e2 p hp => ?_⟩))
        · rw [dta_nil h2] at e; subst e
          exact k.here S (.tup h3 h4)
        · rw [dta_nil h4] at e; subst e
          rw [List.append_nil] at k
          exact k.here S (.tup h1 h2)
        · exact k.fresh S hp fun Hb2 s2 e2 => .tup (.inl (.inl e2)) (DtA.mono s2 _ _ (h2.append h4))
/-- .. of whole numbers, as keys -/
theorem ev_catK {l m : List Int} (ha : EV K ta es W (.dat (.key l)) W1) (hb : EV K tb es W1 (.dat (.key m)) W2) (hl : l.length + m.length ≤ 16777216) : EV K (tOp (rAddX K) ta tb) es W (.dat (.key (l ++ m))) W2 :=
  ev_op2 ha hb fun F Hb H σ as v u S r1 r2 Q k => by
    cases r1 with
    | @key a _ h1 => cases r2 with
      | @key b _ h3 =>
        refine .inr (.inr (.inl ⟨a, b, _, _, rfl, rfl, .inl (.inl (S.base _ _ h1)), .inl (.inl (S.base _ _ h3)), by simp [sizeLine_eq]; omega, fun e => ?_, fun e0 e => ?_, fun e1 e2 p hp => ?_⟩))
        · have e : l = [] := by simpa using e
          subst e
          exact k.here S (.key h3)
        · have e : m = [] := by simpa using e
          subst e
          rw [List.append_nil] at k
          exact k.here S (.key h1)
        · exact k.fresh S hp fun Hb2 s2 e2 => .key (by rw [e2, List.map_append])
/-- (x,) * n -/
theorem ev_repK {i : Int} {n : Nat} (ha : EV K ta es W (.dat (.key [i])) W1) (hb : EV K tb es W1 (.dat (.int n)) W2) (h1 : 1 ≤ n) (h2 : n ≤ 1000) : EV K (tOp (rRepX K) ta tb) es W (.dat (.key (List.replicate n i))) W2 :=
  ev_op2 ha hb fun F Hb H σ as v u S r1 r2 Q k => by
    cases r2
    cases r1 with
    | @key a _ hk =>
      have hH : SqT K H a [V.int i] := .inl (.inl (S.base _ _ hk))
      by_cases e : n = 1
      · subst e
        exact .inr ⟨a, _, rfl, rfl, hH, by simp, k.here S (.key hk)⟩
      · refine .inl ⟨a, n, _, rfl, rfl, hH, by simp, by omega, by omega, by simp, fun p hp => k.fresh S hp fun Hb2 s2 e2 => .key ?_⟩
        rw [e2]
        congr 2
        have : ((n : Int).toNat) = n := by omega
        rw [this]
        have aux : ∀ m : Nat, (List.replicate m [V.int i]).flatten = (List.replicate m i).map V.int := by
          intro m
          induction m with
          | zero => rfl
          | succ m ih => rw [List.replicate_succ, List.flatten_cons, ih, List.replicate_succ, List.map_cons]; rfl
        exact aux n
/-! ### instances -/
theorem look_fs {ns : List Str} : ∀ {fs : List (Str × V)} {ls : List D} {f : Str}, fs.map (·.1) = ns → DtA K Hb (fs.map (·.2)) ls → (ns.zip ls).lookup f = some d → ∃ v, fs.lookup f = some v ∧ Dt K Hb v d := by
  induction ns with
  | nil => intro fs ls f h1 h2 h3; simp at h3
  | cons n ns ih =>
    intro fs ls f h1 h2 h3
    cases fs with
    | nil => simp at h1
    | cons p fs =>
      simp only [List.map_cons, List.cons.injEq] at h1
      cases h2 with
      | @cons _ _ d0 ds r t =>
        obtain ⟨rfl, h1⟩ := h1
        rw [List.zip_cons_cons, List.lookup_cons] at h3
        cases q : f == p.1 with
        | true => rw [q] at h3; cases h3; exact ⟨p.2, by rw [List.lookup_cons, q], r⟩
        | false =>
          rw [q] at h3
          obtain ⟨v, a1, a2⟩ := ih h1 t h3
          exact ⟨v, by rw [List.lookup_cons, q]; exact a1, a2⟩
theorem ev_fld {C : Addr} {ns : List Str} {ls : List D} {f : Str} (h : EV K te es W (.dat (.obj C ns ls)) W1) (hc : Cls K C) (hn : NoAttr K C f) (hl : (ns.zip ls).lookup f = some d) : EV K (tFld K te f) es W (.dat d) W1 := fun F Hb H σ as S Q k =>
  h F Hb H σ as S _ fun v Hb1 H1 as1 g1 s1 S1 r1 => by
    cases r1 with
    | @obj a _ dx fs _ _ q1 q2 q3 =>
      obtain ⟨w, z1, z2⟩ := look_fs q2 q3 hl
      exact ⟨a, C, dx, fs, w, rfl, S1.base _ _ q1, hc, hn, z1, (k.on g1 s1).here S1 z2⟩
def putFE (f : Str) (e : En) : List (Str × En) → List (Str × En)
  | [] => [(f, e)]
  | (g, x) :: r => if g = f then (g, e) :: r else (g, x) :: putFE f e r
theorem putF_paired {f : Str} {y : V} (hy : RE K Hb as y e) : ∀ {ys : List (Str × V)} {fs : List (Str × En)}, Paired (fun (p : Str × V) (q : Str × En) => p.1 = q.1 ∧ RE K Hb as p.2 q.2) ys fs → Paired (fun (p : Str × V) (q : Str × En) => p.1 = q.1 ∧ RE K Hb as p.2 q.2) (putF f y ys) (putFE f e fs)
  | _, _, .nil => .cons ⟨rfl, hy⟩ .nil
  | _, _, @Paired.cons _ _ _ p q ys fs r t => by
    obtain ⟨g, x⟩ := p
    obtain ⟨g', x'⟩ := q
    obtain ⟨r1, r2⟩ := r
    have r1 : g = g' := r1
    subst r1
    show Paired _ (if g = f then (g, y) :: ys else (g, x) :: putF f y ys) (if g = f then (g, e) :: fs else (g, x') :: putFE f e fs)
    by_cases hg : g = f
    · rw [if_pos hg, if_pos hg]; exact .cons ⟨rfl, hy⟩ t
    · rw [if_neg hg, if_neg hg]; exact .cons ⟨rfl, r2⟩ (putF_paired hy t)
/-- self.f = e -/
theorem sd_fld {i : Nat} {C : Addr} {fs : List (Str × En)} {f : Str} {tv : TE} (hv : EV K tv es W e W1) (ho : EV K to es W1 (.ptr i) W2) (h : W2[i]? = some (.ins C fs)) (hc : Cls K C) (hn : NoAttr K C f) (hl : fs.length < 1000) :
    SDd K (sFld K to tv f) es W es (W2.set i (.ins C (putFE f e fs))) := fun F Hb H σ as D S k =>
  hv F Hb H σ as S _ fun y Hb1 H1 as1 g1 s1 S1 r1 => ho F Hb1 H1 σ as1 S1 _ fun o Hb2 H2 as2 g2 s2 S2 r2 => by
    obtain ⟨a, ha, rfl⟩ := r2
    obtain ⟨_, _, dx, ys, q1, q2⟩ := S2.own i a _ ha h rfl
    refine ⟨a, C, dx, ys, rfl, q1, hc, hn, by rw [paired_length q2]; exact hl, ?_⟩
    exact (k.nx.on (g1.trans g2) (s1.trans s2)).here (S2.write (c' := .ins C (putFE f e fs)) ha h rfl ⟨dx, _, upd_same, putF_paired (RE.mono g2 s2 r1) q2⟩) ⟨rfl, rfl⟩
/-- an owned instance becomes data -/
theorem ST.freezeI {a : Addr} {i : Nat} {C : Addr} {ns : List Str} {ls : List D} (S : ST K F Hb H σ es W as) (ha : as[i]? = some a) (hW : W[i]? = some (.ins C (ns.zip (ls.map .dat)))) (hlen : ns.length = ls.length) :
    ∃ Hb', Same Hb Hb' ∧ ST K F Hb' H σ es (W.set i .gone) as ∧ Dt K Hb' (.ref a) (.obj C ns ls) := by
  obtain ⟨k1, k2, dx, ys, k3, k4⟩ := S.own i a _ ha hW rfl
  have s1 : Same Hb (upd Hb a (.ins C dx ys)) := fun b u e => by rw [upd_ne (ne_of_none e k1)]; exact e
  have cut : ∀ {ns : List Str} {ls : List D} {ys : List (Str × V)}, ns.length = ls.length → Paired (fun (p : Str × V) (q : Str × En) => p.1 = q.1 ∧ RE K Hb as p.2 q.2) ys (ns.zip (ls.map En.dat)) → ys.map (·.1) = ns ∧ DtA K Hb (ys.map (·.2)) ls := by
    intro ns
    induction ns with
    | nil =>
      intro ls ys hl h
      cases ls with
      | nil => cases h; exact ⟨rfl, .nil⟩
      | cons d ls => simp at hl
    | cons n ns ih =>
      intro ls ys hl h
      cases ls with
      | nil => simp at hl
      | cons d ls =>
        rw [List.map_cons, List.zip_cons_cons] at h
        cases h with
        | cons r t =>
          obtain ⟨z1, z2⟩ := ih (by simpa using hl) t
          exact ⟨by rw [List.map_cons, z1, r.1], .cons r.2 z2⟩
  obtain ⟨z1, z2⟩ := cut hlen k4
  refine ⟨_, s1, ⟨fun b u e => ?_, S.frm, fun b u e => ?_, by simp [S.len], fun j b c g1 g2 g3 => ?_, fun j l b c c2 g1 g2 g3 g4 g5 g6 => ?_, S.sl, fun i e h => RS.mono (Gr.refl _) s1 (S.slot i e h)⟩, .obj upd_same z1 (DtA.mono s1 _ _ z2)⟩
  · by_cases hb : b = a
    · subst hb; rw [upd_same] at e; cases e; exact k3
    · rw [upd_ne hb] at e; exact S.base b u e
  · have z := S.dis b u e
    have hb : b ≠ a := fun q => by subst q; rw [k2] at e; cases e
    exact ⟨by rw [upd_ne hb]; exact z.1, z.2⟩
  · by_cases hj : i = j
    · subst hj
      have hlt : i < W.length := (List.getElem?_eq_some_iff.mp hW).1
      rw [List.getElem?_set_self hlt] at g2; cases g2; cases g3
    · rw [List.getElem?_set_ne hj] at g2
      obtain ⟨m1, m2, m3⟩ := S.own j b c g1 g2 g3
      have hb : b ≠ a := fun q => by subst q; exact hj (S.inj i j b _ c ha g1 hW g2 rfl g3)
      exact ⟨by rw [upd_ne hb]; exact m1, m2, m3.mono (Gr.refl _) s1 rfl⟩
  · have old : ∀ (j : Nat) (c : Cn), (W.set i .gone)[j]? = some c → live c = true → W[j]? = some c := fun j c g q => by
      by_cases hj : i = j
      · subst hj
        have hlt : i < W.length := (List.getElem?_eq_some_iff.mp hW).1
        rw [List.getElem?_set_self hlt] at g; cases g; cases q
      · rw [List.getElem?_set_ne hj] at g; exact g
    exact S.inj j l b c c2 g1 g2 (old j c g3 g5) (old l c2 g4 g6) g5 g6
/-- C(..): a new instance, its fields data -/
theorem ev_make {C : Addr} {sp : Sp} {E : XK} {tA : TA} {l : List D} {ns : List Str} {ls : List D} (hlen : ns.length = ls.length) (ha : EA K tA es W (l.map .dat) W1)
    (h : ∀ vs H Q, spV K (.ptr 0 :: l.map .dat) [.ins C []] (.dat .non) [.ins C (ns.zip (ls.map .dat))] vs H Q → sp vs H Q E) : EV K (tMake C sp [] E tA) es W (.dat (.obj C ns ls)) W1 := fun F Hb H σ as S Q k =>
  ha F Hb H σ as S _ fun vs Hb1 H1 as1 g1 s1 S1 r1 x dx hx hdx hne => by
    obtain ⟨F', as0, g0, h0, Sc, Fn, Rn, back⟩ := call_in (cW := []) (R := W1) S1 r1 (fun e he => by obtain ⟨d, _, rfl⟩ := List.mem_map.mp he; trivial) (fun c hc => absurd hc (by simp))
    have e0 : as0 = [] := List.length_eq_zero_iff.mp h0
    subst e0
    obtain ⟨S2, s2⟩ := Sc.new (o := .own x) hdx
    have hx2 : upd H1 dx (.own x) x = none := by rw [upd_ne (Ne.symm hne)]; exact hx
    have S3 := S2.newOwn (c := .ins C []) hx2 ⟨dx, [], upd_same, .nil⟩
    show sp (.ref x :: (vs ++ [])) _ _ E
    rw [List.append_nil]
    refine h (.ref x :: vs) _ _ ⟨F', _, [x], ⟨S3.base, S3.frm, S3.dis, S3.len, S3.own, S3.inj, by have := Sc.sl; simp at this ⊢; exact this, fun i e he => ?_⟩, fun v Hb4 H4 s4 S4 r4 => ?_⟩
    · cases i with
      | zero => cases he; exact ⟨x, rfl, rfl⟩
      | succ i =>
        have z := S3.slot i e (by simpa using he)
        simpa using z
    · cases r4
      refine ⟨rfl, ?_⟩
      obtain ⟨Hb5, s5, S5, hd⟩ := S4.freezeI (i := 0) (a := x) rfl rfl hlen
      have S6 : ST K F' Hb5 H4 [] [] [] [] := S5.take (n := 0) (W' := []) (as' := []) ⟨[x], by simp⟩ rfl (by simp) (fun c hc => absurd hc (by simp))
      have S7 := back Hb5 H4 [] [] [] rfl ((s2.trans s4).trans s5) S6
      exact k (.ref x) Hb5 H4 as1 g1 (((s1.trans s2).trans s4).trans s5) S7 hd
/-- isinstance(x, C) of an instance of C -/
theorem ev_isiC {C : Addr} {ns : List Str} {ls : List D} (ha : EV K ta es W (.dat (.obj C ns ls)) W1) (hi : C8.InsC K C) : EV K (tCB (rIsi K) (tCons ta (tCons (tC (.ref C)) tNil))) es W (.dat (.bl true)) W1 :=
  ev_cb2 ha (ev_rf C) fun F Hb H σ as v u S r1 r2 Q k => by
    cases r2
    cases r1 with
    | @obj a _ dx fs _ _ q1 q2 q3 => exact ⟨.ref a, .ref C, _, _, true, rfl, .own C, .base (.ins (S.base _ _ q1) hi.cl hi.ha hi.hn hi.htk hi.hm), hi.me, k.here S (.bl true)⟩
/-- the heap has grown beside -/
theorem ST.ext {H' : Hp} (S : ST K F Hb H σ es W as) (x : Ext H H') : ST K F Hb H' σ es W as :=
  ⟨fun a o e => x _ _ (S.base a o e), fun a o e => x _ _ (S.frm a o e), S.dis, S.len, fun i a c h1 h2 h3 => by
    obtain ⟨k1, k2, k3⟩ := S.own i a c h1 h2 h3
    obtain ⟨u, hu⟩ := k3.some h3
    exact ⟨k1, k2, k3.mono (Gr.refl _) (Same.refl _) (by rw [hu]; exact x _ _ hu)⟩, S.inj, S.sl, S.slot⟩
/-- two instances of C that bear the same data, told by G -/
def RSame (K : PySem.W.Frag) (C : Addr) (G : List Str → List D → Prop) : Addr → Addr → Hp → Prop := fun a b H => ∃ ns ls, G ns ls ∧ Dt K H (.ref a) (.obj C ns ls) ∧ Dt K H (.ref b) (.obj C ns ls)
theorem RSame.ext {C : Addr} {G : List Str → List D → Prop} (a b : Addr) (H H' : Hp) (x : Ext H H') (h : RSame K C G a b H) : RSame K C G a b H' := by
  obtain ⟨ns, ls, g, h1, h2⟩ := h
  exact ⟨ns, ls, g, Dt.mono x _ _ h1, Dt.mono x _ _ h2⟩
theorem ev_eqOwn {C : Addr} {G : List Str → List D → Prop} {ns : List Str} {ls : List D} (ha : EV K ta es W (.dat (.obj C ns ls)) W1) (hb : EV K tb es W1 (.dat (.obj C ns ls)) W2) (g : G ns ls) : EV K (tOp (rEqG (DIns C (RSame K C G))) ta tb) es W (.dat (.bl true)) W2 :=
  ev_op2 ha hb fun F Hb H σ as v u S r1 r2 Q k => by
    have q1 := Dt.mono S.base _ _ r1
    have q2 := Dt.mono S.base _ _ r2
    cases r1 with
    | @obj a _ dx fs _ _ a1 a2 a3 => cases r2 with
      | @obj b _ dy gs _ _ b1 b2 b3 =>
        exact ⟨⟨a, b, dx, dy, fs, gs, rfl, rfl, S.base _ _ a1, S.base _ _ b1, ns, ls, g, q1, q2⟩, fun H' x => k _ Hb H' as (Gr.refl _) (Same.refl _) (S.ext x) (.bl true)⟩
theorem ev_neOwn {C : Addr} {G : List Str → List D → Prop} {ns : List Str} {ls : List D} (ha : EV K ta es W (.dat (.obj C ns ls)) W1) (hb : EV K tb es W1 (.dat (.obj C ns ls)) W2) (g : G ns ls) : EV K (tOp (rNeG (DIns C (RSame K C G))) ta tb) es W (.dat (.bl false)) W2 :=
  ev_op2 ha hb fun F Hb H σ as v u S r1 r2 Q k => by
    have q1 := Dt.mono S.base _ _ r1
    have q2 := Dt.mono S.base _ _ r2
    cases r1 with
    | @obj a _ dx fs _ _ a1 a2 a3 => cases r2 with
      | @obj b _ dy gs _ _ b1 b2 b3 =>
        exact ⟨⟨a, b, dx, dy, fs, gs, rfl, rfl, S.base _ _ a1, S.base _ _ b1, ns, ls, g, q1, q2⟩, fun H' x => k _ Hb H' as (Gr.refl _) (Same.refl _) (S.ext x) (.bl false)⟩
/-- what an own __eq__ promises, as a promise over data: the whole heap is the base -/
theorem spEq_V {C : Addr} {G : List Str → List D → Prop} {vs : List V} {Q : VK} {E : XK} (h : spEq (RSame K C G) vs H Q E) : ∃ ns ls, G ns ls ∧ spV K [.dat (.obj C ns ls), .dat (.obj C ns ls)] [] (.dat (.bl true)) [] vs H Q := by
  obtain ⟨a, b, rfl, ⟨ns, ls, g, h1, h2⟩, k⟩ := h
  refine ⟨ns, ls, g, fun _ => none, H, [], ⟨Same.refl _, (fun _ _ e => by cases e), (fun _ _ e => by cases e), rfl, (fun i a c q1 q2 => by simp at q2), (fun i j a c d q1 q2 q3 => by simp at q3), rfl, fun i e he => ?_⟩, fun v Hb' H' s S r => ?_⟩
  · match i, he with
    | 0, he => cases he; exact ⟨_, rfl, h1⟩
    | 1, he => cases he; exact ⟨_, rfl, h2⟩
  · cases r
    exact k H' fun c o e => S.base _ _ (s _ _ e)
end
end AS
/-! R3: polynomials as lists of (exponents, number): sums by key, the sorted form, products. -/
namespace Pn
abbrev M := List (List Int × Int)
abbrev cd (k : List Int) : Int := _root_.TS.code 1000 k
def cf : M → List Int → Int
  | [], _ => 0
  | q :: r, k => (if q.1 = k then q.2 else 0) + cf r k
theorem cf_append (k : List Int) : ∀ a b : M, cf (a ++ b) k = cf a k + cf b k
  | [], b => by simp [cf]
  | q :: a, b => by
    show _ + cf (a ++ b) k = (_ + cf a k) + cf b k
    rw [cf_append k a b]; omega
theorem cf_out {k : List Int} : ∀ {l : M}, (∀ q ∈ l, q.1 ≠ k) → cf l k = 0
  | [], _ => rfl
  | q :: l, h => by
    show (if q.1 = k then q.2 else 0) + cf l k = 0
    rw [if_neg (h q (by simp)), cf_out fun r hr => h r (by simp [hr])]; rfl
def ks (m : M) : List (List Int) := m.map (·.1)
def ND (m : M) : Prop := (ks m).Nodup
theorem ND.tail {q : List Int × Int} {m : M} (h : ND (q :: m)) : ND m := (List.nodup_cons.mp h).2
theorem ND.head {q : List Int × Int} {m : M} (h : ND (q :: m)) : ∀ r ∈ m, r.1 ≠ q.1 := fun r hr e => (List.nodup_cons.mp h).1 (List.mem_map.mpr ⟨r, hr, e⟩)
theorem cf_in {q : List Int × Int} : ∀ {m : M}, ND m → q ∈ m → cf m q.1 = q.2
  | [], _, h => by simp at h
  | r :: m, nd, h => by
    show (if r.1 = q.1 then r.2 else 0) + cf m q.1 = q.2
    rcases List.mem_cons.mp h with e | e
    · subst e
      rw [if_pos rfl, cf_out nd.head, Int.add_zero]
    · rw [if_neg fun z => nd.head q e z.symm, cf_in nd.tail e, Int.zero_add]
theorem cf_ex {k : List Int} : ∀ {m : M}, ND m → cf m k ≠ 0 → (k, cf m k) ∈ m
  | [], _, h => absurd rfl h
  | r :: m, nd, h => by
    by_cases e : r.1 = k
    · have z : cf (r :: m) k = r.2 := by
        have := cf_in nd (List.mem_cons_self (a := r) (l := m))
        rw [e] at this; exact this
      rw [z, ← e]; exact List.mem_cons_self
    · have z : cf (r :: m) k = cf m k := by
        show (if r.1 = k then r.2 else 0) + cf m k = _
        rw [if_neg e, Int.zero_add]
      rw [z] at h ⊢
      exact List.mem_cons_of_mem _ (cf_ex nd.tail h)
def getM (m : M) (k : List Int) : Option Int := (m.find? fun q => decide (q.1 = k)).map (·.2)
def putM (m : M) (k : List Int) (v : Int) : M := if (m.any fun q => decide (q.1 = k)) = true then m.map (fun q => if q.1 = k then (q.1, v) else q) else m ++ [(k, v)]
theorem getM_cf {k : List Int} : ∀ {m : M}, ND m → (getM m k).getD 0 = cf m k
  | [], _ => rfl
  | r :: m, nd => by
    by_cases e : r.1 = k
    · have z := cf_in nd (List.mem_cons_self (a := r) (l := m))
      rw [e] at z
      rw [z]
      simp [getM, List.find?_cons, e]
    · show _ = (if r.1 = k then r.2 else 0) + cf m k
      rw [if_neg e, Int.zero_add, ← getM_cf nd.tail]
      simp [getM, List.find?_cons, e]
theorem getM_some {k : List Int} {m : M} : (getM m k).isSome = true ↔ k ∈ ks m := by
  unfold getM ks
  rw [Option.isSome_map, List.find?_isSome]
  simp only [decide_eq_true_eq, List.mem_map]
theorem any_ks {k : List Int} {m : M} : (m.any fun q => decide (q.1 = k)) = true ↔ k ∈ ks m := by
  unfold ks
  simp only [List.any_eq_true, decide_eq_true_eq, List.mem_map]
theorem putM_new {m : M} {k : List Int} {v : Int} (h : k ∉ ks m) : putM m k v = m ++ [(k, v)] := by
  unfold putM
  rw [if_neg fun z => h (any_ks.mp z)]
theorem putM_old {m : M} {k : List Int} {v : Int} (h : k ∈ ks m) : putM m k v = m.map (fun q => if q.1 = k then (q.1, v) else q) := by
  unfold putM
  rw [if_pos (any_ks.mpr h)]
theorem ks_put {m : M} {k : List Int} {v : Int} : ks (putM m k v) = if k ∈ ks m then ks m else ks m ++ [k] := by
  by_cases h : k ∈ ks m
  · rw [putM_old h, if_pos h]
    unfold ks
    rw [List.map_map]
    refine List.map_congr_left fun q _ => ?_
    show (if q.1 = k then (q.1, v) else q).1 = q.1
    split <;> rfl
  · rw [putM_new h, if_neg h]
    simp [ks]
theorem ND.put {m : M} {k : List Int} {v : Int} (h : ND m) : ND (putM m k v) := by
  show (ks (putM m k v)).Nodup
  rw [ks_put]
  split
  · exact h
  · rename_i hk
    rw [List.nodup_append]
    exact ⟨h, by simp, fun a ha b hb => by simp at hb; subst hb; exact fun e => hk (e ▸ ha)⟩
theorem cf_map_put {k k' : List Int} {v : Int} : ∀ {m : M}, ND m → cf (m.map fun q => if q.1 = k then (q.1, v) else q) k' = if k' = k then (if k ∈ ks m then v else 0) else cf m k'
  | [], _ => by simp [cf, ks]
  | r :: m, nd => by
    show (if (if r.1 = k then (r.1, v) else r).1 = k' then (if r.1 = k then (r.1, v) else r).2 else 0) + cf (m.map fun q => if q.1 = k then (q.1, v) else q) k' = _
    rw [cf_map_put nd.tail]
    have e0 : (if r.1 = k then (r.1, v) else r).1 = r.1 := by split <;> rfl
    rw [e0]
    by_cases e : r.1 = k
    · subst e
      rw [if_pos rfl]
      have hn : r.1 ∉ ks m := fun z => by
        obtain ⟨q, hq, e⟩ := List.mem_map.mp z
        exact nd.head q hq e
      by_cases e2 : k' = r.1
      · subst e2
        have hn2 : r.1 ∈ ks (r :: m) := List.mem_cons_self
        rw [if_pos rfl, if_pos rfl, if_neg hn, if_pos rfl, if_pos hn2]; omega
      · rw [if_neg fun z => e2 z.symm, if_neg e2, if_neg e2]
        show _ = (if r.1 = k' then r.2 else 0) + cf m k'
        rw [if_neg fun z => e2 z.symm]
    · rw [if_neg e]
      by_cases e2 : k' = k
      · subst e2
        rw [if_neg e, if_pos rfl, if_pos rfl]
        have : (k' ∈ ks (r :: m)) ↔ k' ∈ ks m := by
          show k' ∈ r.1 :: ks m ↔ _
          rw [List.mem_cons]
          exact ⟨fun z => z.elim (fun z => absurd z.symm e) id, .inr⟩
        simp [this]
      · rw [if_neg e2, if_neg e2]; rfl
theorem cf_put {m : M} {k k' : List Int} {v : Int} (h : ND m) : cf (putM m k v) k' = if k' = k then v else cf m k' := by
  by_cases hk : k ∈ ks m
  · rw [putM_old hk, cf_map_put h, if_pos hk]
  · rw [putM_new hk, cf_append]
    show cf m k' + ((if k = k' then v else 0) + 0) = _
    by_cases e : k' = k
    · subst e
      rw [if_pos rfl, if_pos rfl, cf_out fun q hq e => hk (List.mem_map.mpr ⟨q, hq, e⟩)]; omega
    · rw [if_neg fun z => e z.symm, if_neg e]; omega
def acc (m l : M) : M := l.foldl (fun m q => putM m q.1 ((getM m q.1).getD 0 + q.2)) m
theorem acc_cons (m l : M) (q : List Int × Int) : acc m (q :: l) = acc (putM m q.1 ((getM m q.1).getD 0 + q.2)) l := rfl
theorem acc_append (m l l' : M) : acc m (l ++ l') = acc (acc m l) l' := List.foldl_append
theorem ND.acc : ∀ {l m : M}, ND m → ND (acc m l)
  | [], _, h => h
  | q :: l, _, h => ND.acc (l := l) h.put
theorem cf_acc {k : List Int} : ∀ {l m : M}, ND m → cf (acc m l) k = cf m k + cf l k
  | [], m, _ => by show cf m k = cf m k + 0; omega
  | q :: l, m, h => by
    rw [acc_cons, cf_acc h.put, cf_put h, getM_cf h]
    show _ = cf m k + ((if q.1 = k then q.2 else 0) + cf l k)
    by_cases e : k = q.1
    · subst e; rw [if_pos rfl, if_pos rfl]; omega
    · rw [if_neg e, if_neg fun z => e z.symm]; omega
theorem ks_acc {k : List Int} : ∀ {l m : M}, k ∈ ks (acc m l) ↔ k ∈ ks m ∨ k ∈ ks l
  | [], m => by show _ ↔ _ ∨ k ∈ []; simp [acc]
  | q :: l, m => by
    rw [acc_cons, ks_acc, ks_put]
    show _ ↔ _ ∨ k ∈ q.1 :: ks l
    rw [List.mem_cons]
    split
    · rename_i hq
      constructor
      · exact fun h => h.elim .inl fun h => .inr (.inr h)
      · exact fun h => h.elim .inl fun h => h.elim (fun e => .inl (e ▸ hq)) .inr
    · rw [List.mem_append, List.mem_singleton, or_assoc]
theorem len_put {m : M} {k : List Int} {v : Int} : (putM m k v).length ≤ m.length + 1 := by
  unfold putM; split <;> simp
theorem len_acc : ∀ {l m : M}, (acc m l).length ≤ m.length + l.length
  | [], m => Nat.le_refl _
  | q :: l, m => by
    rw [acc_cons]
    have h1 := len_acc (l := l) (m := putM m q.1 ((getM m q.1).getD 0 + q.2))
    have h2 := len_put (m := m) (k := q.1) (v := (getM m q.1).getD 0 + q.2)
    simp only [List.length_cons]; omega
/-- only what is not 0 -/
def nz (m : M) : M := m.filter fun q => decide (q.2 ≠ 0)
theorem cf_nz {k : List Int} : ∀ m : M, cf (nz m) k = cf m k
  | [] => rfl
  | q :: m => by
    by_cases e : q.2 = 0
    · have : nz (q :: m) = nz m := by simp [nz, e]
      rw [this, cf_nz m]
      show _ = (if q.1 = k then q.2 else 0) + cf m k
      rw [e]; simp
    · have : nz (q :: m) = q :: nz m := by simp [nz, e]
      rw [this]
      show _ + cf (nz m) k = _ + cf m k
      rw [cf_nz m]
theorem ND.nz {m : M} (h : ND m) : ND (nz m) := List.Sublist.nodup ((List.filter_sublist (l := m)).map _) h
theorem nz_ne {m : M} : ∀ q ∈ nz m, q.2 ≠ 0 := fun q hq => by simpa using (List.mem_filter.mp hq).2
theorem nz_sub {m : M} : ∀ q ∈ nz m, q ∈ m := fun q hq => (List.mem_filter.mp hq).1
theorem nz_nil {m : M} (h : ND m) : nz m = [] ↔ ∀ k, cf m k = 0 := by
  constructor
  · intro e k; rw [← cf_nz, e]; rfl
  · intro e
    cases q : nz m with
    | nil => rfl
    | cons r l =>
      have h1 : r ∈ nz m := by rw [q]; simp
      have h2 := cf_in h.nz h1
      rw [cf_nz, e] at h2
      exact absurd h2.symm (nz_ne r h1)
/-! ### keys -/
def BK (n : Nat) (E : Int) (k : List Int) : Prop := k.length = n ∧ ∀ x ∈ k, 0 ≤ x ∧ x < E
theorem BK.bd {n : Nat} {E : Int} {k : List Int} (h : BK n E k) (hE : E ≤ 1000) : _root_.TS.Bd 1000 k := fun m hm => by have := h.2 m hm; omega
theorem cd_inj : ∀ {a b : List Int}, a.length = b.length → _root_.TS.Bd 1000 a → _root_.TS.Bd 1000 b → cd a = cd b → a = b
  | [], [], _, _, _, _ => rfl
  | [], _ :: _, h, _, _, _ => by simp at h
  | _ :: _, [], h, _, _, _ => by simp at h
  | x :: a, y :: b, h, h1, h2, e => by
    have hl : a.length = b.length := by simpa using h
    rcases Int.lt_trichotomy x y with z | z | z
    · have := _root_.TS.code_lt (B := 1000) hl h1.tail h2.tail z
      have e : _root_.TS.code 1000 (x :: a) = _root_.TS.code 1000 (y :: b) := e
      omega
    · subst z
      have e : x * 1000 ^ a.length + cd a = x * 1000 ^ b.length + cd b := e
      rw [hl] at e
      rw [cd_inj hl h1.tail h2.tail (by omega)]
    · have := _root_.TS.code_lt (B := 1000) hl.symm h2.tail h1.tail z
      have e : _root_.TS.code 1000 (x :: a) = _root_.TS.code 1000 (y :: b) := e
      omega
def addK (a b : List Int) : List Int := List.zipWith (· + ·) a b
def subK (a b : List Int) : List Int := List.zipWith (· - ·) a b
theorem cd_add : ∀ {a b : List Int}, a.length = b.length → cd (addK a b) = cd a + cd b
  | [], [], _ => rfl
  | [], _ :: _, h => by simp at h
  | _ :: _, [], h => by simp at h
  | x :: a, y :: b, h => by
    have hl : a.length = b.length := by simpa using h
    show (x + y) * 1000 ^ (addK a b).length + cd (addK a b) = (x * 1000 ^ a.length + cd a) + (y * 1000 ^ b.length + cd b)
    have e : (addK a b).length = a.length := by simp [addK, hl]
    rw [cd_add hl, e, hl, Int.add_mul]
    omega
theorem cd_sub : ∀ {a b : List Int}, a.length = b.length → cd (subK a b) = cd a - cd b
  | [], [], _ => rfl
  | [], _ :: _, h => by simp at h
  | _ :: _, [], h => by simp at h
  | x :: a, y :: b, h => by
    have hl : a.length = b.length := by simpa using h
    show (x - y) * 1000 ^ (subK a b).length + cd (subK a b) = (x * 1000 ^ a.length + cd a) - (y * 1000 ^ b.length + cd b)
    have e : (subK a b).length = a.length := by simp [subK, hl]
    rw [cd_sub hl, e, hl, Int.sub_mul]
    omega
theorem BK.add {n : Nat} {E G : Int} {a b : List Int} (h : BK n E a) (h2 : BK n G b) : BK n (E + G) (addK a b) := by
  refine ⟨by simp [addK, h.1, h2.1], fun x hx => ?_⟩
  obtain ⟨i, hi, e⟩ := List.mem_iff_getElem.mp hx
  unfold addK at e hi
  rw [List.getElem_zipWith] at e
  have q1 := h.2 (a[i]'(by simp at hi; omega)) (List.getElem_mem _)
  have q2 := h2.2 (b[i]'(by simp at hi; omega)) (List.getElem_mem _)
  omega
/-! ### the sorted form -/
def srtK (l : List (List Int)) : List (List Int) := l.mergeSort fun a b => decide (cd a ≤ cd b)
theorem srtK_perm (l : List (List Int)) : (srtK l).Perm l := List.mergeSort_perm _ _
theorem srtK_le (l : List (List Int)) : (srtK l).Pairwise fun a b => cd a ≤ cd b := by
  have := List.pairwise_mergeSort (le := fun a b : List Int => decide (cd a ≤ cd b)) (fun a b c h1 h2 => by simp at *; omega) (fun a b => by simp; omega) l
  exact this.imp fun h => by simpa using h
theorem srtK_uni {n : Nat} {l ns : List (List Int)} (h : ∀ k ∈ l, k.length = n ∧ _root_.TS.Bd 1000 k) (h1 : ns.Perm l) (h2 : ns.Pairwise fun a b => cd a ≤ cd b) : ns = srtK l := by
  have p : ns.Perm (srtK l) := h1.trans (srtK_perm l).symm
  refine p.eq_of_pairwise (fun a b ha hb h3 h4 => ?_) h2 (srtK_le l)
  have qa := h a (h1.mem_iff.mp ha)
  have qb := h b ((srtK_perm l).mem_iff.mp hb)
  exact cd_inj (by rw [qa.1, qb.1]) qa.2 qb.2 (by omega)
def nrm (l : M) : M := nz ((srtK (ks (acc [] l))).map fun k => (k, cf l k))
def Nrm (p : M) : Prop := (p.Pairwise fun a b => cd a.1 < cd b.1) ∧ ∀ q ∈ p, q.2 ≠ 0
def AB (n : Nat) (E : Int) (l : M) : Prop := ∀ q ∈ l, BK n E q.1
theorem ND.nil : ND [] := List.nodup_nil
theorem Nrm.nd {p : M} (h : Nrm p) : ND p := by
  show (p.map (·.1)).Pairwise (· ≠ ·)
  rw [List.pairwise_map]
  exact h.1.imp fun {a b} z e => by
    have : cd a.1 = cd b.1 := by rw [e]
    omega
theorem nrm_mem {l : M} {q : List Int × Int} (h : q ∈ nrm l) : q.1 ∈ ks l ∧ q.2 = cf l q.1 ∧ q.2 ≠ 0 := by
  have h0 := nz_ne q h
  obtain ⟨k, hk, e⟩ := List.mem_map.mp (nz_sub q h)
  subst e
  have := (srtK_perm _).mem_iff.mp hk
  rw [ks_acc] at this
  exact ⟨this.elim (fun z => by simp [ks] at z) id, rfl, h0⟩
theorem AB.nrm {n : Nat} {E : Int} {l : M} (h : AB n E l) : AB n E (nrm l) := fun q hq => by
  obtain ⟨h1, _, _⟩ := nrm_mem hq
  obtain ⟨r, hr, e⟩ := List.mem_map.mp h1
  rw [← e]; exact h r hr
theorem nrm_Nrm {n : Nat} {E : Int} {l : M} (hE : E ≤ 1000) (h : AB n E l) : Nrm (nrm l) := by
  refine ⟨?_, fun q hq => (nrm_mem hq).2.2⟩
  refine List.Pairwise.sublist (List.filter_sublist) ?_
  rw [List.pairwise_map]
  have nd : (srtK (ks (acc [] l))).Nodup := (srtK_perm _).nodup_iff.mpr (ND.acc ND.nil)
  have bd : ∀ k ∈ srtK (ks (acc [] l)), BK n E k := fun k hk => by
    have := (srtK_perm _).mem_iff.mp hk
    rw [ks_acc] at this
    rcases this with z | z
    · simp [ks] at z
    · obtain ⟨r, hr, e⟩ := List.mem_map.mp z
      rw [← e]; exact h r hr
  refine List.Pairwise.imp_of_mem (fun {a b} ha hb z => ?_) ((srtK_le _).and nd)
  have ba := bd a ha
  have bb := bd b hb
  have ne : cd a ≠ cd b := fun e => z.2 (cd_inj (by rw [ba.1, bb.1]) (ba.bd hE) (bb.bd hE) e)
  have := z.1
  show cd a < cd b
  omega
theorem cf_keys {k : List Int} {f : List Int → Int} : ∀ {l : List (List Int)}, l.Nodup → cf (l.map fun k => (k, f k)) k = if k ∈ l then f k else 0
  | [], _ => rfl
  | a :: l, nd => by
    obtain ⟨n1, n2⟩ := List.nodup_cons.mp nd
    show (if a = k then f a else 0) + cf (l.map fun k => (k, f k)) k = _
    rw [cf_keys n2]
    by_cases e : a = k
    · subst e; simp [n1]
    · rw [if_neg e]
      have : (k ∈ a :: l) ↔ k ∈ l := by
        rw [List.mem_cons]
        exact ⟨fun z => z.elim (fun z => absurd z.symm e) id, .inr⟩
      simp [this]
theorem cf_nrm (l : M) (k : List Int) : cf (nrm l) k = cf l k := by
  unfold nrm
  rw [cf_nz, cf_keys ((srtK_perm _).nodup_iff.mpr (ND.acc ND.nil))]
  split
  · rfl
  · rename_i h
    have h : k ∉ ks l := fun z => h ((srtK_perm _).mem_iff.mpr (ks_acc.mpr (.inr z)))
    exact (cf_out fun q hq e => h (List.mem_map.mpr ⟨q, hq, e⟩)).symm
theorem Nrm.ext {a b : M} (ha : Nrm a) (hb : Nrm b) (h : ∀ k, cf a k = cf b k) : a = b := by
  have sub : ∀ {a b : M}, Nrm a → Nrm b → (∀ k, cf a k = cf b k) → ∀ q ∈ a, q ∈ b := fun {a b} ha hb h q hq => by
    have h1 := cf_in ha.nd hq
    have h2 := ha.2 q hq
    rw [h] at h1
    have h3 := cf_ex hb.nd (k := q.1) (by rw [h1]; exact h2)
    rw [h1] at h3
    exact h3
  have nda : a.Nodup := ha.1.imp fun {x y} z e => by
    have : cd x.1 = cd y.1 := by rw [e]
    omega
  have ndb : b.Nodup := hb.1.imp fun {x y} z e => by
    have : cd x.1 = cd y.1 := by rw [e]
    omega
  have p : a.Perm b := (List.perm_ext_iff_of_nodup nda ndb).mpr fun q => ⟨sub ha hb h q, sub hb ha (fun k => (h k).symm) q⟩
  exact p.eq_of_pairwise (fun x y _ _ h3 h4 => by omega) ha.1 hb.1
theorem nrm_same {n : Nat} {E : Int} {l l' : M} (hE : E ≤ 1000) (h : AB n E l) (h' : AB n E l') (e : ∀ k, cf l k = cf l' k) : nrm l = nrm l' :=
  (nrm_Nrm hE h).ext (nrm_Nrm hE h') fun k => by rw [cf_nrm, cf_nrm, e]
theorem nrm_id {n : Nat} {E : Int} {l : M} (hE : E ≤ 1000) (h : AB n E l) (hn : Nrm l) : nrm l = l := (nrm_Nrm hE h).ext hn fun k => cf_nrm l k
theorem nrm_nil {n : Nat} {E : Int} {l : M} (hE : E ≤ 1000) (h : AB n E l) : nrm l = [] ↔ ∀ k, cf l k = 0 := by
  constructor
  · intro e k; rw [← cf_nrm, e]; rfl
  · intro e; exact (nrm_Nrm hE h).ext ⟨.nil, by simp⟩ fun k => by rw [cf_nrm, e]; rfl
theorem nz_acc_nil {l : M} : nz (acc [] l) = [] ↔ ∀ k, cf l k = 0 := by
  rw [nz_nil (ND.acc ND.nil)]
  constructor
  · intro h k
    have := h k
    rw [cf_acc ND.nil] at this
    have e : cf [] k = 0 := rfl
    omega
  · intro h k
    rw [cf_acc ND.nil, h]; rfl
theorem cf_nz_acc (l : M) (k : List Int) : cf (nz (acc [] l)) k = cf l k := by
  rw [cf_nz, cf_acc ND.nil]
  show 0 + cf l k = _
  omega
theorem nrm_len {l : M} : (nrm l).length ≤ l.length := by
  have h1 : (nrm l).length ≤ ((srtK (ks (acc [] l))).map fun k => (k, cf l k)).length := List.length_filter_le _ _
  rw [List.length_map, (srtK_perm _).length_eq] at h1
  have h2 := len_acc (l := l) (m := [])
  simp only [ks, List.length_map, List.length_nil, Nat.zero_add] at h1 h2 ⊢
  omega
/-! ### products -/
def prs (a b : M) : M := a.flatMap fun p => b.map fun q => (addK p.1 q.1, p.2 * q.2)
def pm (a b : M) : M := nz (acc [] (prs a b))
theorem cf_flat {k : List Int} {g : List Int × Int → M} {p : List Int × Int} : ∀ {a : M}, ND a → p ∈ a → (∀ r ∈ a, r.1 ≠ p.1 → cf (g r) k = 0) → cf (a.flatMap g) k = cf (g p) k
  | [], _, h, _ => by simp at h
  | r :: a, nd, h, hz => by
    rw [List.flatMap_cons, cf_append]
    have out : ∀ {a : M}, (∀ r ∈ a, cf (g r) k = 0) → cf (a.flatMap g) k = 0 := by
      intro a
      induction a with
      | nil => intro _; rfl
      | cons x a ih =>
        intro h
        rw [List.flatMap_cons, cf_append, h x (by simp), ih fun r hr => h r (by simp [hr])]; rfl
    rcases List.mem_cons.mp h with e | e
    · subst e
      rw [out fun r hr => hz r (by simp [hr]) (nd.head r hr), Int.add_zero]
    · rw [hz r (by simp) fun z => nd.head p e z.symm, Int.zero_add]
      exact cf_flat nd.tail e fun r hr => hz r (by simp [hr])
theorem cf_map1 {k : List Int} {f : List Int × Int → List Int × Int} {p : List Int × Int} {a : M} (nd : ND a) (h : p ∈ a) (hp : (f p).1 = k) (hz : ∀ r ∈ a, r.1 ≠ p.1 → (f r).1 ≠ k) : cf (a.map f) k = (f p).2 := by
  have e : ∀ a : M, a.map f = a.flatMap fun r => [f r] := by
    intro a
    induction a with
    | nil => rfl
    | cons x a ih => rw [List.map_cons, List.flatMap_cons, ih]; rfl
  rw [e a, cf_flat (p := p) nd h fun r hr ne => by
    show (if (f r).1 = k then (f r).2 else 0) + 0 = 0
    rw [if_neg (hz r hr ne)]; rfl]
  show (if (f p).1 = k then (f p).2 else 0) + 0 = (f p).2
  rw [if_pos hp]; omega
theorem top {a : M} (h : a ≠ []) : ∃ p ∈ a, ∀ r ∈ a, cd r.1 ≤ cd p.1 := by
  induction a with
  | nil => exact absurd rfl h
  | cons x a ih =>
    by_cases e : a = []
    · subst e; exact ⟨x, by simp, fun r hr => by simp at hr; subst hr; omega⟩
    · obtain ⟨p, hp, hm⟩ := ih e
      by_cases hc : cd x.1 ≤ cd p.1
      · exact ⟨p, by simp [hp], fun r hr => (List.mem_cons.mp hr).elim (fun z => by subst z; exact hc) (hm r)⟩
      · exact ⟨x, by simp, fun r hr => (List.mem_cons.mp hr).elim (fun z => by subst z; omega) fun z => by have := hm r z; omega⟩
/-- a polynomial as a dict: keys told apart, nothing is 0 -/
structure PD (n : Nat) (E C : Int) (N : Nat) (a : M) : Prop where
  nd : ND a
  nz : ∀ q ∈ a, q.2 ≠ 0
  ab : AB n E a
  co : ∀ q ∈ a, q.2.natAbs ≤ C
  len : a.length ≤ N
theorem prs_len (a b : M) : (prs a b).length = a.length * b.length := by
  unfold prs
  induction a with
  | nil => simp
  | cons x a ih => rw [List.flatMap_cons, List.length_append, ih, List.length_map, List.length_cons, Nat.add_mul]; omega
theorem prs_mem {a b : M} {r : List Int × Int} (h : r ∈ prs a b) : ∃ p ∈ a, ∃ q ∈ b, r = (addK p.1 q.1, p.2 * q.2) := by
  obtain ⟨p, hp, h⟩ := List.mem_flatMap.mp h
  obtain ⟨q, hq, e⟩ := List.mem_map.mp h
  exact ⟨p, hp, q, hq, e.symm⟩
theorem cf_le {k : List Int} {C : Int} (hC : 0 ≤ C) : ∀ {l : M}, (∀ q ∈ l, q.2.natAbs ≤ C) → ((cf l k).natAbs : Int) ≤ l.length * C
  | [], _ => by show ((0 : Int).natAbs : Int) ≤ _; simp
  | q :: l, h => by
    have h1 := cf_le hC (k := k) (l := l) fun r hr => h r (by simp [hr])
    have h2 := h q (by simp)
    have e : ((q :: l).length : Int) * C = l.length * C + C := by
      rw [List.length_cons]; push_cast; rw [Int.add_mul, Int.one_mul]
    rw [e]
    show (((if q.1 = k then q.2 else 0) + cf l k).natAbs : Int) ≤ _
    split <;> omega
theorem pm_PD {n N1 N2 : Nat} {E1 E2 C1 C2 : Int} {a b : M} (ha : PD n E1 C1 N1 a) (hb : PD n E2 C2 N2 b) (c1 : 0 ≤ C1) (c2 : 0 ≤ C2) : PD n (E1 + E2) ((N1 * N2 : Nat) * (C1 * C2)) (N1 * N2) (pm a b) := by
  have mem : ∀ q ∈ pm a b, q.1 ∈ ks (prs a b) := fun q hq => by
    have : q.1 ∈ ks (acc [] (prs a b)) := List.mem_map.mpr ⟨q, nz_sub q hq, rfl⟩
    rw [ks_acc] at this
    exact this.elim (fun z => by simp [ks] at z) id
  have hl : (prs a b).length ≤ N1 * N2 := by rw [prs_len]; exact Nat.mul_le_mul ha.len hb.len
  refine ⟨(ND.acc ND.nil).nz, fun q hq => nz_ne q hq, fun q hq => ?_, fun q hq => ?_, ?_⟩
  · obtain ⟨r, hr, e⟩ := List.mem_map.mp (mem q hq)
    obtain ⟨p, hp, s, hs, e2⟩ := prs_mem hr
    rw [← e, e2]
    exact (ha.ab p hp).add (hb.ab s hs)
  · have h1 := cf_in (ND.acc ND.nil).nz hq
    rw [show Pn.nz (acc [] (prs a b)) = pm a b from rfl] at h1
    have h2 : cf (pm a b) q.1 = cf (prs a b) q.1 := cf_nz_acc _ _
    rw [← h1, h2]
    have c0 : 0 ≤ C1 * C2 := Int.mul_nonneg c1 c2
    have h3 := cf_le c0 (k := q.1) (l := prs a b) fun r hr => by
      obtain ⟨p, hp, s, hs, e2⟩ := prs_mem hr
      rw [e2]
      show (((p.2 * s.2).natAbs : Nat) : Int) ≤ _
      rw [Int.natAbs_mul]
      push_cast
      exact Int.mul_le_mul (ha.co p hp) (hb.co s hs) (by omega) c1
    refine Int.le_trans h3 (Int.mul_le_mul_of_nonneg_right (by exact_mod_cast hl) c0)
  · have h1 : (pm a b).length ≤ (acc [] (prs a b)).length := List.length_filter_le _ _
    have h2 := len_acc (l := prs a b) (m := [])
    simp only [List.length_nil, Nat.zero_add] at h2
    omega
theorem pm_ne {n N1 N2 : Nat} {E1 E2 C1 C2 : Int} {a b : M} (ha : PD n E1 C1 N1 a) (hb : PD n E2 C2 N2 b) (e1 : E1 ≤ 1000) (e2 : E2 ≤ 1000) (na : a ≠ []) (nb : b ≠ []) : pm a b ≠ [] := by
  intro e
  have z := nz_acc_nil.mp e
  obtain ⟨p, hp, mp⟩ := top na
  obtain ⟨q, hq, mq⟩ := top nb
  have la : ∀ r ∈ a, r.1.length = n := fun r hr => (ha.ab r hr).1
  have lb : ∀ r ∈ b, r.1.length = n := fun r hr => (hb.ab r hr).1
  have sa : ∀ r ∈ a, r.1 ≠ p.1 → cd r.1 < cd p.1 := fun r hr ne => by
    have := mp r hr
    have : cd r.1 ≠ cd p.1 := fun e => ne (cd_inj (by rw [la r hr, la p hp]) ((ha.ab r hr).bd e1) ((ha.ab p hp).bd e1) e)
    omega
  have sb : ∀ r ∈ b, r.1 ≠ q.1 → cd r.1 < cd q.1 := fun r hr ne => by
    have := mq r hr
    have : cd r.1 ≠ cd q.1 := fun e => ne (cd_inj (by rw [lb r hr, lb q hq]) ((hb.ab r hr).bd e2) ((hb.ab q hq).bd e2) e)
    omega
  have c : cf (prs a b) (addK p.1 q.1) = p.2 * q.2 := by
    unfold prs
    rw [cf_flat (p := p) ha.nd hp fun r hr ne => cf_out fun s hs e => ?_]
    · exact cf_map1 hb.nd hq rfl fun r hr ne e => by
        have h1 : cd (addK p.1 r.1) = cd (addK p.1 q.1) := by rw [show addK p.1 r.1 = addK p.1 q.1 from e]
        rw [cd_add (by rw [la p hp, lb r hr]), cd_add (by rw [la p hp, lb q hq])] at h1
        have := sb r hr ne
        omega
    · obtain ⟨t, ht, rfl⟩ := List.mem_map.mp hs
      have h1 : cd (addK r.1 t.1) = cd (addK p.1 q.1) := by rw [show addK r.1 t.1 = addK p.1 q.1 from e]
      rw [cd_add (by rw [la r hr, lb t ht]), cd_add (by rw [la p hp, lb q hq])] at h1
      have := sa r hr ne
      have := mq t ht
      omega
  have h := z (addK p.1 q.1)
  rw [c] at h
  exact (Int.mul_ne_zero (ha.nz p hp) (hb.nz q hq)) h
end Pn
/-! R4: quotients of polynomials in their one form; letters that become 1. -/
namespace Pn
/-! ### the least of a list -/
def mn : List Int → Int
  | [] => 0
  | a :: r => if r = [] then a else if a ≤ mn r then a else mn r
theorem mn_mem : ∀ {l : List Int}, l ≠ [] → mn l ∈ l
  | [], h => absurd rfl h
  | a :: r, _ => by
    unfold mn
    by_cases e : r = []
    · rw [if_pos e]; simp
    · rw [if_neg e]
      split
      · simp
      · exact List.mem_cons_of_mem _ (mn_mem e)
theorem mn_le : ∀ {l : List Int} {y : Int}, y ∈ l → mn l ≤ y
  | [], y, h => by simp at h
  | a :: r, y, h => by
    unfold mn
    by_cases e : r = []
    · subst e; rw [if_pos rfl]; simp at h; omega
    · rw [if_neg e]
      rcases List.mem_cons.mp h with z | z
      · split <;> omega
      · have := mn_le z
        split <;> omega
theorem mn_sub {c : Int} {l : List Int} (h : l ≠ []) : mn (l.map fun x => x - c) = mn l - c := by
  have h1 := mn_mem h
  have h2 : mn l - c ∈ l.map fun x => x - c := List.mem_map.mpr ⟨_, h1, rfl⟩
  have h3 := mn_le h2
  obtain ⟨y, hy, e⟩ := List.mem_map.mp (mn_mem (l := l.map fun x => x - c) (by simpa using h))
  have h4 := mn_le hy
  omega
def colK (l : M) (j : Nat) : List Int := l.map fun q => q.1.getD j 0
def leastK (l : M) (n : Nat) : List Int := (List.range n).map fun j => mn (colK l j)
theorem leastK_length (l : M) (n : Nat) : (leastK l n).length = n := by simp [leastK]
/-! ### the common divisor of the numbers -/
def gF (d : Nat) (l : M) : Nat := l.foldl (fun d q => Nat.gcd d q.2.natAbs) d
def gN (l : M) : Nat := gF 0 l
theorem gF_dvd : ∀ {l : M} {d : Nat}, gF d l ∣ d ∧ ∀ q ∈ l, gF d l ∣ q.2.natAbs
  | [], d => ⟨Nat.dvd_refl _, by simp⟩
  | q :: l, d => by
    obtain ⟨h1, h2⟩ := gF_dvd (l := l) (d := Nat.gcd d q.2.natAbs)
    refine ⟨Nat.dvd_trans h1 (Nat.gcd_dvd_left _ _), fun r hr => ?_⟩
    rcases List.mem_cons.mp hr with e | e
    · subst e; exact Nat.dvd_trans h1 (Nat.gcd_dvd_right _ _)
    · exact h2 r e
theorem gN_pos {l : M} {q : List Int × Int} (h : q ∈ l) (h0 : q.2 ≠ 0) : 0 < gN l := by
  rcases Nat.eq_zero_or_pos (gN l) with e | e
  · have := (gF_dvd (l := l) (d := 0)).2 q h
    rw [show gF 0 l = gN l from rfl, e] at this
    have := Nat.eq_zero_of_zero_dvd this
    omega
  · exact e
theorem gN_le {l : M} {q : List Int × Int} (h : q ∈ l) (h0 : q.2 ≠ 0) : gN l ≤ q.2.natAbs := Nat.le_of_dvd (by omega) ((gF_dvd (l := l) (d := 0)).2 q h)
theorem gF_scale {c : Nat} {f : List Int × Int → List Int × Int} : ∀ {l : M} {d : Nat}, (∀ q ∈ l, (f q).2.natAbs * c = q.2.natAbs) → gF (d * c) l = gF d (l.map f) * c
  | [], d, _ => rfl
  | q :: l, d, h => by
    show gF (Nat.gcd (d * c) q.2.natAbs) l = gF (Nat.gcd d (f q).2.natAbs) (l.map f) * c
    rw [← h q (by simp), Nat.gcd_mul_right]
    exact gF_scale fun r hr => h r (by simp [hr])
/-! ### a quotient's form -/
def brt (s g : Int) (sh : List Int) (l : M) : M := l.map fun q => (subK q.1 sh, (q.2 * s).fdiv (1 * g))
def sgF (b : M) : Int := if 0 < (b.headD ([], 0)).2 then 1 else -1
def mkQ (n : Nat) (a b : M) : M × M :=
  if a = [] then ([], [(List.replicate n 0, 1)])
  else (nrm (brt (sgF b) (gN (a ++ b)) (leastK (a ++ b) n) a), nrm (brt (sgF b) (gN (a ++ b)) (leastK (a ++ b) n) b))
theorem brt_append (s g : Int) (sh : List Int) (a b : M) : brt s g sh (a ++ b) = brt s g sh a ++ brt s g sh b := by simp [brt]
theorem fdiv_exact {m s : Int} {g : Nat} (hg : 0 < g) : (((g : Int) * m) * s).fdiv (1 * (g : Int)) = m * s := by
  rw [Int.one_mul, Int.mul_assoc, Int.fdiv_eq_ediv_of_nonneg _ (by omega), Int.mul_ediv_cancel_left _ (by omega)]
structure Poly (n : Nat) (E C : Int) (N : Nat) (a : M) : Prop where
  nr : Nrm a
  ab : AB n E a
  co : ∀ q ∈ a, q.2.natAbs ≤ C
  len : a.length ≤ N
theorem sub_at {a b : List Int} (h : a.length = b.length) (j : Nat) : (subK a b).getD j 0 = a.getD j 0 - b.getD j 0 := by
  unfold subK
  simp only [List.getD_eq_getElem?_getD, List.getElem?_zipWith]
  by_cases hj : j < a.length
  · rw [List.getElem?_eq_getElem hj, List.getElem?_eq_getElem (by omega)]; rfl
  · rw [List.getElem?_eq_none (by omega), List.getElem?_eq_none (by omega)]; rfl
theorem sub_zero (n : Nat) : ∀ {k : List Int}, k.length = n → subK k (List.replicate n 0) = k := by
  induction n with
  | zero => intro k h; have := List.length_eq_zero_iff.mp h; subst this; rfl
  | succ n ih =>
    intro k h
    cases k with
    | nil => simp at h
    | cons x k =>
      show (x - 0) :: subK k (List.replicate n 0) = x :: k
      rw [ih (by simpa using h), Int.sub_zero]
section
variable {n N : Nat} {E C : Int} {a b l : M}
theorem brt_poly {g : Nat} {s : Int} {sh : List Int} (hs : s = 1 ∨ s = -1) (hg : 0 < g) (hgd : ∀ q ∈ a, g ∣ q.2.natAbs) (hl : sh.length = n) (hsh : ∀ q ∈ a, ∀ j, j < n → sh.getD j 0 ≤ q.1.getD j 0) (h0 : ∀ j, j < n → 0 ≤ sh.getD j 0) (h : Poly n E C N a) : Poly n E C N (brt s g sh a) ∧ ∀ q ∈ a, (((q.2 * s).fdiv (1 * (g : Int))).natAbs * g = q.2.natAbs) := by
  have num : ∀ q ∈ a, ∃ m : Int, q.2 = g * m ∧ (q.2 * s).fdiv (1 * (g : Int)) = m * s := fun q hq => by
    obtain ⟨m, hm⟩ := Int.ofNat_dvd_left.mpr (hgd q hq)
    exact ⟨m, hm, by rw [hm]; exact fdiv_exact hg⟩
  have ms : ∀ m : Int, (m * s).natAbs = m.natAbs := fun m => by rcases hs with rfl | rfl <;> simp
  have na : ∀ q ∈ a, ((q.2 * s).fdiv (1 * (g : Int))).natAbs * g = q.2.natAbs := fun q hq => by
    obtain ⟨m, h1, h2⟩ := num q hq
    rw [h2, ms, h1, Int.natAbs_mul, Int.natAbs_natCast, Nat.mul_comm]
  refine ⟨⟨⟨?_, fun r hr => ?_⟩, fun r hr => ?_, fun r hr => ?_, by simp only [brt, List.length_map]; exact h.len⟩, na⟩
  · show (List.map _ a).Pairwise _
    rw [List.pairwise_map]
    refine h.nr.1.imp_of_mem fun {x y} hx hy z => ?_
    show cd (subK x.1 sh) < cd (subK y.1 sh)
    rw [cd_sub (by rw [(h.ab x hx).1, hl]), cd_sub (by rw [(h.ab y hy).1, hl])]
    omega
  · obtain ⟨q, hq, rfl⟩ := List.mem_map.mp hr
    have := na q hq
    have h0 := h.nr.2 q hq
    intro e
    have e : (q.2 * s).fdiv (1 * (g : Int)) = 0 := e
    rw [e] at this
    simp at this
    omega
  · obtain ⟨q, hq, rfl⟩ := List.mem_map.mp hr
    have hk := h.ab q hq
    have ll : q.1.length = sh.length := by rw [hk.1, hl]
    refine ⟨by simp [subK, hk.1, hl], fun x hx => ?_⟩
    obtain ⟨j, hj, e⟩ := List.mem_iff_getElem.mp hx
    have hj' : j < n := by simp [subK, hk.1, hl] at hj; exact hj
    have e1 : (subK q.1 sh).getD j 0 = x := by rw [← e, List.getD_eq_getElem?_getD, List.getElem?_eq_getElem hj]; rfl
    rw [sub_at ll] at e1
    have e2 : q.1.getD j 0 ∈ q.1 := by
      rw [List.getD_eq_getElem?_getD, List.getElem?_eq_getElem (by rw [hk.1]; exact hj')]
      exact List.getElem_mem _
    have := hk.2 _ e2
    have := hsh q hq j hj'
    have := h0 j hj'
    omega
  · obtain ⟨q, hq, rfl⟩ := List.mem_map.mp hr
    have h1 := na q hq
    have h2 := h.co q hq
    show ((((q.2 * s).fdiv (1 * (g : Int))).natAbs : Nat) : Int) ≤ C
    have : ((q.2 * s).fdiv (1 * (g : Int))).natAbs ≤ q.2.natAbs := by
      rw [← h1]; exact Nat.le_mul_of_pos_right _ hg
    omega
theorem least_at {j : Nat} (hj : j < n) : (leastK l n).getD j 0 = mn (colK l j) := by
  unfold leastK
  rw [List.getD_eq_getElem?_getD, List.getElem?_map, List.getElem?_range hj]; rfl
theorem least_zero (h : ∀ j, j < n → mn (colK l j) = 0) : leastK l n = List.replicate n 0 := by
  unfold leastK
  refine List.eq_replicate_iff.mpr ⟨by simp, fun x hx => ?_⟩
  obtain ⟨j, hj, rfl⟩ := List.mem_map.mp hx
  exact h j (List.mem_range.mp hj)
theorem sgF_or (b : M) : sgF b = 1 ∨ sgF b = -1 := by unfold sgF; split <;> simp
/-- the form of a quotient: it is made of itself again -/
structure Can (n : Nat) (E C : Int) (N : Nat) (p q : M) : Prop where
  tp : Poly n E C N p
  bt : Poly n E C N q
  nq : q ≠ []
  again : mkQ n p q = (p, q)
theorem mkQ_parts (ha : Poly n E C N a) (hb : Poly n E C N b) (na : a ≠ []) (hE : E ≤ 1000) :
    Poly n E C N (brt (sgF b) (gN (a ++ b)) (leastK (a ++ b) n) a) ∧ Poly n E C N (brt (sgF b) (gN (a ++ b)) (leastK (a ++ b) n) b) ∧ 0 < gN (a ++ b) ∧ (∀ q ∈ a ++ b, ((q.2 * sgF b).fdiv (1 * ((gN (a ++ b) : Nat) : Int))).natAbs * gN (a ++ b) = q.2.natAbs) := by
  obtain ⟨x, ar, hx⟩ := List.exists_cons_of_ne_nil na
  have hxm : x ∈ a := by rw [hx]; simp
  have g0 : 0 < gN (a ++ b) := gN_pos (q := x) (by simp [hxm]) (ha.nr.2 x hxm)
  have gd : ∀ q ∈ a ++ b, gN (a ++ b) ∣ q.2.natAbs := (gF_dvd (l := a ++ b) (d := 0)).2
  have lst : ∀ q ∈ a ++ b, ∀ j, j < n → (leastK (a ++ b) n).getD j 0 ≤ q.1.getD j 0 := fun q hq j hj => by
    rw [least_at hj]
    exact mn_le (List.mem_map.mpr ⟨q, hq, rfl⟩)
  have pos : ∀ j, j < n → 0 ≤ (leastK (a ++ b) n).getD j 0 := fun j hj => by
    rw [least_at hj]
    have ne : colK (a ++ b) j ≠ [] := by rw [hx]; simp [colK]
    obtain ⟨q, hq, e⟩ := List.mem_map.mp (mn_mem ne)
    have e : q.1.getD j 0 = mn (colK (a ++ b) j) := e
    rw [← e]
    have hk : BK n E q.1 := (List.mem_append.mp hq).elim (ha.ab q) (hb.ab q)
    have e2 : q.1.getD j 0 ∈ q.1 := by
      rw [List.getD_eq_getElem?_getD, List.getElem?_eq_getElem (by rw [hk.1]; exact hj)]
      exact List.getElem_mem _
    exact (hk.2 _ e2).1
  obtain ⟨h1, h2⟩ := brt_poly (sgF_or b) g0 (fun q hq => gd q (by simp [hq])) (leastK_length _ _) (fun q hq => lst q (by simp [hq])) pos ha
  obtain ⟨h3, h4⟩ := brt_poly (sgF_or b) g0 (fun q hq => gd q (by simp [hq])) (leastK_length _ _) (fun q hq => lst q (by simp [hq])) pos hb
  exact ⟨h1, h3, g0, fun q hq => (List.mem_append.mp hq).elim (h2 q) (h4 q)⟩
theorem mkQ_can (ha : Poly n E C N a) (hb : Poly n E C N b) (nb : b ≠ []) (hE : E ≤ 1000) (hE1 : 1 ≤ E) (hC : 1 ≤ C) (hN : 1 ≤ N) : Can n E C N (mkQ n a b).1 (mkQ n a b).2 := by
  by_cases na : a = []
  · subst na
    have e : mkQ n [] b = ([], [(List.replicate n 0, 1)]) := if_pos rfl
    rw [e]
    refine ⟨⟨⟨.nil, by simp⟩, (fun q hq => by simp at hq), (fun q hq => by simp at hq), Nat.zero_le _⟩, ⟨⟨List.pairwise_singleton _ _, fun q hq => ?_⟩, fun q hq => ?_, fun q hq => ?_, hN⟩, by simp, if_pos rfl⟩
    · simp at hq; subst hq; simp
    · simp at hq; subst hq; exact ⟨by simp, fun x hx => by have := (List.mem_replicate.mp hx).2; omega⟩
    · simp at hq; subst hq; exact hC
  · obtain ⟨pa, pb, g0, hn⟩ := mkQ_parts ha hb na hE
    have e : mkQ n a b = (brt (sgF b) (gN (a ++ b)) (leastK (a ++ b) n) a, brt (sgF b) (gN (a ++ b)) (leastK (a ++ b) n) b) := by
      unfold mkQ
      rw [if_neg na, nrm_id hE pa.ab pa.nr, nrm_id hE pb.ab pb.nr]
    rw [e]
    dsimp only
    generalize hs : sgF b = s at *
    generalize hsh : leastK (a ++ b) n = sh at *
    have hshl : sh.length = n := by rw [← hsh]; exact leastK_length _ _
    have nb' : brt s (gN (a ++ b)) sh b ≠ [] := by simpa [brt] using nb
    have na' : brt s (gN (a ++ b)) sh a ≠ [] := by simpa [brt] using na
    refine ⟨pa, pb, nb', ?_⟩
    have gone : gN (brt s (gN (a ++ b)) sh a ++ brt s (gN (a ++ b)) sh b) = 1 := by
      rw [← brt_append]
      have h1 : gF (0 * gN (a ++ b)) (a ++ b) = gF 0 (brt s (gN (a ++ b)) sh (a ++ b)) * gN (a ++ b) := gF_scale (f := fun q => (subK q.1 sh, (q.2 * s).fdiv (1 * ((gN (a ++ b) : Nat) : Int)))) hn
      rw [Nat.zero_mul] at h1
      have h2 : gN (a ++ b) * 1 = gN (a ++ b) * gF 0 (brt s (gN (a ++ b)) sh (a ++ b)) := by
        rw [Nat.mul_one, Nat.mul_comm]; exact h1
      exact (Nat.eq_of_mul_eq_mul_left g0 h2).symm
    have sone : sgF (brt s (gN (a ++ b)) sh b) = 1 := by
      obtain ⟨x, br, hx⟩ := List.exists_cons_of_ne_nil nb
      have hxm : x ∈ b := by rw [hx]; simp
      obtain ⟨m, hm⟩ := Int.ofNat_dvd_left.mpr ((gF_dvd (l := a ++ b) (d := 0)).2 x (by simp [hxm]))
      have hm : x.2 = (gN (a ++ b) : Nat) * m := hm
      have hd : (x.2 * s).fdiv (1 * ((gN (a ++ b) : Nat) : Int)) = m * s := by rw [hm]; exact fdiv_exact g0
      have hh : ((brt s (gN (a ++ b)) sh b).headD ([], 0)).2 = m * s := by
        have : (brt s (gN (a ++ b)) sh b).headD ([], 0) = (subK x.1 sh, (x.2 * s).fdiv (1 * ((gN (a ++ b) : Nat) : Int))) := by rw [hx]; rfl
        rw [this]; exact hd
      unfold sgF
      rw [hh, if_pos ?_]
      have hx0 := hb.nr.2 x hxm
      have hsx : s = if 0 < x.2 then 1 else -1 := by rw [← hs, hx]; rfl
      have gp : (0 : Int) < (gN (a ++ b) : Nat) := by omega
      by_cases hp : 0 < x.2
      · rw [hsx, if_pos hp, Int.mul_one]
        rw [hm] at hp
        rcases Classical.em (0 < m) with z | z
        · exact z
        · have := Int.mul_nonneg (show (0:Int) ≤ (gN (a ++ b) : Nat) by omega) (show 0 ≤ -m by omega)
          rw [Int.mul_neg] at this
          omega
      · rw [hsx, if_neg hp]
        have hneg : x.2 < 0 := by omega
        rw [hm] at hneg
        have : m < 0 := by
          rcases Classical.em (m < 0) with z | z
          · exact z
          · have := Int.mul_nonneg (show (0:Int) ≤ (gN (a ++ b) : Nat) by omega) (show 0 ≤ m by omega)
            omega
        omega
    have lzero : leastK (brt s (gN (a ++ b)) sh a ++ brt s (gN (a ++ b)) sh b) n = List.replicate n 0 := by
      rw [← brt_append]
      refine least_zero fun j hj => ?_
      have ne : colK (a ++ b) j ≠ [] := by simp [colK, na]
      have hc : colK (brt s (gN (a ++ b)) sh (a ++ b)) j = (colK (a ++ b) j).map fun x => x - sh.getD j 0 := by
        unfold colK brt
        rw [List.map_map, List.map_map]
        refine List.map_congr_left fun q hq => ?_
        have hk : BK n E q.1 := (List.mem_append.mp hq).elim (ha.ab q) (hb.ab q)
        exact sub_at (by rw [hk.1, hshl]) j
      rw [hc, mn_sub ne, ← hsh, least_at hj]
      omega
    have same : ∀ {x : M}, Poly n E C N x → nrm (brt 1 ((1 : Nat) : Int) (List.replicate n 0) x) = x := fun {x} hx => by
      have : brt 1 ((1 : Nat) : Int) (List.replicate n 0) x = x := by
        unfold brt
        have : ∀ q ∈ x, (subK q.1 (List.replicate n 0), (q.2 * 1).fdiv (1 * ((1 : Nat) : Int))) = q := fun q hq => by
          rw [sub_zero n (hx.ab q hq).1]
          simp
        calc x.map _ = x.map id := List.map_congr_left this
          _ = x := List.map_id _
      rw [this, nrm_id hE hx.ab hx.nr]
    unfold mkQ
    rw [if_neg na', gone, sone, lzero, same pa, same pb]
end
/-! ### letters that become 1 -/
def lo (L : List Int) (k : List Int) : List Int := k.zipIdx.map fun p => if (p.2 : Int) ∈ L then 0 else p.1
def loM (L : List Int) (l : M) : M := l.map fun q => (lo L q.1, q.2)
theorem lo_length (L k : List Int) : (lo L k).length = k.length := by simp [lo]
theorem lo_at {L k : List Int} {j : Nat} {x : Int} (h : k[j]? = some x) : (lo L k)[j]? = some (if (j : Int) ∈ L then 0 else x) := by
  unfold lo
  rw [List.getElem?_map, List.getElem?_zipIdx, h]; simp
theorem lo_nil (k : List Int) : lo [] k = k := by
  refine List.ext_getElem? fun j => ?_
  cases q : k[j]? with
  | none =>
    rw [List.getElem?_eq_none_iff] at q ⊢
    rw [lo_length]; exact q
  | some x => rw [lo_at q]; simp
theorem lo_same {L L' : List Int} (h : ∀ x, x ∈ L ↔ x ∈ L') (k : List Int) : lo L k = lo L' k := by
  unfold lo
  refine List.map_congr_left fun p _ => ?_
  simp only [h]
theorem BK.lo {n : Nat} {E : Int} {L k : List Int} (h : BK n E k) (hE : 1 ≤ E) : BK n E (lo L k) := by
  refine ⟨by rw [lo_length, h.1], fun x hx => ?_⟩
  obtain ⟨p, hp, e⟩ := List.mem_map.mp hx
  have hm : p.1 ∈ k := by
    obtain ⟨y, i⟩ := p
    exact (List.mem_zipIdx hp).2.2 ▸ List.getElem_mem _
  have := h.2 _ hm
  split at e <;> omega
theorem AB.lo {n : Nat} {E : Int} {L : List Int} {l : M} (h : AB n E l) (hE : 1 ≤ E) : AB n E (loM L l) := fun q hq => by
  obtain ⟨r, hr, rfl⟩ := List.mem_map.mp hq
  exact (h r hr).lo hE
theorem loM_nil (l : M) : loM [] l = l := by
  unfold loM
  calc l.map _ = l.map id := List.map_congr_left fun q _ => by rw [lo_nil]; rfl
    _ = l := List.map_id _
theorem nrm_poly {n N : Nat} {E C : Int} {l : M} (hE : E ≤ 1000) (h : AB n E l) (hc : ∀ q ∈ l, q.2.natAbs ≤ C) (hC : 0 ≤ C) (hl : l.length ≤ N) : Poly n E (N * C) N (nrm l) := by
  refine ⟨nrm_Nrm hE h, h.nrm, fun q hq => ?_, Nat.le_trans nrm_len hl⟩
  obtain ⟨_, e, _⟩ := nrm_mem hq
  rw [e]
  refine Int.le_trans (cf_le hC hc) (Int.mul_le_mul_of_nonneg_right (by exact_mod_cast hl) hC)
end Pn
/-! AS19: displays, comprehensions and calls whose values are told by what holds of them; polynomials as dicts. -/
namespace AS
open PySem L2 XC
section
variable {K : PySem.W.Frag} {F Hb Hb' H H' : Hp} {σ : L2.St} {es es1 es2 : List En} {as as' : List Addr} {W W1 W2 W3 W' : List Cn} {e e1 e2 r : En} {ta tb te tc td ty to tx : TE} {d d1 d2 : D} {v : V} {P : Po} {t u : TS} {tt : TT} {post post2 : En → List Cn → Prop}
def EAp (K : PySem.W.Frag) (tA : TA) (es : List En) (W : List Cn) (post : List En → List Cn → Prop) : Prop :=
  ∀ F Hb H σ as, ST K F Hb H σ es W as → ∀ Q : List V → Hp → Prop, (∀ vs Hb' H' as' l W', post l W' → Gr as as' → Same Hb Hb' → ST K F Hb' H' σ es W' as' → Paired (RE K Hb' as') vs l → Q vs H') → tA σ H Q
theorem EVp.imp (h : EVp K te es W post) (i : ∀ e w, post e w → post2 e w) : EVp K te es W post2 := fun F Hb H σ as S Q k => h F Hb H σ as S Q fun v Hb' H' as' e w p => k v Hb' H' as' e w (i e w p)
theorem EV.q (h : EV K te es W e W1) (p : post e W1) : EVp K te es W post := fun F Hb H σ as S Q k => h F Hb H σ as S Q fun v Hb' H' as' g s S' r => k v Hb' H' as' e W1 p g s S' r
theorem eap_nil {p : List En → List Cn → Prop} (h : p [] W) : EAp K tNil es W p := fun F Hb H σ as S Q k => k [] Hb H as [] W h (Gr.refl _) (Same.refl _) S .nil
theorem eap_cons {tA : TA} {p2 : List En → List Cn → Prop} (ha : EVp K ta es W post) (hr : ∀ e w, post e w → EAp K tA es w fun l w' => p2 (e :: l) w') : EAp K (tCons ta tA) es W p2 := fun F Hb H σ as S Q k =>
  ha F Hb H σ as S _ fun v Hb1 H1 as1 e w hp g1 s1 S1 r1 => hr e w hp F Hb1 H1 σ as1 S1 _ fun vs Hb2 H2 as2 l w2 hp2 g2 s2 S2 r2 => k (v :: vs) Hb2 H2 as2 (e :: l) w2 hp2 (g1.trans g2) (s1.trans s2) S2 (.cons (RE.mono g2 s2 r1) r2)
/-- .. the rest as it is known -/
theorem eap_consV {tA : TA} {p2 : List En → List Cn → Prop} (ha : EV K ta es W e W1) (hr : EAp K tA es W1 fun l w' => p2 (e :: l) w') : EAp K (tCons ta tA) es W p2 := eap_cons (EV.p ha) fun e' w h => by
  obtain ⟨rfl, rfl⟩ := h
  exact hr
theorem evp_tup {tA : TA} (h : EAp K tA es W fun l w => l.length ≤ 1000 ∧ ∃ ds : List D, l = ds.map .dat ∧ post (.dat (.tup ds)) w) : EVp K (tTup tA) es W post := fun F Hb H σ as S Q k =>
  h F Hb H σ as S _ fun vs Hb1 H1 as1 l w hp g1 s1 S1 r1 => by
    obtain ⟨hl, ds, rfl, hq⟩ := hp
    have hlen := paired_length r1
    refine ⟨by rw [sizeLine_eq]; omega, fun p hp => ?_⟩
    obtain ⟨S2, s2⟩ := S1.new (o := .tup vs) hp
    exact k (.ref p) _ _ as1 _ w hq g1 (s1.trans s2) S2 (.tup (.inl (.inl upd_same)) (DtA.mono s2 _ _ (DtA.of_dat (xs := vs) r1)))
theorem evp_lst {tA : TA} (h : EAp K tA es W fun l w => l.length ≤ 1000 ∧ ∃ ds : List D, l = ds.map .dat ∧ post (.dat (.lst ds)) w) : EVp K (tLst tA) es W post := fun F Hb H σ as S Q k =>
  h F Hb H σ as S _ fun vs Hb1 H1 as1 l w hp g1 s1 S1 r1 => by
    obtain ⟨hl, ds, rfl, hq⟩ := hp
    have hlen := paired_length r1
    refine ⟨by rw [sizeLine_eq]; omega, fun p hp => ?_⟩
    obtain ⟨S2, s2⟩ := S1.new (o := .lst vs) hp
    exact k (.ref p) _ _ as1 _ w hq g1 (s1.trans s2) S2 (.lst upd_same (DtA.mono s2 _ _ (DtA.of_dat (xs := vs) r1)))
/-- x, y = e, f -/
theorem sd_parP {i j : Nat} {tA : TA} {p : List En → List Cn → Prop} (h : EAp K tA es W p) (h2 : ∀ l w, p l w → ∃ a b, l = [a, b] ∧ SD K u ((es.set i a).set j b) w P) : SD K (tSeq (tPar i j tA) u) es W P := fun F Hb H σ as D S k =>
  h F Hb H σ as S _ fun vs Hb1 H1 as1 l w hp g1 s1 S1 r1 => by
    obtain ⟨a, b, rfl, hu⟩ := h2 l w hp
    cases r1 with
    | cons a1 t1 => cases t1 with
      | cons a2 t2 => cases t2 with
        | nil => exact ⟨_, _, rfl, hu F Hb1 H1 _ as1 D ((S1.set a1).set a2) (k.on g1 s1)⟩
/-- a target behind a value told by what holds of it -/
theorem sd_asgGP {g : TG} {js : List Nat} (h : EVp K te es W post) (h2 : ∀ e w, post e w → ∃ es1, EG K g js e es w es1 ∧ SD K u es1 w P) : SD K (tSeq (tAsg te g) u) es W P := fun F Hb H σ as D S k =>
  h F Hb H σ as S _ fun v Hb1 H1 as1 e w hp g1 s1 S1 r1 => by
    obtain ⟨es1, hg, hu⟩ := h2 e w hp
    exact hg F Hb1 H1 σ as1 v S1 r1 _ fun σ' _ S2 => hu F Hb1 H1 σ' as1 D S2 (k.on g1 s1)
/-- t[i], t a tuple told by what holds of it -/
theorem evp_ix {i : Int} (ha : EVp K ta es W post) (hp : ∀ e w, post e w → ∃ (ds : List D) (d : D), e = .dat (.tup ds) ∧ atI ds i = some d ∧ post2 (.dat d) w) : EVp K (tOp (rIx K) ta (tC (.int i))) es W post2 := fun F Hb H σ as S Q k =>
  ha F Hb H σ as S _ fun v Hb1 H1 as1 e w h g1 s1 S1 r1 => by
    obtain ⟨ds, d, rfl, hi, h2⟩ := hp e w h
    show rIx K v (.int i) H1 Q
    cases r1 with
    | @tup a xs _ q1 q2 =>
      have hi' : atI (ds.map En.dat) i = some (.dat d) := by
        unfold atI at hi ⊢
        rw [List.length_map]
        cases q : ixN ds.length i with
        | none => rw [q] at hi; cases hi
        | some j =>
          rw [q] at hi
          have hi : ds[j]? = some d := hi
          show (ds.map En.dat)[j]? = some (.dat d)
          rw [List.getElem?_map, hi]; rfl
      obtain ⟨w', hw, rw'⟩ := atI_paired (P := RE K Hb1 as1) (DtA.to_dat q2) hi'
      exact .inr (.inl ⟨a, xs, i, w', rfl, rfl, same_t S1.base q1, hw, k _ _ _ as1 _ w h2 g1 s1 S1 rw'⟩)
/-- tuple(xs) of whole numbers told by what holds of them -/
theorem evp_tupleK {Rl : List Int → List Cn → Prop} (ha : EVp K ta es W fun e w => ∃ l : List Int, e = .dat (.lst (l.map D.int)) ∧ Rl l w) : EVp K (tCB (fun xs H Q => ∃ p ys, xs = [.ref p] ∧ ((SqL K H p ys ∧ ∀ l, H l = none → Q (.ref l) (upd H l (.tup ys))) ∨ (SqT K H p ys ∧ Q (.ref p) H))) (tCons ta tNil)) es W fun e w => ∃ l : List Int, e = .dat (.key l) ∧ Rl l w := fun F Hb H σ as S Q k =>
  ha F Hb H σ as S _ fun v Hb1 H1 as1 e w h g1 s1 S1 r1 => by
    obtain ⟨l, rfl, hl⟩ := h
    cases r1 with
    | @lst a xs _ q1 q2 =>
      have e : xs = l.map V.int := DtA.ints_of l q2
      subst e
      refine ⟨a, _, rfl, .inl ⟨SqL.of (S1.base _ _ q1), fun p hp => ?_⟩⟩
      obtain ⟨S2, s2⟩ := S1.new (o := .tup (l.map V.int)) hp
      exact k (.ref p) _ _ as1 _ w ⟨l, rfl, hl⟩ g1 (s1.trans s2) S2 (.key upd_same)
/-- a comprehension whose elements are told by what holds of them -/
theorem evp_lc {wi : TI} {g : TG} {vs js : List Nat} {l : List En} {stay : List Cn → Prop} {W0 : List Cn} (hi : EI K wi es W l stay W0) (I : Nat → List Cn → List D → Prop) (h0 : I 0 W0 []) (hl : l.length ≤ 1000000) (hst : ∀ i w acc, I i w acc → stay w) (hjs : ∀ j ∈ js, j ∈ vs)
    (step : ∀ i x w acc, l[i]? = some x → I i w acc → ∃ e2 Wt, EG K g js x (wipeE es vs) w e2 ∧ ET K tt e2 w true Wt ∧ EVp K te e2 Wt fun e w' => ∃ d, e = .dat d ∧ I (i + 1) w' (acc ++ [d])) :
    EVp K (tLc wi g tt te vs) es W fun e w => ∃ acc, e = .dat (.lst acc) ∧ I l.length w acc := fun F Hb H σ as S Q k =>
  hi F Hb H σ as S _ fun J Hb1 H1 as1 g1 s1 S1 walk p hp => by
    have hF : F p = none := S1.frm.free hp
    refine ⟨fun i m H' => m = l.length - i ∧ i ≤ l.length ∧ ∃ Hb' as' acc ds w, Gr as1 as' ∧ Same Hb1 Hb' ∧ DtA K Hb' acc ds ∧ ds.length = i ∧ I i w ds ∧ ST K (upd F p (.lst acc)) Hb' H' (L2.wipe σ vs) (wipeE es vs) w as',
      ⟨l.length, by simp, Nat.zero_le _, Hb1, as1, [], [], W0, Gr.refl _, Same.refl _, .nil, rfl, h0, (S1.outside hp NT.lst).wipe vs⟩, ?_⟩
    rintro i m H' ⟨rfl, hil, Hb2, as2, acc, ds, w, g2, s2, hacc, hds, hI, S2⟩
    have wk := walk i _ Hb2 H' _ _ _ as2 S2 s2 g2 (hst i w ds hI)
    by_cases hlt : i < l.length
    · obtain ⟨hgo, hyl⟩ := wk.1 l[i] (by simp [hlt])
      refine .inr ⟨hgo, fun H3 => ∃ Hb' as' acc ds w, Gr as1 as' ∧ Same Hb1 Hb' ∧ DtA K Hb' acc ds ∧ ds.length = i + 1 ∧ I (i + 1) w ds ∧ ST K (upd F p (.lst acc)) Hb' H3 (L2.wipe σ vs) (wipeE es vs) w as', fun H3 h => ⟨l.length - (i + 1), by omega, rfl, hlt, h⟩, fun x H3 hy => ?_⟩
      obtain ⟨Hb3, s3, S3, r3, _⟩ := hyl x H3 hy
      obtain ⟨e2, Wt, hg, ht, he⟩ := step i l[i] w ds (by simp [hlt]) hI
      refine hg _ Hb3 H3 _ as2 x S3 r3 _ fun σ4 hw S4 => ⟨by rw [hw vs hjs, wipe_wipe], ?_⟩
      have lenacc : acc.length < sizeLine := by rw [hacc.length, hds, sizeLine_eq]; omega
      refine ht _ Hb3 H3 σ4 as2 S4 _ fun Hb5 H5 as5 g5 s5 S5 => ?_
      show te σ4 H5 _
      refine he _ Hb5 H5 σ4 as5 S5 _ fun y Hb6 H6 as6 e w6 hp6 g6 s6 S6 r6 => ?_
      obtain ⟨d, rfl, hI6⟩ := hp6
      refine ⟨acc, S6.frm p _ upd_same, lenacc, Hb6, as6, acc ++ [y], ds ++ [d], w6, (g2.trans g5).trans g6, ((s2.trans s3).trans s5).trans s6, (DtA.mono ((s3.trans s5).trans s6) _ _ hacc).append (.cons r6 .nil), by simp [hds], hI6, ?_⟩
      exact (S6.outset NT.lst).slots ((S.wipe vs).sl) fun i e h => RS.mono (g5.trans g6) ((s3.trans s5).trans s6) (S2.slot i e h)
    · have e : i = l.length := by omega
      subst e
      refine .inl ⟨wk.2 (Nat.le_refl _), ?_⟩
      obtain ⟨S5, s5⟩ := S2.adopt hF
      have S6 : ST K F (upd Hb2 p (.lst acc)) H' σ es w as2 := S5.slots S.sl fun i e h => RS.mono (g1.trans g2) ((s1.trans s2).trans s5) (S.slot i e h)
      exact k _ _ _ _ _ w ⟨ds, rfl, hI⟩ (g1.trans g2) ((s1.trans s2).trans s5) S6 (.lst upd_same (DtA.mono s5 _ _ hacc))
end
/-! ### dicts with tuple keys that bear whole numbers -/
open Pn
/-- a dict whose values are f of numbers -/
def dF (f : Int → D) (m : M) : List (List Int × D) := m.map fun q => (q.1, f q.2)
abbrev dI (m : M) : List (List Int × D) := dF D.int m
theorem look_dF {f : Int → D} {m : M} {k : List Int} : lookT (dF f m) k = (getM m k).map f := by
  unfold lookT getM dF
  induction m with
  | nil => rfl
  | cons q m ih =>
    rw [List.map_cons, List.find?_cons, List.find?_cons]
    by_cases h : q.1 = k
    · simp [h]
    · simp only [h, decide_false]; exact ih
theorem put_dF {f : Int → D} {m : M} {k : List Int} {n : Int} : putT (dF f m) k (f n) = dF f (putM m k n) := by
  have e : ((dF f m).any fun kv => decide (kv.1 = k)) = (m.any fun q => decide (q.1 = k)) := by
    unfold dF; rw [List.any_map]; rfl
  unfold putT putM
  rw [e]
  split
  · unfold dF
    rw [List.map_map, List.map_map]
    refine List.map_congr_left fun q _ => ?_
    show (if q.1 = k then (q.1, f n) else (q.1, f q.2)) = ((if q.1 = k then (q.1, n) else q).1, f (if q.1 = k then (q.1, n) else q).2)
    split <;> rfl
  · simp [dF]
theorem look_dI {m : M} {k : List Int} : lookT (dI m) k = (getM m k).map D.int := look_dF
theorem put_dI {m : M} {k : List Int} {n : Int} : putT (dI m) k (.int n) = dI (putM m k n) := put_dF
theorem dF_keys (f : Int → D) (m : M) : (dF f m).map (·.1) = Pn.ks m := by
  unfold dF Pn.ks; rw [List.map_map]; rfl
theorem dI_keys (m : M) : (dI m).map (·.1) = Pn.ks m := dF_keys _ m
theorem dI_vals (m : M) : (dI m).map (·.2) = m.map fun q => D.int q.2 := by
  unfold dI dF; rw [List.map_map]; rfl
theorem dF_length (f : Int → D) (m : M) : (dF f m).length = m.length := by simp [dF]
theorem zip_dI (m : M) : (Pn.ks m).zip (m.map fun q => D.int q.2) = dI m := by
  unfold Pn.ks dI dF
  induction m with
  | nil => rfl
  | cons q m ih => rw [List.map_cons, List.map_cons, List.zip_cons_cons, ih]; rfl
/-- the dict as data -/
def dD (m : M) : D := .kd (Pn.ks m) (m.map fun q => D.int q.2)
theorem dicE_dD {W : List Cn} (m : M) : DicE W (.dat (dD m)) = some (dI m) := by
  show some ((Pn.ks m).zip (m.map fun q => D.int q.2)) = _
  rw [zip_dI]
theorem dicE_ptr {W : List Cn} {i : Nat} {kvs : List (List Int × D)} (h : W[i]? = some (.dt kvs)) : DicE W (.ptr i) = some kvs := by simp only [DicE, h]
theorem dI_length (m : M) : (dI m).length = m.length := by simp [dI, dF]
theorem dI_append (a b : M) : dI (a ++ b) = dI a ++ dI b := by simp [dI, dF]
/-- later pairs whose keys are new -/
theorem merge_new : ∀ {l m : M}, ND (m ++ l) → mergeD (dI m) (dI l) = dI (m ++ l)
  | [], m, _ => by rw [List.append_nil]; rfl
  | q :: l, m, h => by
    show mergeD (putT (dI m) q.1 (D.int q.2)) (dI l) = _
    have hn : q.1 ∉ Pn.ks m := fun z => by
      unfold ND Pn.ks at h
      rw [List.map_append, List.nodup_append] at h
      exact h.2.2 _ z _ (by simp) rfl
    rw [put_dI, putM_new hn]
    have e : m ++ q :: l = (m ++ [(q.1, q.2)]) ++ l := by simp
    rw [e] at h ⊢
    exact merge_new h
theorem merge_nd {m : M} (h : ND m) : mergeD [] (dI m) = dI m := merge_new (m := []) h
end AS
/-! AS20: own classes: made by their names, compared by their own __eq__. -/
namespace AS
open PySem PySem.Spec PyProof.Rows L2 XC
/-- a class of the top with __init__ and __eq__ of its own -/
structure OwnC (K : PySem.W.Frag) (mg : Str → Option Value) (C : Addr) (x qi qe : Str) (si se : Stmt) : Prop where
  g : mg x = some (.ref C)
  ins : C8.InsC K C
  makes : ∃ (f : Addr) (fd : FuncData), Mk K C f ∧ Fun K "__init__" qi si f fd
  eq : ∃ (f : Addr) (fd : FuncData), PySem.W.findIn K (.ref C) "__eq__" = some (some (.ref f)) ∧ PySem.W.isFn K (.ref f) = true ∧ Fun K "__eq__" qe se f fd
  ne : PySem.W.findIn K (.ref C) "__ne__" = some (some (.builtin "object.__ne__"))
def MakA (P : Program) (w : World) (K : PySem.W.Frag) (mg : Str → Option Value) (base : Heap) (CX : CXT) (k : Nat) (x : Str) (C : Addr) (ps : List Str) (sp : Sp) : Prop :=
  ∃ (f : Addr) (fd : FuncData), Mk K C f ∧ FnOk P w K mg base CX k f fd ps sp ∧ mg x = some (.ref C) ∧ Binds K fd ps []
def EqA (P : Program) (w : World) (K : PySem.W.Frag) (mg : Str → Option Value) (base : Heap) (k : Nat) (C : Addr) (ps : List Str) (R : Addr → Addr → Hp → Prop) : Prop :=
  ∃ (f : Addr) (fd : FuncData), PySem.W.findIn K (.ref C) "__eq__" = some (some (.ref f)) ∧ PySem.W.isFn K (.ref f) = true ∧ FnOk P w K mg base CX0 k f fd ps (spEq R) ∧ Binds K fd ps []
section
variable {P : Program} {w : World} {K : PySem.W.Frag} {mg : Str → Option Value} {base : Heap} {C : Addr} {x qi qe : Str} {si se : Stmt} {N ps : List Str} {k : Nat} {sp : Sp}
theorem OwnC.mak (O : OwnC K mg C x qi qe si se) (S : FnScope N ps (defScope si)) (len : ∀ vs H Q E, sp vs H Q E → vs.length = ps.length)
    (hb : ∀ (kV doc pm : Value) (an : Option Addr) (cdv ct : Value) (us : List Value), us.length = ps.length → bindArgs (PySem.W.fnOf "__init__" qi (defArgs si) (defBody si) (defScope si) .none kV doc pm an cdv ct) ⟨us, []⟩ = pure (ps.zip us))
    (hbody : ∀ (f : Addr) (cdv : Value) (A : Around) (outer : List Env) (s : Shared) (H : Hp) (vs : List V) (Q : VK) (E : XK), Room k (A.deeper (envOfC qi (defScope si) s.heap.objs.size f cdv)) → sp vs H Q E →
      ∃ t, PSs (cxOf CX0 P w K mg base N qi (defScope si) f cdv A outer s H E).nox (defBody si) t ∧ t { nx := fun _ H' => Q .non H', rt := Q } (L2.start N vs) H) : MakA P w K mg base CX0 (k + 1) x C ps sp := by
  obtain ⟨f, fd, M, F⟩ := O.makes
  exact ⟨f, fd, M, F.ok S len (fun cdv A outer s H vs Q E => hbody f cdv A outer s H vs Q E), O.g, F.binds hb⟩
/-- .. that may raise -/
theorem OwnC.makX (O : OwnC K mg C x qi qe si se) (S : FnScope N ps (defScope si)) (len : ∀ vs H Q E, sp vs H Q E → vs.length = ps.length)
    (hb : ∀ (kV doc pm : Value) (an : Option Addr) (cdv ct : Value) (us : List Value), us.length = ps.length → bindArgs (PySem.W.fnOf "__init__" qi (defArgs si) (defBody si) (defScope si) .none kV doc pm an cdv ct) ⟨us, []⟩ = pure (ps.zip us))
    (hbody : ∀ (f : Addr) (cdv : Value) (A : Around) (outer : List Env) (s : Shared) (H : Hp) (vs : List V) (Q : VK) (E : XK), Room k (A.deeper (envOfC qi (defScope si) s.heap.objs.size f cdv)) → sp vs H Q E →
      ∃ t, PSs (cxOf (L2.CX P w) P w K mg base N qi (defScope si) f cdv A outer s H E) (defBody si) t ∧ t { nx := fun _ H' => Q .non H', rt := Q } (L2.start N vs) H) : MakA P w K mg base (L2.CX P w) (k + 1) x C ps sp := by
  obtain ⟨f, fd, M, F⟩ := O.makes
  exact ⟨f, fd, M, F.okX S len (fun cdv A outer s H vs Q E => hbody f cdv A outer s H vs Q E), O.g, F.binds hb⟩
theorem OwnC.eqA {R : Addr → Addr → Hp → Prop} (O : OwnC K mg C x qi qe si se) (S : FnScope N ps (defScope se)) (len : ∀ vs H Q E, spEq R vs H Q E → vs.length = ps.length)
    (hb : ∀ (kV doc pm : Value) (an : Option Addr) (cdv ct : Value) (us : List Value), us.length = ps.length → bindArgs (PySem.W.fnOf "__eq__" qe (defArgs se) (defBody se) (defScope se) .none kV doc pm an cdv ct) ⟨us, []⟩ = pure (ps.zip us))
    (hbody : ∀ (f : Addr) (cdv : Value) (A : Around) (outer : List Env) (s : Shared) (H : Hp) (vs : List V) (Q : VK) (E : XK), Room k (A.deeper (envOfC qe (defScope se) s.heap.objs.size f cdv)) → spEq R vs H Q E →
      ∃ t, PSs (cxOf CX0 P w K mg base N qe (defScope se) f cdv A outer s H E).nox (defBody se) t ∧ t { nx := fun _ H' => Q .non H', rt := Q } (L2.start N vs) H) : EqA P w K mg base (k + 1) C ps R := by
  obtain ⟨f, fd, e1, e2, F⟩ := O.eq
  exact ⟨f, fd, e1, e2, F.ok S len (fun cdv A outer s H vs Q E => hbody f cdv A outer s H vs Q E), F.binds hb⟩
end
section
variable {X : Cx} {C : Addr} {x : Str} {p pos : Pos} {e : Expr} {es : List Expr} {t : TA} {k : Nat} {ps : List Str} {sp : Sp} {R : Addr → Addr → Hp → Prop} {E : XK}
theorem pe_makA (M : MakA X.prog X.w X.K X.mg X.base CX0 k x C ps sp) (hr : Room (k + 1) X.A) (hg : Gl X x) (ha : PA X (e :: es) t) (hdb : (x == ("__debug__" : Str)) = false := by decide) (he : starEach (e :: es) X.env = (false, eval e X.env) :: starEach es X.env := by rfl) (hpl : (backTo pos (starEach es X.env)).any (·.1) = false := by rfl) :
    PE X (.Call (.Name x p) (e :: es) [] pos) (tMake C sp [] E0 t) := by
  obtain ⟨f, fd, m, F, hm, hb⟩ := M
  exact pe_make m F hr hg hm hb .nil pass0 ha hdb he hpl
theorem pe_makX (M : MakA X.prog X.w X.K X.mg X.base (L2.CX X.prog X.w) k x C ps sp) (hx : Passes (L2.CX X.prog X.w) X E) (hr : Room (k + 1) X.A) (hg : Gl X x) (ha : PA X (e :: es) t) (hdb : (x == ("__debug__" : Str)) = false := by decide) (he : starEach (e :: es) X.env = (false, eval e X.env) :: starEach es X.env := by rfl) (hpl : (backTo pos (starEach es X.env)).any (·.1) = false := by rfl) :
    PE X (.Call (.Name x p) (e :: es) [] pos) (tMake C sp [] E t) := by
  obtain ⟨f, fd, m, F, hm, hb⟩ := M
  exact pe_make m F hr hg hm hb .nil hx ha hdb he hpl
theorem op_eqA2 (Q : EqA X.prog X.w X.K X.mg X.base k C ps R) (hr : Room k X.A) : OpR X (compareOp .Eq) (rEqG (DIns C R)) := by
  obtain ⟨f, fd, e1, e2, F, hb⟩ := Q
  exact op_eqG (rcG_ins F e1 e2 hb pass0) hr
theorem op_neA2 (Q : EqA X.prog X.w X.K X.mg X.base k C ps R) (hn : PySem.W.findIn X.K (.ref C) "__ne__" = some (some (.builtin "object.__ne__"))) (hm : PySem.W.mroIn X.K C (.type "object") = some true) (hr : Room (k + 1) X.A) : OpR X (compareOp .NotEq) (rNeG (DIns C R)) := by
  obtain ⟨f, fd, e1, e2, F, hb⟩ := Q
  exact op_neIns F hm hn e1 e2 hb pass0 hr
end
section
variable {K : PySem.W.Frag} {es : List En} {W W1 W2 : List Cn} {ta tb : TE} {d : D} {e1 : En}
/-- the same data twice -/
theorem ev_eqSame (ha : EV K ta es W (.dat d) W1) (hb : EV K tb es W1 (.dat d) W2) (hf : d.flat 9 = true) : EV K (tOp (rEqA K) ta tb) es W (.dat (.bl true)) W2 := by
  obtain ⟨p, b1, b2, b3⟩ := flat_py 9 d hf
  obtain ⟨q, c1, c2⟩ := flat_shaped hf
  rw [b1] at c1; cases c1
  exact ev_is (ev_eqD ha hb b1 b1 c2 c2) (by rw [SeqAt.eqv_refl p b2])
/-- t == () -/
theorem ev_eqNilT {l : List D} (ha : EV K ta es W (.dat (.tup l)) W1) (hf : (D.tup l).flat 9 = true) : EV K (tOp (rEqA K) ta (tTup tNil)) es W (.dat (.bl l.isEmpty)) W1 := by
  obtain ⟨p, c1, c2⟩ := flat_shaped hf
  obtain ⟨ps, h1, rfl⟩ : ∃ ps, D.pys l = some ps ∧ p = .tuple ps := by
    unfold D.py at c1
    cases q : D.pys l with
    | none => rw [q] at c1; cases c1
    | some x => rw [q] at c1; cases c1; exact ⟨x, rfl, rfl⟩
  refine ev_is (ev_eqD (d2 := .tup []) (q := .tuple []) ha (ev_tup (l := []) ea_nil (by simp)) c1 rfl c2 (by decide +kernel)) ?_
  rw [show PyData.eqv (.tuple ps) (.tuple []) = PyData.eqvAll ps [] from rfl, eqvAll_nil, D.pys_len h1]
end
theorem u64 {k : Nat} {A : Around} (r : Room k A) : A.units + 64 < cLine := by have := r.un; omega
end AS
/-! X7: several except clauses that bind one name, where some clause takes the exception. -/
namespace XC
open PySem PySem.Spec PyProof.Rows L2
abbrev Sui := Addr → Value → Option Addr → TS
/-- behind a clause its name is gone -/
def goneD (i : Nat) (D : Ends) : Ends := { nx := fun τ G => D.nx (τ.set i none) G, rt := D.rt, bk := fun τ G => D.bk (τ.set i none) G, ct := fun τ G => D.ct (τ.set i none) G }
/-- what the clauses wish, one after the other -/
def wClauses (K : PySem.W.Frag) (i : Nat) (D : Ends) : List (Value × Sui) → WX
  | [] => fun _ _ _ _ => False
  | q :: r => fun cls d τ G => ∃ b, PySem.W.exmOne K cls q.1 = some b ∧ (b = true → ∀ ea, G ea = none → q.2 ea cls d (goneD i D) (τ.set i (some (.ref ea))) G) ∧ (b = false → wClauses K i D r cls d τ G)
inductive Clauses (X : Cx) (n : Str) : List ExceptHandler → List (Value × Sui) → Prop
  | nil : Clauses X n [] []
  | cons {x : Str} {c : Value} {ts : Sui} {st : Stmt} {sts : List Stmt} {p1 p2 : Pos} {more : List ExceptHandler} {l : List (Value × Sui)} (hc : Names X x c)
      (hsu : ∀ (ea : Addr) (ob : Obj) (cls : Value) (d : Option Addr) (qs : List (Addr × Obj)), Zc cls d ob → (∃ us, ob.data = .fields us) → PSs (X.suite ea ((ea, ob) :: qs)) (st :: sts) (ts ea cls d)) (r : Clauses X n more l) :
      Clauses X n (.ExceptHandler (some (.Name x p1)) (some n) (st :: sts) p2 :: more) ((c, ts) :: l)
section
variable {X : Cx} {body : List Stmt} {hd1 : ExceptHandler} {hds : List ExceptHandler} {l : List (Value × Sui)} {pos : Pos} {tb : WX → TS} {n : Str} {i : Nat}
theorem ps_clauses (stk : X.stack = X.env :: X.outer) (frm : X.env.frame = some X.env.locals) (nd : X.N.Nodup) (at_ : X.N[i]? = some n) (kd : X.env.kindOf n = some .local)
    (hb : ∀ (W : WX) (qs : List (Addr × Obj)) (xe : Value → Shared → Prop), Takes (X.tr qs xe) W → PassesOwn (model X.prog X.w) X.A X.env xe → PSs (X.tr qs xe) body (tb W)) (hh : Clauses X n (hd1 :: hds) l) :
    PS X (.Try body (hd1 :: hds) [] [] pos) (fun D τ G => tb (wClauses X.K i D l) D τ G) := by
  refine ⟨fun ps s0 τ0 G0 D I h => ?_⟩
  have ok := I.ok
  have hloc : Loc X.env.scope n := .inl kd
  have frames : X.A.frames = some (X.env :: X.outer) := by rw [ok.frames, stk]
  refine wpAny_Try_except ?_
  have run := (hb (wClauses X.K i D l) (X.pn ++ ps) (fun e t1 => wpAny (model X.prog X.w) X.A (noteFrame e X.env) (fun _ t2 => wpAny (model X.prog X.w) X.A (setFlight e none) (fun _ t3 => wpAny (model X.prog X.w) X.A (handleBy e X.env (hd1 :: hds)) (SP X ps D) X.xe t3) X.xe t2) X.xe t1) ?caught PassesOwn.looking).run [] s0 τ0 G0 D (I.toTry _) h
  case caught =>
    intro u t xx
    obtain ⟨ea, B, t0, ps', τ, G, cls, d, rfl, J', nb, up, sky, fresh, os, ag, wish⟩ := xx
    have J : Inv X ps τ G t0 := J'.ofTry ok
    have sky2 : Sky B (X.env :: X.outer) ea (Zc cls d) X.env.locals t.heap := by rw [← stk]; exact sky
    show wpAny _ _ (noteFrame (.ref ea) X.env) _ _ t
    refine Sky.land Zc.steady frames frm sky2 fun g1 fly1 up1 => ?_
    have J1 : Inv X ps τ G { t with heap := g1 } := J.landed nb fly1.1 (up.trans up1) os ag
    obtain ⟨ob1, us1, ho1, hz1, hd1'⟩ := fly1.there
    have outside : ea ∉ frs (X.env :: X.outer) := fun hm => by
      obtain ⟨_, o', e', hnf⟩ := fly1.2.2.1.mem hm
      rw [ho1] at e'
      cases e'
      exact hnf _ hd1'
    have nL : ea ≠ X.env.locals := fun z => outside (List.mem_filterMap.mpr ⟨X.env, by simp, by rw [frm, z]⟩)
    have nF : ea ∉ X.fs := fun hm => by
      obtain ⟨en, he, q⟩ := List.mem_filterMap.mp hm
      exact outside (List.mem_filterMap.mpr ⟨en, by simp [he], q⟩)
    have S1 := J1.suite ho1 hd1' fresh nL nF
    have LT : PySem.W.Looks (model X.prog X.w) g1 (typeOf (.ref ea)) cls := fun _ _ _ _ k q => wpAny_typeOf_ref (k _ _ ho1) (by rw [hz1.1]; exact q)
    have walk : ∀ {hs' : List ExceptHandler} {l' : List (Value × Sui)}, Clauses X n hs' l' → wClauses X.K i D l' cls d τ G → wpAny (model X.prog X.w) X.A (handleBy (.ref ea) X.env hs') (SP X ps D) X.xe { t with heap := g1 } := by
      intro hs' l' cl
      induction cl with
      | nil => exact fun w => w.elim
      | @cons x c ts st sts p1 p2 more l2 hc hsu r ih =>
        intro w
        obtain ⟨b, hb1, yes, no⟩ := w
        refine wpAny_handleBy_cons (codeAny_handlers_test ?_) (by intro q; cases q)
        have LM := PySem.W.exm_one (M := model X.prog X.w) J1.kIn LT hb1
        have named : ∀ {Q E : Value → Shared → Prop}, Q c { t with heap := g1 } → wpAny (model X.prog X.w) (X.A.mark (some (.ref ea))) (eval (.Name x p1) X.env) Q E { t with heap := g1 } := fun {Q E} q => by
          obtain ⟨hg, hdbg, hm⟩ := hc
          rcases hm with hm | ⟨hm, hv, hnn⟩
          · exact ld_glob (X := X.suite ea ((ea, ob1) :: (X.pn ++ ps))) S1 hg hm q hdbg
          · exact ld_blt (X := X.suite ea ((ea, ob1) :: (X.pn ++ ps))) S1 hg hm hv q hnn hdbg
        refine named (LM.here ?_)
        cases b with
        | false =>
          show wpAny _ X.A (handleBy (.ref ea) X.env more) _ _ _
          exact ih (no rfl)
        | true =>
          refine codeAny_handlers_suite_as (HandSPX.lands_againZ fly1 fun g2 fly2 up2 => ?_)
          have J2 : Inv X ps τ G { t with heap := g2 } := J.landed nb fly2.1 ((up.trans up1).trans up2) os ag
          obtain ⟨ob2, us2, ho2, hz2, hd2⟩ := fly2.there
          refine store_ok (X := X.suite ea ((ea, ob2) :: (X.pn ++ ps))) (v := .ref ea) (J2.suite ho2 hd2 fresh nL nF) nd at_ hloc rfl (fun t5 S5 => ?_) (.inr kd)
          have go := (hsu ea ob2 cls d (X.pn ++ ps) hz2 ⟨_, hd2⟩).run [] t5 _ G _ S5 (yes rfl ea fresh)
          refine wpAny_mono go (fun f t6 res => ?_) (fun _ _ z => False.elim z)
          have fin : ∀ {τ6 : L2.St} {G6 : Hp} {Q : Shared → Prop}, Inv (X.suite ea ((ea, ob2) :: (X.pn ++ ps))) [] τ6 G6 t6 → (∀ t7, Inv X ps (τ6.set i none) G6 t7 → Q t7) →
              wpAny (model X.prog X.w) X.A (do bindName X.env n .none; unbindBehindTheSuite X.env n p2) (fun _ t7 => Q t7) X.xe t6 := fun {τ6 G6 Q} S6 hq => gone_ok (S6.unsuite ok) nd at_ kd hq
          match f, res with
          | .next, ⟨_, _, S6, q6⟩ => exact fin S6 fun _ J7 => ⟨_, _, J7, q6⟩
          | .brk, ⟨_, _, S6, q6⟩ => exact fin S6 fun _ J7 => ⟨_, _, J7, q6⟩
          | .cont, ⟨_, _, S6, q6⟩ => exact fin S6 fun _ J7 => ⟨_, _, J7, q6⟩
          | .ret _, ⟨_, _, _, S6, r6, q6⟩ => exact fin S6 fun _ J7 => ⟨_, _, _, J7, r6, q6⟩
    exact walk hh wish
  refine wpAny_mono run (fun f t res => ?_) (fun _ _ z => z)
  match f, res with
  | .next, ⟨_, _, J, q⟩ => exact wpAny_execs_nil ⟨_, _, J.ofTry ok, q⟩
  | .brk, ⟨_, _, J, q⟩ => exact ⟨_, _, J.ofTry ok, q⟩
  | .cont, ⟨_, _, J, q⟩ => exact ⟨_, _, J.ofTry ok, q⟩
  | .ret _, ⟨_, _, _, J, r, q⟩ => exact ⟨_, _, _, J.ofTry ok, r, q⟩
end
end XC
/-! AS21: an own error with one field; __init__ that raises; loops ahead of a raise. -/
namespace AS
open PySem PySem.Spec PyProof.Rows L2 XC
/-- what __init__ of an exception with the one field f promises -/
def spInit1 (C : Addr) (f : Str) : Sp := fun vs H Q _ => ∃ (a : Addr) (v : V), vs = [.ref a, v] ∧ H a = some (exo a C none) ∧ ∀ dx, H dx = none → dx ≠ a → Q .non (upd (upd H dx (exd dx [(f, v)])) a (exo a C (some dx)))
section
variable {K : PySem.W.Frag} {C C0 : Addr} {f : Str} {l : List (Str × D)} {E : XK} {F Hb F' Hb' : Hp} {es es1 : List En} {W W1 : List Cn} {ta : TA} {te : TE} {t u : TS} {tt : TT} {e : En}
theorem xs_raise1 {d : D} (A : AccE K C [(f, d)] E F Hb) (ha : EA K ta es W [.dat d] W1) : XS K F Hb (fun _ σ H => tMkO C (spInit1 C f) [] ta σ H fun cls d H' => E cls d H') es W := fun F' Hb' H σ as g s S D =>
  ha F' Hb' H σ as S _ fun vs Hb1 H1 as1 g1 s1 S1 r1 => by
    cases r1 with
    | @cons v _ _ _ a1 t1 => cases t1 with
      | nil =>
        refine ⟨by simp, fun a hn => ⟨a, v, rfl, upd_same, fun dx hdx hne => ⟨rfl, dx, [(f, v)], upd_same, ?_, ?_, ?_⟩⟩⟩
        · rw [upd_ne hne, upd_same]
        · rw [upd_ne hne] at hdx; exact hdx
        · have hd1 : H1 dx = none := by rw [upd_ne hne] at hdx; exact hdx
          obtain ⟨S2, s2⟩ := S1.new (o := .xd [(f, v)]) hd1
          have eH : ∀ G : Hp, (∀ b, b ≠ a → b ≠ dx → G b = H1 b) → upd (L2.del G a) dx (.xd [(f, v)]) = upd H1 dx (.xd [(f, v)]) := fun G hG => by
            funext b
            by_cases hb : b = dx
            · rw [hb, upd_same, upd_same]
            · rw [upd_ne hb, upd_ne hb]
              by_cases hba : b = a
              · rw [hba, L2.del_same, hn]
              · rw [L2.del_ne hba, hG b hba hb]
          rw [eH _ fun b h1 h2 => by rw [upd_ne h1, upd_ne h2, upd_ne h1]]
          exact A _ _ dx _ ((s.trans s1).trans s2) S2.base (g.trans S2.frm) (fun a o q => S2.dis a o (g _ _ q)) upd_same (.cons ⟨rfl, Dt.mono s2 _ _ a1⟩ .nil)
/-- a callee that raises, its objects W -/
def spXW (K : PySem.W.Frag) (C : Addr) (l : List (Str × D)) (args : List En) (W : List Cn) : List V → Hp → XK → Prop := fun vs H E => ∃ F Hb as, ST K F Hb H (vs.map some) args W as ∧ AccE K C l E F Hb
theorem spXW.len {args : List En} {vs : List V} {H : Hp} (h : spXW K C l args W vs H E) : vs.length = args.length := by
  obtain ⟨_, _, _, S, _⟩ := h
  have := S.sl
  simpa using this
theorem fn_goXW {N : List Str} {vs : List V} {args : List En} {H : Hp} {Q : VK} (h : spXW K C l args W vs H E) (hb : ∀ F Hb, AccE K C l E F Hb → XS K F Hb t (args ++ List.replicate (N.length - args.length) .un) W) :
    t { nx := fun _ H' => Q .non H', rt := Q } (L2.start N vs) H := by
  obtain ⟨F, Hb, as, S, A⟩ := h
  exact hb F Hb A F Hb H _ as (Same.refl _) (Same.refl _) (start_slots S) _
/-- C(..) whose __init__ raises -/
theorem xv_make {sp : Sp} {args : List D} (A : AccE K C0 l E F Hb) (ha : EA K ta es W (args.map .dat) W1) (h : ∀ vs H Q, spXW K C0 l (.ptr 0 :: args.map .dat) [.ins C []] vs H E → sp vs H Q E) : XV K F Hb (tMake C sp [] E ta) es W := fun F' Hb' H σ as g s S Q =>
  ha F' Hb' H σ as S _ fun vs Hb1 H1 as1 g1 s1 S1 r1 x dx hx hdx hne => by
    obtain ⟨F2, as0, g0, h0, Sc, Fn, Rn, back⟩ := call_in (cW := []) (R := W1) S1 r1 (fun e he => by obtain ⟨d, _, rfl⟩ := List.mem_map.mp he; trivial) (fun c hc => absurd hc (by simp))
    have e0 : as0 = [] := List.length_eq_zero_iff.mp h0
    subst e0
    have f2 : Same F' F2 := fun a o q => by
      have q1 := S1.frm a o q
      cases q2 : F2 a with
      | none => rw [Fn a q2] at q; cases q
      | some o2 => rw [Sc.frm a o2 q2] at q1; exact q1
    obtain ⟨S2, s2⟩ := Sc.new (o := .own x) hdx
    have hx2 : upd H1 dx (.own x) x = none := by rw [upd_ne (Ne.symm hne)]; exact hx
    have S3 := S2.newOwn (c := .ins C []) hx2 ⟨dx, [], upd_same, .nil⟩
    show sp (.ref x :: (vs ++ [])) _ _ E
    rw [List.append_nil]
    refine h (.ref x :: vs) _ _ ⟨F2, _, [x], ⟨S3.base, S3.frm, S3.dis, S3.len, S3.own, S3.inj, by have := Sc.sl; simp at this ⊢; exact this, fun i e he => ?_⟩, A.mono (g.trans f2) ((s.trans s1).trans s2)⟩
    cases i with
    | zero => cases he; exact ⟨x, rfl, rfl⟩
    | succ i =>
      have z := S3.slot i e (by simpa using he)
      simpa using z
/-- what comes ahead ends in one of several states -/
theorem xs_seqP {M : List En → List Cn → Prop} (h : SD K t es W ⟨M, fun _ _ => False, fun _ _ => False, fun _ _ => False⟩) (h2 : ∀ e w, M e w → XS K F Hb u e w) : XS K F Hb (tSeq t u) es W := fun F' Hb' H σ as g s S D =>
  h F' Hb' H σ as { D with nx := u D } S ⟨fun Hb1 H1 σ1 as1 e1 w1 p g1 s1 S1 => h2 e1 w1 p F' Hb1 H1 σ1 as1 g (s.trans s1) S1 D, fun _ _ _ _ _ _ _ _ x => x.elim, fun _ _ _ _ _ _ x => x.elim, fun _ _ _ _ _ _ x => x.elim⟩
end
/-- an own error of the top with the one field f -/
structure Zer (K : PySem.W.Frag) (mg : Str → Option Value) (C : Addr) (x f qi : Str) (st : Stmt) : Prop where
  g : mg x = some (.ref C)
  oex : OexC K C
  xfc : XfC K C
  noF : PySem.W.findIn K (.ref C) f = some none
  own : PySem.W.exmOne K (.ref C) (.ref C) = some true
  ini : ∃ (g : Addr) (fd : FuncData), PySem.W.findIn K (.ref C) "__init__" = some (some (.ref g)) ∧ PySem.W.typeIn K (.ref g) = some (.type "function") ∧ Fun K "__init__" qi st g fd
theorem init1_reads {K : PySem.W.Frag} {mg : Str → Option Value} {C : Addr} {x f qi : Str} {st : Stmt} (B : Zer K mg C x f qi st) {vs : List V} {H : Hp} {Q : VK} {E : XK} {N : List Str} (hN : N.length = 2) (h : spInit1 C f vs H Q E) :
    tOst K f (tVar 0) (tVar 1) { nx := fun _ H' => Q .non H', rt := Q } (L2.start N vs) H := by
  obtain ⟨a, v, rfl, ha, q⟩ := h
  have es : L2.start N [V.ref a, v] = [some (.ref a), some v] := by unfold L2.start; simp [hN]
  rw [es]
  exact ⟨v, rfl, .ref a, rfl, a, C, rfl, B.oex, B.noF, .inl ⟨ha, fun dx hdx hne => q dx hdx hne⟩⟩
section
variable {X : Cx} {e : Expr} {es : List Expr} {ta : TA} {p pos pos' : Pos} {k : Nat} {W : WX} {st : Stmt} {ps : List Str} {C : Addr} {x f qi : Str}
theorem ps_err1 (B : Zer X.K X.mg C x f qi st) (F : ∀ g fd, Fun X.K "__init__" qi st g fd → FnOk X.prog X.w X.K X.mg X.base CX0 k g fd ps (spInit1 C f) ∧ Binds X.K fd ps []) (hr : Room (k + 1) X.A) (hc : X.calm = true) (tk : Takes X W) (hg : Gl X x) (ha : PA X (e :: es) ta) (hdb : (x == ("__debug__" : Str)) = false := by decide)
    (he : starEach (e :: es) X.env = (false, eval e X.env) :: starEach es X.env := by rfl) (hpl : (backTo pos (starEach es X.env)).any (·.1) = false := by rfl) :
    PS X (.Raise (some (.Call (.Name x p) (e :: es) [] pos)) none pos') (fun _ σ H => tMkO C (spInit1 C f) [] ta σ H fun cls d H' => W cls d σ H') := by
  obtain ⟨g, fd, i1, i2, i3⟩ := B.ini
  obtain ⟨F1, F2⟩ := F g fd i3
  exact ps_raise hc tk (pmk_oex B.oex i1 i2 F1 hr F2 .nil pass0 hg B.g ha hdb he hpl)
end
/-! ### two heaps that differ in what data never names -/
/-- neither a table nor a record of another kind -/
def Pl (o : HO) : Prop := (∀ ps, o ≠ .tbl ps) ∧ ∀ p, o ≠ .ext p
theorem Pl.lst {x : List V} : Pl (.lst x) := ⟨(fun _ e => nomatch e), (fun _ e => nomatch e)⟩
def SameP (H H' : Hp) : Prop := ∀ a o, H a = some o → Pl o → H' a = some o
section
variable {K : PySem.W.Frag} {H H' : Hp}
theorem sqP_t {a : Addr} {xs : List V} (e : SameP H H') (h : SqT K H a xs) : SqT K H' a xs := by
  rcases h with (h | ⟨o, h⟩) | h
  · exact .inl (.inl (e _ _ h ⟨(fun _ e => nomatch e), (fun _ e => nomatch e)⟩))
  · exact .inl (.inr ⟨o, e _ _ h ⟨(fun _ e => nomatch e), (fun _ e => nomatch e)⟩⟩)
  · exact .inr h
theorem sqP_l {a : Addr} {xs : List V} (e : SameP H H') (h : SqL K H a xs) : SqL K H' a xs := by
  rcases h with (h | ⟨o, h⟩) | h
  · exact .inl (.inl (e _ _ h ⟨(fun _ e => nomatch e), (fun _ e => nomatch e)⟩))
  · exact .inl (.inr ⟨o, e _ _ h ⟨(fun _ e => nomatch e), (fun _ e => nomatch e)⟩⟩)
  · exact .inr h
mutual
theorem Dt.monoP (e : SameP H H') : ∀ (d : D) (v : V), Dt K H v d → Dt K H' v d
  | .non, _, .non => .non
  | .bl _, _, .bl b => .bl b
  | .int _, _, .int b => .int b
  | .str _, _, .str b => .str b
  | .ty _, _, .ty b => .ty b
  | .rf _, _, .rf b => .rf b
  | .tup l, _, .tup h1 h2 => .tup (sqP_t e h1) (DtA.monoP e l _ h2)
  | .lst l, _, .lst h1 h2 => .lst (e _ _ h1 ⟨(fun _ e => nomatch e), (fun _ e => nomatch e)⟩) (DtA.monoP e l _ h2)
  | .rl l, _, .rl h1 h2 => .rl (sqP_l e h1) (DtA.monoP e l _ h2)
  | .obj _ _ l, _, .obj h1 h2 h3 => .obj (e _ _ h1 ⟨(fun _ e => nomatch e), (fun _ e => nomatch e)⟩) h2 (DtA.monoP e l _ h3)
  | .key _, _, .key h1 => .key (e _ _ h1 ⟨(fun _ e => nomatch e), (fun _ e => nomatch e)⟩)
  | .kd _ l, _, .kd h1 h2 h3 => .kd (e _ _ h1 ⟨(fun _ e => nomatch e), (fun _ e => nomatch e)⟩) h2 (DtA.monoP e l _ h3)
theorem DtA.monoP (e : SameP H H') : ∀ (ds : List D) (vs : List V), DtA K H vs ds → DtA K H' vs ds
  | [], _, .nil => .nil
  | d :: ds, _, .cons h1 h2 => .cons (Dt.monoP e d _ h1) (DtA.monoP e ds _ h2)
end
variable {Hb Hb' : Hp} {as : List Addr} {v : V} {e : En} {o : Option (Option V)} {a : Addr} {c : Cn}
theorem RE.monoP (s : SameP Hb Hb') (h : RE K Hb as v e) : RE K Hb' as v e := by
  cases e with
  | un => trivial
  | dat d => exact Dt.monoP s d v h
  | ptr i => exact h
theorem RS.monoP (s : SameP Hb Hb') (h : RS K Hb as o e) : RS K Hb' as o e := by
  cases e with
  | un => trivial
  | dat d => obtain ⟨v, h1, h2⟩ := h; exact ⟨v, h1, Dt.monoP s d v h2⟩
  | ptr i => exact h
theorem RC.monoP (s : SameP Hb Hb') (hH : H' a = H a) (h : RC K Hb as H a c) : RC K Hb' as H' a c := by
  cases c with
  | gone => trivial
  | lst l => obtain ⟨xs, h1, h2⟩ := h; exact ⟨xs, by rw [hH]; exact h1, paired_mono (fun _ _ => RE.monoP s) h2⟩
  | dct l => obtain ⟨xs, h1, h2⟩ := h; exact ⟨xs, by rw [hH]; exact h1, paired_mono (fun _ _ r => ⟨r.1, RE.monoP s r.2⟩) h2⟩
  | ins C l => obtain ⟨dx, xs, h1, h2⟩ := h; exact ⟨dx, xs, by rw [hH]; exact h1, paired_mono (fun _ _ r => ⟨r.1, RE.monoP s r.2⟩) h2⟩
  | dt l => obtain ⟨xs, h1, h2⟩ := h; exact ⟨xs, by rw [hH]; exact h1, paired_mono (fun _ _ r => ⟨r.1, Dt.monoP s _ _ r.2⟩) h2⟩
theorem RC.pl (hl : live c = true) (h : RC K Hb as H a c) : ∃ o, H a = Option.some o ∧ Pl o := by
  cases c with
  | gone => cases hl
  | lst l => obtain ⟨xs, h1, _⟩ := h; exact ⟨_, h1, (fun _ e => nomatch e), (fun _ e => nomatch e)⟩
  | dct l => obtain ⟨xs, h1, _⟩ := h; exact ⟨_, h1, (fun _ e => nomatch e), (fun _ e => nomatch e)⟩
  | ins C l => obtain ⟨dx, xs, h1, _⟩ := h; exact ⟨_, h1, (fun _ e => nomatch e), (fun _ e => nomatch e)⟩
  | dt l => obtain ⟨xs, h1, _⟩ := h; exact ⟨_, h1, (fun _ e => nomatch e), (fun _ e => nomatch e)⟩
end
end AS
/-! AS22: a def that hands a lambda to another def: the table of code objects lies in the frame, which changes. -/
namespace AS
open PySem PySem.Spec PyProof.Rows L2 XC LamX
/-- the frame of such a def: the table at P, the code objects of the name q -/
structure Fr (P : Addr) (q : Str) (F : Hp) : Prop where
  tab : TabS F P q
  only : ∀ a o, F a = some o → ¬ Pl o
theorem Fr.first {P : Addr} {q : Str} : Fr P q (fun a => if a = P then some (.tbl #[]) else none) where
  tab := TabS.nil (if_pos rfl)
  only := fun a o h z => by
    split at h
    · cases h; exact z.1 _ rfl
    · cases h
theorem pl_code {c : Addr} {q : Str} (h : Pl (CodeO c q)) : False := h.2 _ rfl
open Classical in
/-- a lambda has been made -/
theorem ST.lam {K : PySem.W.Frag} {F Hb H H1 : Hp} {σ : L2.St} {es : List En} {W : List Cn} {as : List Addr} {P : Addr} {q : Str} (S : ST K F Hb H σ es W as) (fr : Fr P q F) (e : ExtN H H1) (t : TabS H1 P q) : ∃ F1 Hb1, Fr P q F1 ∧ ST K F1 Hb1 H1 σ es W as := by
  have keep : ∀ a o, H a = some o → Pl o → H1 a = some o := fun a o h p => e a o h p.1
  obtain ⟨ps, hP, htr, told⟩ := t
  have notP : ∀ o, H1 P = some o → Pl o → False := fun o h p => by rw [hP] at h; cases h; exact p.1 _ rfl
  refine ⟨fun a => if a = P ∨ H1 a = some (CodeO a q) then H1 a else none, fun a => match Hb a with | some o => if Pl o then some o else none | none => none, ⟨⟨ps, by simp [hP], htr, fun pos cv h => ?_⟩, fun a o h p => ?_⟩, ?_⟩
  · obtain ⟨c, e1, e2⟩ := told pos cv h
    exact ⟨c, e1, by simp [e2]⟩
  · split at h
    · rename_i hh
      rcases hh with rfl | hh
      · exact notP o h p
      · rw [hh] at h; cases h; exact pl_code p
    · cases h
  · have sb : ∀ a o, (match Hb a with | some o => if Pl o then some o else none | none => none : Option HO) = some o → Hb a = some o ∧ Pl o := fun a o h => by
      cases q : Hb a with
      | none => rw [q] at h; cases h
      | some o2 =>
        rw [q] at h
        by_cases po : Pl o2
        · rw [show (match some o2 with | some o => if Pl o then some o else none | none => none : Option HO) = some o2 from if_pos po] at h
          cases h; exact ⟨rfl, po⟩
        · rw [show (match some o2 with | some o => if Pl o then some o else none | none => none : Option HO) = none from if_neg po] at h
          cases h
    have sp : SameP Hb (fun a => match Hb a with | some o => if Pl o then some o else none | none => none) := fun a o h p => by
      show (match Hb a with | some o => if Pl o then some o else none | none => none : Option HO) = some o
      rw [h]; exact if_pos p
    refine ⟨fun a o h => ?_, fun a o h => ?_, fun a o h => ⟨?_, ?_⟩, S.len, fun i a c h1 h2 h3 => ?_, S.inj, S.sl, fun i x h => RS.monoP sp (S.slot i x h)⟩
    · obtain ⟨z1, z2⟩ := sb a o h
      exact keep a o (S.base a o z1) z2
    · split at h
      · exact h
      · cases h
    · refine Option.eq_none_iff_forall_ne_some.mpr fun o2 z => ?_
      obtain ⟨z1, z2⟩ := sb a o2 z
      have z3 := keep a o2 (S.base a o2 z1) z2
      split at h
      · rename_i hh
        rcases hh with rfl | hh
        · exact (notP o2 z3 z2).elim
        · rw [hh] at z3; cases z3; exact (pl_code z2).elim
      · cases h
    · split at h
      · rename_i hh
        rcases hh with rfl | hh
        · rw [hP] at h; cases h; exact fun xs z => by cases z
        · rw [hh] at h; cases h; exact fun xs z => by unfold CodeO at z; cases z
      · cases h
    · obtain ⟨k1, k2, k3⟩ := S.own i a c h1 h2 h3
      obtain ⟨o, ho, po⟩ := k3.pl h3
      have ho1 := keep a o ho po
      refine ⟨?_, ?_, RC.monoP sp (by rw [ho1, ho]) k3⟩
      · show (match Hb a with | some o => if Pl o then some o else none | none => none : Option HO) = none
        rw [k1]
      · show (if a = P ∨ H1 a = some (CodeO a q) then H1 a else none) = none
        rw [if_neg]
        rintro (rfl | hh)
        · exact notP o ho1 po
        · rw [hh] at ho1; cases ho1; exact pl_code po
/-- where the continuation takes any such frame -/
structure OkT (K : PySem.W.Frag) (Pt : Addr) (q : Str) (D : Ends) (P : Po) : Prop where
  nx : ∀ F Hb H σ as es W, P.nx es W → Fr Pt q F → ST K F Hb H σ es W as → D.nx σ H
  rt : ∀ v F Hb H σ as es W e, P.rt e W → Fr Pt q F → ST K F Hb H σ es W as → RE K Hb as v e → D.rt v H
  bk : ∀ F Hb H σ as es W, P.bk es W → Fr Pt q F → ST K F Hb H σ es W as → D.bk σ H
  ct : ∀ F Hb H σ as es W, P.ct es W → Fr Pt q F → ST K F Hb H σ es W as → D.ct σ H
def SDT (K : PySem.W.Frag) (Pt : Addr) (q : Str) (t : TS) (es : List En) (W : List Cn) (P : Po) : Prop := ∀ F Hb H σ as (D : Ends), Fr Pt q F → ST K F Hb H σ es W as → OkT K Pt q D P → t D σ H
section
variable {K : PySem.W.Frag} {Pt : Addr} {q : Str} {es es1 : List En} {W W1 : List Cn} {P : Po} {t u : TS} {tt : TT} {ta : TA} {te : TE} {post : En → List Cn → Prop}
theorem sdt_of (h : SD K t es W P) : SDT K Pt q t es W P := fun F Hb H σ as D fr S k =>
  h F Hb H σ as D S ⟨fun Hb' H' σ' as' es' W' p _ _ S' => k.nx F Hb' H' σ' as' es' W' p fr S', fun v Hb' H' σ' as' es' W' e p _ _ S' r => k.rt v F Hb' H' σ' as' es' W' e p fr S' r,
    fun Hb' H' σ' as' es' W' p _ _ S' => k.bk F Hb' H' σ' as' es' W' p fr S', fun Hb' H' σ' as' es' W' p _ _ S' => k.ct F Hb' H' σ' as' es' W' p fr S'⟩
theorem sdt_seq {M : List En → List Cn → Prop} (h : SDT K Pt q t es W { P with nx := M }) (h2 : ∀ e w, M e w → SDT K Pt q u e w P) : SDT K Pt q (tSeq t u) es W P := fun F Hb H σ as D fr S k =>
  h F Hb H σ as { D with nx := u D } fr S ⟨fun F' Hb' H' σ' as' es' W' p fr' S' => h2 es' W' p F' Hb' H' σ' as' D fr' S' k, k.rt, k.bk, k.ct⟩
theorem sdt_then (h : SDd K t es W es1 W1) (h2 : SDT K Pt q u es1 W1 P) : SDT K Pt q (tSeq t u) es W P :=
  sdt_seq (M := fun e w => e = es1 ∧ w = W1) (sdt_of (h.imp (fun _ _ x => x) (fun _ _ x => x.elim) (fun _ _ x => x.elim) (fun _ _ x => x.elim))) (fun _ _ ⟨a, b⟩ => by subst a b; exact h2)
theorem sdt_if {b : Bool} (h : ET K tt es W b W1) (h1 : b = true → SDT K Pt q t es W1 P) (h2 : b = false → SDT K Pt q u es W1 P) : SDT K Pt q (tIfS tt t u) es W P := fun F Hb H σ as D fr S k =>
  h F Hb H σ as S _ fun Hb1 H1 as1 g1 s1 S1 => by
    cases b with
    | true =>
      show t D σ H1
      exact h1 rfl F Hb1 H1 σ as1 D fr S1 k
    | false =>
      show u D σ H1
      exact h2 rfl F Hb1 H1 σ as1 D fr S1 k
theorem sdt_asgGP {g : TG} {js : List Nat} (h : EVp K te es W post) (h2 : ∀ e w, post e w → ∃ es1, EG K g js e es w es1 ∧ SDT K Pt q u es1 w P) : SDT K Pt q (tSeq (tAsg te g) u) es W P := fun F Hb H σ as D fr S k =>
  h F Hb H σ as S _ fun v Hb1 H1 as1 e w hp g s S1 r1 => by
    obtain ⟨es1, hg, hu⟩ := h2 e w hp
    exact hg F Hb1 H1 σ as1 v S1 r1 _ fun σ' _ S2 => hu F Hb1 H1 σ' as1 D fr S2 k
theorem sdt_asgP {i : Nat} (h : EVp K te es W post) (h2 : ∀ e w, post e w → SDT K Pt q u (es.set i e) w P) : SDT K Pt q (tSeq (tAsg te (gName i)) u) es W P := fun F Hb H σ as D fr S k =>
  h F Hb H σ as S _ fun v Hb1 H1 as1 e w hp g s S1 r1 => h2 e w hp F Hb1 H1 _ as1 D fr (S1.set r1) k
theorem sdt_parP {i j : Nat} {p : List En → List Cn → Prop} (h : EAp K ta es W p) (h2 : ∀ l w, p l w → ∃ a b, l = [a, b] ∧ SDT K Pt q u ((es.set i a).set j b) w P) : SDT K Pt q (tSeq (tPar i j ta) u) es W P := fun F Hb H σ as D fr S k =>
  h F Hb H σ as S _ fun vs Hb1 H1 as1 l w hp g1 s1 S1 r1 => by
    obtain ⟨a, b, rfl, hu⟩ := h2 l w hp
    cases r1 with
    | cons a1 t1 => cases t1 with
      | cons a2 t2 => cases t2 with
        | nil => exact ⟨_, _, rfl, hu F Hb1 H1 _ as1 D fr ((S1.set a1).set a2) k⟩
/-- for x in range(n) -/
theorem sdt_rng {n : Int} {j : Nat} (h : EA K ta es W [.dat (.int n)] W1) (hn : -(2 ^ 62) ≤ n ∧ n < 2 ^ 62) (I : Nat → List En → List Cn → Prop) (h0 : I 0 es W1)
    (hs : ∀ i e w, i < n.toNat → I i e w → SDT K Pt q t (e.set j (.dat (.int (0 + (i : Int))))) w { nx := I (i + 1), rt := P.rt, bk := P.nx, ct := I (i + 1) }) (hd : ∀ e w, I n.toNat e w → P.nx e w) : SDT K Pt q (tFor (iRng1 ta) (gName j) t) es W P := fun F Hb H σ as D fr S k =>
  h F Hb H σ as S _ fun vs Hb1 H1 as1 g1 s1 S1 r1 => by
    cases r1 with
    | cons a1 t1 => cases t1 with
      | nil =>
        cases a1
        refine ⟨n, rfl, hn.1, hn.2, fun i m σ' H' => m = n.toNat - i ∧ i ≤ n.toNat ∧ ∃ F Hb as es W, I i es W ∧ Fr Pt q F ∧ ST K F Hb H' σ' es W as, ⟨n.toNat, by simp, Nat.zero_le _, F, Hb1, as1, es, W1, h0, fr, S1⟩, ?_⟩
        rintro i m σ' H' ⟨rfl, hil, F2, Hb2, as2, es2, W2, hI, fr2, S2⟩
        by_cases hlt : i < n.toNat
        · refine .inr ⟨hlt, fun σ3 H3 => ∃ F Hb as es W, I (i + 1) es W ∧ Fr Pt q F ∧ ST K F Hb H3 σ3 es W as, fun σ3 H3 h => ⟨n.toNat - (i + 1), by omega, rfl, hlt, h⟩, fun x H3 hy => ?_⟩
          obtain ⟨rfl, rfl⟩ := hy
          refine hs i es2 W2 hlt hI F2 Hb2 _ _ as2 _ fr2 (S2.set (e := .dat (.int (0 + (i : Int)))) (.int _)) ⟨?_, k.rt, k.nx, ?_⟩
          · exact fun F' Hb' H' σ' as' es' W' p fr' S' => ⟨F', Hb', as', es', W', p, fr', S'⟩
          · exact fun F' Hb' H' σ' as' es' W' p fr' S' => ⟨F', Hb', as', es', W', p, fr', S'⟩
        · have e : i = n.toNat := by omega
          subst e
          exact .inl ⟨Nat.le_refl _, k.nx F2 Hb2 H' σ' as2 es2 W2 (hd _ _ hI) fr2 S2⟩
/-- what the def makes of the lambda that it got: ['zero', 0] of the one error -/
def TTz (C : Addr) : (XK → Hp → VK → Prop) → Hp → VK → Prop := fun tl H Q =>
  tl (fun cls d H' => cls = .ref C ∧ ∃ dx fs, d = some dx ∧ H' dx = some (.xd fs) ∧ fs.lookup ("place" : Str) = some (.int 0) ∧ ∀ p, H' p = none → Q (.ref p) (upd H' p (.lst [.str "zero", .int 0]))) H fun _ _ => False
theorem lam_zero {F Hb H : Hp} {σ : L2.St} {as : List Addr} {C : Addr} {sp : Sp} {args : List D} (S : ST K F Hb H σ es W as) (fr : Fr Pt q F) (ha : EA K ta es W (args.map .dat) W) (h : ∀ vs H Q E, spX K C [("place", .int 0)] (args.map .dat) vs H E → sp vs H Q E) {Q : VK}
    (hq : ∀ F1 Hb1 H1 as1 p, Fr Pt q F1 → ST K F1 Hb1 H1 σ es W as1 → Dt K Hb1 (.ref p) (.lst [.str "zero", .int 0]) → Q (.ref p) H1) : tLam [(Pt, q)] (TTz C) (fun E => tCall sp [] E ta) σ H Q := by
  refine ⟨fun p hp => ?_, fun H1 eN T1 => ?_⟩
  · have hp1 : p = (Pt, q) := by simpa using hp
    rw [hp1]
    exact fr.tab.ext fun b o e => S.frm b o e
  · obtain ⟨F1, Hb1, fr1, S1⟩ := S.lam fr eN (T1 (Pt, q) (by simp))
    refine ha F1 Hb1 H1 σ as S1 _ fun vs Hb2 H2 as2 g s S2 r => ?_
    obtain ⟨F2, as0, g0, h0, Sc, Fn, Rn, back⟩ := call_in (cW := []) (R := W) S2 r (fun e he => by obtain ⟨d, _, rfl⟩ := List.mem_map.mp he; trivial) (fun c hc => absurd hc (by simp))
    have e0 : as0 = [] := List.length_eq_zero_iff.mp h0
    subst e0
    show sp (vs ++ []) H2 _ _
    rw [List.append_nil]
    refine h vs H2 _ _ ⟨F2, Hb2, [], Sc, fun Hb3 H3 dx fs s3 s4 f3 ds hx pf => ⟨rfl, dx, fs, rfl, s4 _ _ hx, ?_, fun p hp => ?_⟩⟩
    · cases pf with
      | @cons a _ _ _ r t =>
        cases t
        obtain ⟨n, v⟩ := a
        obtain ⟨rfl, hv⟩ := r
        cases hv
        simp [List.lookup]
    · have S3 : ST K F2 Hb3 H3 [] [] [] [] := ⟨s4, f3, ds, rfl, (fun i a c q1 q2 q3 => by simp at q2), (fun i j a c d q1 q2 q3 => by simp at q3), rfl, fun i e h => by simp at h⟩
      have S4 : ST K F1 Hb3 H3 σ es W as2 := back Hb3 H3 [] [] [] rfl s3 S3
      obtain ⟨S5, s5⟩ := S4.new (o := .lst [.str "zero", .int 0]) hp
      exact hq F1 _ _ as2 p fr1 S5 (.lst upd_same (.cons (.str _) (.cons (.int _) .nil)))
/-- if f(lambda: ..) != ['zero', 0]: it is -/
theorem sdt_iflam {C : Addr} {sp : Sp} {args : List D} (ha : EA K ta es W (args.map .dat) W) (h : ∀ vs H Q E, spX K C [("place", .int 0)] (args.map .dat) vs H E → sp vs H Q E) (h2 : SDT K Pt q u es W P) :
    SDT K Pt q (tIfS (tTest (tOp (rNeA K) (tLam [(Pt, q)] (TTz C) (fun E => tCall sp [] E ta)) (tLst (tCons (tC (.str "zero")) (tCons (tC (.int 0)) tNil))))) t u) es W P := fun F Hb H σ as D fr S k => by
  refine lam_zero S fr ha h fun F1 Hb1 H1 as1 p fr1 S1 hp => ?_
  refine ev_lst (K := K) (es := es) (W := W) (l := [AS.D.str "zero", AS.D.int 0]) (ea_cons (ev_str _) (ea_cons (ev_int 0) ea_nil)) (by simp) F1 Hb1 H1 σ as1 S1 _ fun v Hb2 H2 as2 g2 s2 S2 r2 => ?_
  have py : (AS.D.lst [.str "zero", .int 0]).py = some (.list [.str "zero", .int 0]) := rfl
  refine .inr ⟨_, _, Dt.py _ _ _ (Dt.mono (s2.trans S2.base) _ _ hp) py, Dt.py _ _ _ (Dt.mono S2.base _ _ r2) py, by decide +kernel, by decide +kernel, _, rfl, ?_⟩
  have e : PyData.eqv (PyData.list [PyData.str "zero", PyData.int 0]) (PyData.list [PyData.str "zero", PyData.int 0]) = true := by decide +kernel
  rw [e]
  show u D σ H2
  exact h2 F1 Hb2 H2 σ as2 D fr1 S2 k
end
/-- the slots are as many as the names -/
theorem takes_len {X : Cx} {W : WX} (t : Takes X W) : Takes X (fun cls d σ H => σ.length = X.N.length → W cls d σ H) := fun u s' ⟨a, B, sI, pins, σ, H, cls, d, e, I, nb, up, sky, na, os, ag, w⟩ =>
  t u s' ⟨a, B, sI, pins, σ, H, cls, d, e, I, nb, up, sky, na, os, ag, w I.len⟩
end AS
namespace K77
open PySem PySem.Spec PyProof.Rows L2 AS
def top (i : Nat) : Stmt := PySem.Challenge.pw_allscales_k77_whole_letters_become_one.main.body.getD i (.Pass ⟨0, 0, 0, 0⟩)
abbrev s__wall : Stmt := top 0
abbrev N__wall : List Str := ["k"]
abbrev P__wall : List Str := ["k"]
abbrev s_BadNumber___init__ : Stmt := inClass (top 3) 0
abbrev N_BadNumber___init__ : List Str := ["self", "what", "number"]
abbrev P_BadNumber___init__ : List Str := ["self", "what", "number"]
abbrev s_BadMatrix___init__ : Stmt := inClass (top 4) 0
abbrev N_BadMatrix___init__ : List Str := ["self", "what"]
abbrev P_BadMatrix___init__ : List Str := ["self", "what"]
abbrev s_ByZero___init__ : Stmt := inClass (top 5) 0
abbrev N_ByZero___init__ : List Str := ["self", "place"]
abbrev P_ByZero___init__ : List Str := ["self", "place"]
abbrev s_common_divisor : Stmt := top 7
abbrev N_common_divisor : List Str := ["one", "two"]
abbrev P_common_divisor : List Str := ["one", "two"]
abbrev s_lowest : Stmt := top 8
abbrev N_lowest : List Str := ["top", "bottom", "by"]
abbrev P_lowest : List Str := ["top", "bottom"]
abbrev s_is_whole : Stmt := top 9
abbrev N_is_whole : List Str := ["value"]
abbrev P_is_whole : List Str := ["value"]
abbrev s_is_ratio : Stmt := top 10
abbrev N_is_ratio : List Str := ["value"]
abbrev P_is_ratio : List Str := ["value"]
abbrev s_told : Stmt := top 11
abbrev N_told : List Str := ["value", "what"]
abbrev P_told : List Str := ["value", "what"]
abbrev s_plus : Stmt := top 12
abbrev N_plus : List Str := ["one", "two"]
abbrev P_plus : List Str := ["one", "two"]
abbrev s_times : Stmt := top 13
abbrev N_times : List Str := ["one", "two"]
abbrev P_times : List Str := ["one", "two"]
abbrev s_over : Stmt := top 14
abbrev N_over : List Str := ["one", "two"]
abbrev P_over : List Str := ["one", "two"]
abbrev s_power_of : Stmt := top 16
abbrev N_power_of : List Str := ["number", "n", "found"]
abbrev P_power_of : List Str := ["number", "n"]
abbrev s_powered : Stmt := top 17
abbrev N_powered : List Str := ["ratio", "n", "top", "bottom"]
abbrev P_powered : List Str := ["ratio", "n"]
abbrev s_are_exponents : Stmt := top 19
abbrev N_are_exponents : List Str := ["value", "size", "one"]
abbrev P_are_exponents : List Str := ["value", "size"]
abbrev s_is_term : Stmt := top 20
abbrev N_is_term : List Str := ["value", "size"]
abbrev P_is_term : List Str := ["value", "size"]
abbrev s_told_point : Stmt := top 21
abbrev N_told_point : List Str := ["value", "size", "one"]
abbrev P_told_point : List Str := ["value", "size"]
abbrev s_merged : Stmt := top 22
abbrev N_merged : List Str := ["terms", "found", "exponents", "ratio"]
abbrev P_merged : List Str := ["terms"]
abbrev s_Poly___init__ : Stmt := inClass (top 23) 0
abbrev N_Poly___init__ : List Str := ["self", "size", "terms", "term", "exponents", "ratio"]
abbrev P_Poly___init__ : List Str := ["self", "size", "terms"]
abbrev s_Poly___eq__ : Stmt := inClass (top 23) 1
abbrev N_Poly___eq__ : List Str := ["self", "other"]
abbrev P_Poly___eq__ : List Str := ["self", "other"]
abbrev s_Poly___add__ : Stmt := inClass (top 23) 2
abbrev N_Poly___add__ : List Str := ["self", "other"]
abbrev P_Poly___add__ : List Str := ["self", "other"]
abbrev s_Poly___neg__ : Stmt := inClass (top 23) 3
abbrev N_Poly___neg__ : List Str := ["self", "exponents", "ratio"]
abbrev P_Poly___neg__ : List Str := ["self"]
abbrev s_Poly___sub__ : Stmt := inClass (top 23) 4
abbrev N_Poly___sub__ : List Str := ["self", "other"]
abbrev P_Poly___sub__ : List Str := ["self", "other"]
abbrev s_Poly___mul__ : Stmt := inClass (top 23) 5
abbrev N_Poly___mul__ : List Str := ["self", "other", "found", "first", "one", "second", "two", "a", "b"]
abbrev P_Poly___mul__ : List Str := ["self", "other"]
abbrev s_Poly_at : Stmt := inClass (top 23) 6
abbrev N_Poly_at : List Str := ["self", "point", "ratios", "total", "exponents", "ratio", "one", "power"]
abbrev P_Poly_at : List Str := ["self", "point"]
abbrev s_Poly_slope : Stmt := inClass (top 23) 7
abbrev N_Poly_slope : List Str := ["self", "j"]
abbrev P_Poly_slope : List Str := ["self", "j"]
abbrev s_Poly_parts : Stmt := inClass (top 23) 8
abbrev N_Poly_parts : List Str := ["self", "rows"]
abbrev P_Poly_parts : List Str := ["self", "rows"]
abbrev s_poly_power : Stmt := top 24
abbrev N_poly_power : List Str := ["poly", "n", "found", "factor"]
abbrev P_poly_power : List Str := ["poly", "n"]
abbrev s_one_in : Stmt := top 26
abbrev N_one_in : List Str := ["size"]
abbrev P_one_in : List Str := ["size"]
abbrev s_least_exponents : Stmt := top 27
abbrev N_least_exponents : List Str := ["terms", "size", "j", "exponents", "ratio"]
abbrev P_least_exponents : List Str := ["terms", "size"]
abbrev s_brought : Stmt := top 28
abbrev N_brought : List Str := ["terms", "factor", "shift", "found", "exponents", "ratio", "number", "a", "b"]
abbrev P_brought : List Str := ["terms", "factor", "shift"]
abbrev s_whole_factor : Stmt := top 29
abbrev N_whole_factor : List Str := ["terms", "first", "bottom", "divisor", "exponents", "ratio"]
abbrev P_whole_factor : List Str := ["terms", "first"]
abbrev s_Quotient___init__ : Stmt := inClass (top 30) 0
abbrev N_Quotient___init__ : List Str := ["self", "top", "bottom", "both", "factor", "shift"]
abbrev P_Quotient___init__ : List Str := ["self", "top", "bottom"]
abbrev s_Quotient___eq__ : Stmt := inClass (top 30) 1
abbrev N_Quotient___eq__ : List Str := ["self", "other"]
abbrev P_Quotient___eq__ : List Str := ["self", "other"]
abbrev s_Quotient___add__ : Stmt := inClass (top 30) 2
abbrev N_Quotient___add__ : List Str := ["self", "other"]
abbrev P_Quotient___add__ : List Str := ["self", "other"]
abbrev s_Quotient___neg__ : Stmt := inClass (top 30) 3
abbrev N_Quotient___neg__ : List Str := ["self"]
abbrev P_Quotient___neg__ : List Str := ["self"]
abbrev s_Quotient___sub__ : Stmt := inClass (top 30) 4
abbrev N_Quotient___sub__ : List Str := ["self", "other"]
abbrev P_Quotient___sub__ : List Str := ["self", "other"]
abbrev s_Quotient___mul__ : Stmt := inClass (top 30) 5
abbrev N_Quotient___mul__ : List Str := ["self", "other"]
abbrev P_Quotient___mul__ : List Str := ["self", "other"]
abbrev s_Quotient_over : Stmt := inClass (top 30) 6
abbrev N_Quotient_over : List Str := ["self", "other"]
abbrev P_Quotient_over : List Str := ["self", "other"]
abbrev s_Quotient_power : Stmt := inClass (top 30) 7
abbrev N_Quotient_power : List Str := ["self", "n"]
abbrev P_Quotient_power : List Str := ["self", "n"]
abbrev s_Quotient_at : Stmt := inClass (top 30) 8
abbrev N_Quotient_at : List Str := ["self", "point", "ratios", "bottom"]
abbrev P_Quotient_at : List Str := ["self", "point"]
abbrev s_told_letters : Stmt := top 32
abbrev N_told_letters : List Str := ["letters", "many", "k", "one"]
abbrev P_told_letters : List Str := ["letters", "many"]
abbrev s_called_one : Stmt := top 33
abbrev N_called_one : List Str := ["f", "letters", "chosen", "both", "poly", "terms", "exponents", "ratio", "j", "one"]
abbrev P_called_one : List Str := ["f", "letters"]
abbrev s__law_pen : Stmt := top 35
abbrev N__law_pen : List Str := ["_law_script", "_law_fold", "_law_cell"]
abbrev P__law_pen : List Str := ["_law_script"]
abbrev s__law_draw : Stmt := top 36
abbrev N__law_draw : List Str := ["_law_pen_here", "_law_many", "_law_blend", "_law_cell", "_law_digit"]
abbrev P__law_draw : List Str := ["_law_pen_here", "_law_many"]
abbrev s__law_pick : Stmt := top 37
abbrev N__law_pick : List Str := ["_law_pen_here", "_law_some"]
abbrev P__law_pick : List Str := ["_law_pen_here", "_law_some"]
abbrev s__law_gcd : Stmt := top 38
abbrev N__law_gcd : List Str := ["_law_one", "_law_two", "_law_lap"]
abbrev P__law_gcd : List Str := ["_law_one", "_law_two"]
abbrev s__law_is_whole : Stmt := top 39
abbrev N__law_is_whole : List Str := ["_law_value"]
abbrev P__law_is_whole : List Str := ["_law_value"]
abbrev s__law_is_ratio : Stmt := top 40
abbrev N__law_is_ratio : List Str := ["_law_value"]
abbrev P__law_is_ratio : List Str := ["_law_value"]
abbrev s__law_inner : Stmt := top 41
abbrev N__law_inner : List Str := ["_law_row", "_law_column", "_law_one", "_law_two"]
abbrev P__law_inner : List Str := ["_law_row", "_law_column"]
abbrev s__law_is_matrix : Stmt := top 42
abbrev N__law_is_matrix : List Str := ["_law_value", "_law_many", "_law_wide", "_law_row", "_law_one"]
abbrev P__law_is_matrix : List Str := ["_law_value", "_law_many", "_law_wide"]
abbrev s__law_poly_times : Stmt := top 43
abbrev N__law_poly_times : List Str := ["_law_one", "_law_two", "_law_found", "_law_first", "_law_second", "_law_key", "_law_a", "_law_b"]
abbrev P__law_poly_times : List Str := ["_law_one", "_law_two"]
abbrev s__law_made : Stmt := top 44
abbrev N__law_made : List Str := ["_law_f", "_law_size", "_law_key"]
abbrev P__law_made : List Str := ["_law_f", "_law_size"]
abbrev s__law_told_poly : Stmt := top 45
abbrev N__law_told_poly : List Str := ["_law_poly", "_law_size", "_law_term", "_law_found", "_law_by", "_law_key", "_law_ratio"]
abbrev P__law_told_poly : List Str := ["_law_poly", "_law_size"]
abbrev s__law_told_quotient : Stmt := top 46
abbrev N__law_told_quotient : List Str := ["_law_f", "_law_size", "_law_top", "_law_bottom", "_law_key"]
abbrev P__law_told_quotient : List Str := ["_law_f", "_law_size"]
abbrev s__law_poly_drawn : Stmt := top 47
abbrev N__law_poly_drawn : List Str := ["_law_pen_here", "_law_size", "_law_many", "_law_most", "_law_found", "_law_lap", "_law_key", "_law_j"]
abbrev P__law_poly_drawn : List Str := ["_law_pen_here", "_law_size", "_law_many", "_law_most"]
abbrev s__law_like : Stmt := top 48
abbrev N__law_like : List Str := ["_law_pen_here", "_law_size", "_law_weights_here", "_law_many", "_law_start", "_law_due", "_law_keys", "_law_found", "_law_lap", "_law_row", "_law_key", "_law_j"]
abbrev P__law_like : List Str := ["_law_pen_here", "_law_size", "_law_weights_here", "_law_many"]
abbrev s__law_box : Stmt := top 49
abbrev N__law_box : List Str := ["_law_size", "_law_most", "_law_found", "_law_j", "_law_longer", "_law_row", "_law_one"]
abbrev P__law_box : List Str := ["_law_size", "_law_most"]
abbrev s__law_weights : Stmt := top 50
abbrev N__law_weights : List Str := ["_law_pen_here", "_law_size", "_law_lap", "_law_j"]
abbrev P__law_weights : List Str := ["_law_pen_here", "_law_size"]
abbrev s__law_quotient : Stmt := top 51
abbrev N__law_quotient : List Str := ["_law_pen_here", "_law_size", "_law_way", "_law_weights_here", "_law_top", "_law_bottom", "_law_factor"]
abbrev P__law_quotient : List Str := ["_law_pen_here", "_law_size"]
abbrev s__law_error : Stmt := top 52
abbrev N__law_error : List Str := ["_law_call", "error"]
abbrev P__law_error : List Str := ["_law_call"]
abbrev s__law_left_out : Stmt := top 53
abbrev N__law_left_out : List Str := ["_law_poly", "_law_letters", "_law_found", "_law_key", "_law_one", "_law_j"]
abbrev P__law_left_out : List Str := ["_law_poly", "_law_letters"]
abbrev s_law : Stmt := top 54
abbrev N_law : List Str := ["_law_script", "_law_pen_here", "_law_lap", "_law_size", "_law_j", "_law_own", "_law_told", "_law_f", "_law_letters", "_law_one", "_law_made_here", "_law_passed", "_law_kept", "_law_due"]
abbrev P_law : List Str := ["_law_script"]
def CP (mg : Str → Option Value) : Addr := match mg "Poly" with
  | some (.ref a) => a
  | _ => 0
def CQ (mg : Str → Option Value) : Addr := match mg "Quotient" with
  | some (.ref a) => a
  | _ => 0
def CZ (mg : Str → Option Value) : Addr := match mg "ByZero" with
  | some (.ref a) => a
  | _ => 0
def CM (mg : Str → Option Value) : Addr := match mg "BadMatrix" with
  | some (.ref a) => a
  | _ => 0
def CN (mg : Str → Option Value) : Addr := match mg "BadNumber" with
  | some (.ref a) => a
  | _ => 0
structure Tx (K : PySem.W.Frag) (mg : Str → Option Value) : Prop where
  f_common_divisor : TopF K mg "common_divisor" s_common_divisor
  f_lowest : TopF K mg "lowest" s_lowest
  f_is_whole : TopF K mg "is_whole" s_is_whole
  f_is_ratio : TopF K mg "is_ratio" s_is_ratio
  f_told : TopF K mg "told" s_told
  f_plus : TopF K mg "plus" s_plus
  f_are_exponents : TopF K mg "are_exponents" s_are_exponents
  f_is_term : TopF K mg "is_term" s_is_term
  f_merged : TopF K mg "merged" s_merged
  f_one_in : TopF K mg "one_in" s_one_in
  f_least_exponents : TopF K mg "least_exponents" s_least_exponents
  f_brought : TopF K mg "brought" s_brought
  f_whole_factor : TopF K mg "whole_factor" s_whole_factor
  f_told_letters : TopF K mg "told_letters" s_told_letters
  f_called_one : TopF K mg "called_one" s_called_one
  f__law_pen : TopF K mg "_law_pen" s__law_pen
  f__law_draw : TopF K mg "_law_draw" s__law_draw
  f__law_pick : TopF K mg "_law_pick" s__law_pick
  f__law_gcd : TopF K mg "_law_gcd" s__law_gcd
  f__law_is_whole : TopF K mg "_law_is_whole" s__law_is_whole
  f__law_is_ratio : TopF K mg "_law_is_ratio" s__law_is_ratio
  f__law_inner : TopF K mg "_law_inner" s__law_inner
  f__law_is_matrix : TopF K mg "_law_is_matrix" s__law_is_matrix
  f__law_poly_times : TopF K mg "_law_poly_times" s__law_poly_times
  f__law_made : TopF K mg "_law_made" s__law_made
  f__law_told_poly : TopF K mg "_law_told_poly" s__law_told_poly
  f__law_told_quotient : TopF K mg "_law_told_quotient" s__law_told_quotient
  f__law_poly_drawn : TopF K mg "_law_poly_drawn" s__law_poly_drawn
  f__law_like : TopF K mg "_law_like" s__law_like
  f__law_box : TopF K mg "_law_box" s__law_box
  f__law_weights : TopF K mg "_law_weights" s__law_weights
  f__law_quotient : TopF K mg "_law_quotient" s__law_quotient
  f__law_left_out : TopF K mg "_law_left_out" s__law_left_out
  f__law_error : TopF K mg "_law_error" s__law_error
  f_law : TopF K mg "law" s_law
  b_abs : mg "abs" = none
  b_len : mg "len" = none
  b_int : mg "int" = none
  b_bool : mg "bool" = none
  b_list : mg "list" = none
  b_tuple : mg "tuple" = none
  b_sorted : mg "sorted" = none
  b_range : mg "range" = none
  b_zip : mg "zip" = none
  b_enumerate : mg "enumerate" = none
  b_isinstance : mg "isinstance" = none
  b_dict : mg "dict" = none
  b_sum : mg "sum" = none
  b_min : mg "min" = none
  cP : OwnC K mg (CP mg) "Poly" "Poly.__init__" "Poly.__eq__" s_Poly___init__ s_Poly___eq__
  cQ : OwnC K mg (CQ mg) "Quotient" "Quotient.__init__" "Quotient.__eq__" s_Quotient___init__ s_Quotient___eq__
  nPs : NoAttr K (CP mg) "size"
  nPt : NoAttr K (CP mg) "terms"
  nQs : NoAttr K (CQ mg) "size"
  nQt : NoAttr K (CQ mg) "top"
  nQb : NoAttr K (CQ mg) "bottom"
  zer : Zer K mg (CZ mg) "ByZero" "place" "ByZero.__init__" s_ByZero___init__
  gM : mg "BadMatrix" = some (.ref (CM mg))
  gN : mg "BadNumber" = some (.ref (CN mg))
  xM : PySem.W.exmOne K (.ref (CZ mg)) (.ref (CM mg)) = some false
  xN : PySem.W.exmOne K (.ref (CZ mg)) (.ref (CN mg)) = some false
end K77
namespace K77
open PySem PySem.Spec PyProof.Rows L2 AS
local macro_rules | `(tactic| walk_at "ev") => `(tactic| first
  | exact ev_vd rfl
  | exact ev_vp rfl
  | exact ev_int _
  | exact ev_non
  | exact ev_bl _
  | exact ev_str _
  | assumption
  | (apply ev_addI <;> walk_at "ev")
  | (apply ev_sub <;> walk_at "ev")
  | (apply ev_neg; walk_at "ev")
  | (apply ev_abs; walk_at "ev")
  | (apply ev_intA; walk_at "ev")
  | (apply ev_lt <;> walk_at "ev")
  | (apply ev_le <;> walk_at "ev")
  | (apply ev_gt <;> walk_at "ev")
  | (apply ev_ge <;> walk_at "ev")
  | (apply ev_eqI <;> walk_at "ev")
  | (apply ev_neI <;> walk_at "ev")
  | (apply ev_isN; walk_at "ev")
  | (apply ev_notN; walk_at "ev")
  | (apply ev_isi (by walk_at "ev") rfl; rfl)
  | skip)
local macro_rules | `(tactic| walk_at "ea") => `(tactic| first
  | exact ea_nil
  | (apply ea_cons; walk_at "ev"; walk_at "ea"))
local macro_rules | `(tactic| walk_at "call") => `(tactic| (first
  | exact (fun vs H Q h => ⟨_, h⟩)
  | exact (fun vs H Q h => ⟨_, _, h⟩)
  | exact (fun vs H Q h => ⟨_, _, _, h⟩)))

section
variable {P : Program} {w : World} {K : PySem.W.Frag} {mg : Str → Option Value} {base : Heap}
theorem abs_nat (a : Int) : (if a < 0 then -a else a) = ((a.natAbs : Nat) : Int) := by split <;> omega
def spCd (K : PySem.W.Frag) : Sp := fun vs H Q _ => ∃ a b : Int, spV K [.dat (.int a), .dat (.int b)] [] (.dat (.int (Int.gcd a b))) [] vs H Q
theorem sc_common_divisor : FnScope N_common_divisor P_common_divisor (defScope s_common_divisor) := ⟨rfl, rfl, rfl, by decide +kernel, rfl, by decide +kernel, by decide +kernel⟩
theorem ok_common_divisor (T : Tx K mg) : Cal P w K mg base CX0 1 "common_divisor" P_common_divisor (spCd K) := by
  refine T.f_common_divisor.cal sc_common_divisor (fun vs H Q E h => by obtain ⟨a, b, h⟩ := h; exact h.len) (fun _ _ _ _ _ _ us hl => match us, hl with | [_, _], _ => rfl) fun f cdv A outer s H vs Q E hr h => ?_
  obtain ⟨a, b, h⟩ := h
  refine ⟨_, (pss_cons (ps_par (i := 0) (j := 1) (by rfl) sc_common_divisor.nd rfl rfl (by decide) rfl rfl (pa_cons (pe_callB call_abs (by rfl) T.b_abs (by decide +kernel) (pa_cons (pv 0) pa_nil)) (pa_cons (pe_callB call_abs (by rfl) T.b_abs (by decide +kernel) (pa_cons (pv 1) pa_nil)) pa_nil)) (by rfl))
 (pss_cons (ps_while PassesOwn.never (pt_truth (pv 1) (by intro _; rfl))
 (pss_one (ps_par (i := 0) (j := 1) (by rfl) sc_common_divisor.nd rfl rfl (by decide) rfl rfl (pa_cons (pv 1) (pa_cons (pe_op op_modN (pv 0) (pv 1)) pa_nil)) (by rfl))))
 (pss_one (ps_ret (pv 0))))), fn_goD (l := [.int a, .int b]) h ?_⟩
  refine sd_then (sd_par (by walk_at "ea")) ?_
  rw [abs_nat, abs_nat]
  refine sd_seq (M := fun e w => e = [.dat (.int (Int.gcd a b)), .dat (.int 0)]) (sd_while (fun m e w => ∃ x y : Nat, e = [.dat (.int x), .dat (.int y)] ∧ y = m ∧ Nat.gcd x y = Int.gcd a b) b.natAbs ⟨a.natAbs, b.natAbs, rfl, rfl, rfl⟩ ?_) ?_
  · rintro y e w ⟨x, y', rfl, em, hg⟩
    cases em
    refine ⟨_, _, et_truI (by walk_at "ev"), fun hb => ?_, fun hb => ?_⟩
    · have : y = 0 := by simpa using hb
      subst this
      rw [← hg]; simp
    · have hy : 0 < y := by
        have : ((y : Int) != 0) = true := hb
        simp at this; omega
      refine sd_of (sd_par (ea_cons (by walk_at "ev") (ea_cons (ev_mod (by walk_at "ev") (by walk_at "ev") (by omega)) ea_nil))) ⟨x % y, Nat.mod_lt _ hy, y, x % y, ?_, rfl, ?_⟩
      · rw [Int.fmod_eq_emod_of_nonneg _ (by omega)]; rfl
      · rw [← hg, Nat.gcd_comm x y, Nat.gcd_rec y x, Nat.gcd_comm]
  · rintro e w rfl
    exact sd_ret (by walk_at "ev") rfl
def spLow (K : PySem.W.Frag) : Sp := fun vs H Q _ => ∃ t b : Int, b ≠ 0 ∧ b.natAbs.log2 < 9000 ∧ spV K [.dat (.int t), .dat (.int b)] [] (.dat (dq (Lw t b))) [] vs H Q
theorem sc_lowest : FnScope N_lowest P_lowest (defScope s_lowest) := ⟨rfl, rfl, rfl, by decide +kernel, rfl, by decide +kernel, by decide +kernel⟩
theorem ok_lowest (T : Tx K mg) : Cal P w K mg base CX0 2 "lowest" P_lowest (spLow K) := by
  refine T.f_lowest.cal sc_lowest (fun vs H Q E h => by obtain ⟨a, b, _, _, h⟩ := h; exact h.len) (fun _ _ _ _ _ _ us hl => match us, hl with | [_, _], _ => rfl) fun f cdv A outer s H vs Q E hr h => ?_
  obtain ⟨t, b, hb0, hb, h⟩ := h
  refine ⟨_, (pss_cons (ps_set (i := 2) sc_lowest.nd rfl (Or.inl rfl) (pe_cal (ok_common_divisor T) (hr.mono (by decide)) rfl (pa_cons (pv 0) (pa_cons (pv 1) pa_nil))))
 (pss_cons (ps_if (pt_cmpR op_lt (pv 1) pe_int (nomark _))
 (pss_one (ps_set (i := 2) sc_lowest.nd rfl (Or.inl rfl) (pe_un un_neg (pv 2))))
 pss_nil)
 (pss_one (ps_ret (pe_tup (pa_cons (pe_op op_fdivA (pv 0) (pv 2)) (pa_cons (pe_op op_fdivA (pv 1) (pv 2)) pa_nil))))))), fn_goD (l := [.int t, .int b]) h ?_⟩
  obtain ⟨d1, d2⟩ := lowS_div (t := t) hb0 hb
  refine sd_then (sd_asg (ev_callD (l := [.int t, .int b]) (by walk_at "ea") (fun vs H Q h => ⟨t, b, h⟩))) ?_
  refine sd_seq (M := fun e w => e = [.dat (.int t), .dat (.int b), .dat (.int (lowS t b))]) (sd_if (et_test (by walk_at "ev")) (fun hb => ?_) (fun hb => ?_)) ?_
  · refine sd_of (sd_asg (by walk_at "ev")) ?_
    unfold lowS
    rw [if_pos (of_decide_eq_true hb)]; rfl
  · refine sd_next ?_
    unfold lowS
    rw [if_neg (of_decide_eq_false hb)]; rfl
  · rintro e w rfl
    refine sd_ret (ev_tup (l := [_, _]) (ea_cons (ev_fdiv (by walk_at "ev") (by walk_at "ev") d1) (ea_cons (ev_fdiv (by walk_at "ev") (by walk_at "ev") d2) ea_nil)) (by simp)) rfl
def spWh (K : PySem.W.Frag) : Sp := fun vs H Q _ => ∃ d : D, d.kn = true ∧ spV K [.dat d] [] (.dat (.bl d.whole)) [] vs H Q
theorem sc_is_whole : FnScope N_is_whole P_is_whole (defScope s_is_whole) := ⟨rfl, rfl, rfl, by decide +kernel, rfl, by decide +kernel, by decide +kernel⟩
theorem ok_is_whole (T : Tx K mg) : Cal P w K mg base CX0 1 "is_whole" P_is_whole (spWh K) := by
  refine T.f_is_whole.cal sc_is_whole (fun vs H Q E h => by obtain ⟨a, _, h⟩ := h; exact h.len) (fun _ _ _ _ _ _ us hl => match us, hl with | [_], _ => rfl) fun f cdv A outer s H vs Q E hr h => ?_
  obtain ⟨d, hk, h⟩ := h
  refine ⟨_, (pss_one (ps_ret (pe_and (pe_callB call_isi (by rfl) T.b_isinstance (by decide +kernel) (pa_cons (pv 0) (pa_cons (pe_bltn (v := .ty "int") (u := .type "int") (by rfl) T.b_int (by decide +kernel) rfl) pa_nil))) (pe_one (pe_not (pe_callB call_isi (by rfl) T.b_isinstance (by decide +kernel) (pa_cons (pv 0) (pa_cons (pe_bltn (v := .ty "bool") (u := .type "bool") (by rfl) T.b_bool (by decide +kernel) rfl) pa_nil)))))))), fn_goD (l := [d]) h ?_⟩
  obtain ⟨m, hm⟩ := D.kn_of hk
  refine sd_ret (ev_is (ev_andV (ev_isi (ev_vd rfl) hm (kb_int d m hm)) fun _ => ev_notV (ev_isi (ev_vd rfl) hm (kb_bool d m hm))) ?_) rfl
  rw [kbT_whole hm]
/-- a value that may be asked for a ratio: its kind and its items' kinds are known -/
def Vd (d : D) : Prop := d.kn = true ∧ ∀ l, d = .tup l → ∀ x ∈ l, x.kn = true
def spIr (K : PySem.W.Frag) : Sp := fun vs H Q _ => ∃ d : D, Vd d ∧ spV K [.dat d] [] (.dat (.bl d.ratio)) [] vs H Q
theorem sc_is_ratio : FnScope N_is_ratio P_is_ratio (defScope s_is_ratio) := ⟨rfl, rfl, rfl, by decide +kernel, rfl, by decide +kernel, by decide +kernel⟩
theorem ok_is_ratio (T : Tx K mg) : Cal P w K mg base CX0 2 "is_ratio" P_is_ratio (spIr K) := by
  refine T.f_is_ratio.cal sc_is_ratio (fun vs H Q E h => by obtain ⟨a, _, h⟩ := h; exact h.len) (fun _ _ _ _ _ _ us hl => match us, hl with | [_], _ => rfl) fun f cdv A outer s H vs Q E hr h => ?_
  obtain ⟨d, ⟨hk, hi⟩, h⟩ := h
  refine ⟨_, (pss_cons (ps_if (pt_truth (pe_cal (ok_is_whole T) (hr.mono (by decide)) rfl (pa_cons (pv 0) pa_nil)) (by intro _; rfl))
 (pss_one (ps_ret pe_bl))
 pss_nil)
 (pss_cons (ps_if (PW.pt (pw_or (pt_not (pt_truth (pe_callB call_isi (by rfl) T.b_isinstance (by decide +kernel) (pa_cons (pv 0) (pa_cons (pe_bltn (v := .ty "tuple") (u := .type "tuple") (by rfl) T.b_tuple (by decide +kernel) rfl) pa_nil))) (by intro _; rfl))) (pw_or1 (pt_cmpR (op_neA hr.units) (pe_callB call_lenA (by rfl) T.b_len (by decide +kernel) (pa_cons (pv 0) pa_nil)) pe_int (nomark _)))))
 (pss_one (ps_ret pe_bl))
 pss_nil)
 (pss_one (ps_ret (pe_and (pe_cal (ok_is_whole T) (hr.mono (by decide)) rfl (pa_cons (pe_ix ix_seq (pv 0) pe_int (fun _ _ => rfl)) pa_nil)) (pe_and (pe_cal (ok_is_whole T) (hr.mono (by decide)) rfl (pa_cons (pe_ix ix_seq (pv 0) pe_int (fun _ _ => rfl)) pa_nil)) (pe_one (pe_cmpR op_gt (pe_ix ix_seq (pv 0) pe_int (fun _ _ => rfl)) pe_int (nomark _))))))))), fn_goD (l := [d]) h ?_⟩
  refine sd_seq (M := fun e w => e = [.dat d] ∧ w = [] ∧ d.whole = false) (sd_if (et_truB (ev_callD (l := [d]) (ea_cons (ev_vd rfl) ea_nil) (fun vs H Q h => ⟨d, hk, h⟩))) (fun hb => ?_) (fun hb => sd_next ⟨rfl, rfl, hb⟩)) ?_
  · refine sd_ret (ev_bl true) ?_
    cases d <;> simp_all [D.whole, D.ratio]
  · rintro e w ⟨rfl, rfl, hw⟩
    cases hd : d.isTup with
    | false =>
      refine sd_seq (M := fun _ _ => False) (sd_if (et_orT (et_not (a := false) (et_truB (ev_is (ev_isTuple (ev_vd rfl) hk) (by rw [hd])))) ) (fun _ => sd_ret (ev_bl false) ?_) (fun hb => by cases hb)) (fun _ _ x => x.elim)
      cases d <;> simp_all [D.whole, D.ratio, D.isTup]
    | true =>
      obtain ⟨l, rfl⟩ : ∃ l, d = .tup l := by cases d <;> simp_all [D.isTup]
      refine sd_seq (M := fun e w => e = [.dat (.tup l)] ∧ w = [] ∧ l.length = 2) (sd_if (et_orF (et_not (a := true) (et_truB (ev_isTuple (ev_vd rfl) hk))) (et_test (ev_neI (ev_len (ev_vd rfl) rfl) (ev_int 2)))) (fun hb => sd_ret (ev_bl false) ?_) (fun hb => sd_next ⟨rfl, rfl, ?_⟩)) ?_
      · have : ¬ l.length = 2 := by
          have h0 := hb
          simp at h0; omega
        show En.dat (.bl false) = .dat (.bl (D.ratio _))
        rw [ratio_len l this]
      · have := hb
        simp at this; omega
      · rintro e w ⟨rfl, rfl, hl⟩
        obtain ⟨x, y, rfl⟩ : ∃ x y, l = [x, y] := by
          match l, hl with
          | [x, y], _ => exact ⟨x, y, rfl⟩
        have hx : x.kn = true := hi _ rfl x (by simp)
        have hy : y.kn = true := hi _ rfl y (by simp)
        have i0 : ∀ {e : List En}, EV K (tOp (rIx K) (tVar 0) (tC (.int 0))) [.dat (.tup [x, y])] [] (.dat x) [] := fun {e} => ev_ix (ev_vd rfl) (ev_int 0) rfl rfl
        have i1 : ∀ {e : List En}, EV K (tOp (rIx K) (tVar 0) (tC (.int 1))) [.dat (.tup [x, y])] [] (.dat y) [] := fun {e} => ev_ix (ev_vd rfl) (ev_int 1) rfl rfl
        cases hwx : x.whole with
        | false =>
          refine sd_ret (ev_andV (a := false) (b := false) (ev_is (ev_callD (l := [x]) (ea_cons (i0 (e := [])) ea_nil) (fun vs H Q h => ⟨x, hx, h⟩)) (by rw [hwx])) (fun h => by cases h)) ?_
          cases x <;> simp_all [D.whole, D.ratio]
        | true =>
          obtain ⟨a, rfl⟩ : ∃ a, x = .int a := by cases x <;> simp_all [D.whole]
          cases hwy : y.whole with
          | false =>
            refine sd_ret (ev_andV (a := true) (b := false) (ev_callD (l := [.int a]) (ea_cons (i0 (e := [])) ea_nil) (fun vs H Q h => ⟨.int a, rfl, h⟩)) (fun _ => ev_andV (a := false) (b := false) (ev_is (ev_callD (l := [y]) (ea_cons (i1 (e := [])) ea_nil) (fun vs H Q h => ⟨y, hy, h⟩)) (by rw [hwy])) (fun h => by cases h))) ?_
            cases y <;> simp_all [D.whole, D.ratio]
          | true =>
            obtain ⟨b, rfl⟩ : ∃ b, y = .int b := by cases y <;> simp_all [D.whole]
            exact sd_ret (ev_andV (a := true) (ev_callD (l := [.int a]) (ea_cons (i0 (e := [])) ea_nil) (fun vs H Q h => ⟨.int a, rfl, h⟩)) (fun _ => ev_andV (a := true) (ev_callD (l := [.int b]) (ea_cons (i1 (e := [])) ea_nil) (fun vs H Q h => ⟨.int b, rfl, h⟩)) (fun _ => ev_gt (i1 (e := [])) (ev_int 0)))) rfl
/-- a ratio in any terms -/
def Good (d : D) : Prop := (∃ i : Int, d = .int i) ∨ ∃ a b : Int, d = .tup [.int a, .int b] ∧ 0 < b ∧ b.natAbs.log2 < 9000
theorem Good.vd {d : D} (h : Good d) : Vd d ∧ d.ratio = true := by
  rcases h with ⟨i, rfl⟩ | ⟨a, b, rfl, hb, _⟩
  · exact ⟨⟨rfl, fun l h => by cases h⟩, rfl⟩
  · refine ⟨⟨rfl, fun l h => ?_⟩, decide_eq_true hb⟩
    cases h
    intro x hx
    simp at hx
    rcases hx with rfl | rfl <;> rfl
def GoodV (d : D) : Prop := Good d ∧ 0 < (toldQ d).1
def BadV (d : D) : Prop := Vd d ∧ (d.ratio = false ∨ (Good d ∧ (toldQ d).1 ≤ 0))
def spTold (K : PySem.W.Frag) : Sp := fun vs H Q _ => ∃ d s : D, Good d ∧ spV K [.dat d, .dat s] [] (.dat (dq (toldQ d))) [] vs H Q
theorem sc_told : FnScope N_told P_told (defScope s_told) := ⟨rfl, rfl, rfl, by decide +kernel, rfl, by decide +kernel, by decide +kernel⟩
theorem ok_told (T : Tx K mg) : Cal P w K mg base CX0 4 "told" P_told (spTold K) := by
  refine T.f_told.cal sc_told (fun vs H Q E h => by obtain ⟨_, _, _, h⟩ := h; exact h.len) (fun _ _ _ _ _ _ us hl => match us, hl with | [_, _], _ => rfl) fun f cdv A outer s H vs Q E hr h => ?_
  obtain ⟨d, z, hd, h⟩ := h
  refine ⟨_, (pss_cons (ps_if (pt_not (pt_truth (pe_cal (ok_is_ratio T) (hr.mono (by decide)) rfl (pa_cons (pv 0) pa_nil)) (by intro _; rfl)))
 (pss_one ps_never)
 pss_nil)
 (pss_cons (ps_if (pt_truth (pe_callB call_isi (by rfl) T.b_isinstance (by decide +kernel) (pa_cons (pv 0) (pa_cons (pe_bltn (v := .ty "int") (u := .type "int") (by rfl) T.b_int (by decide +kernel) rfl) pa_nil))) (by intro _; rfl))
 (pss_one (ps_ret (pe_tup (pa_cons (pv 0) (pa_cons pe_int pa_nil)))))
 pss_nil)
 (pss_one (ps_ret (pe_cal (ok_lowest T) (hr.mono (by decide)) rfl (pa_cons (pe_ix ix_seq (pv 0) pe_int (fun _ _ => rfl)) (pa_cons (pe_ix ix_seq (pv 0) pe_int (fun _ _ => rfl)) pa_nil))))))), fn_goD (l := [d, z]) h ?_⟩
  show SD K _ [.dat d, .dat z] [] _
  have hv := hd.vd
  refine sd_seq (M := fun e w => e = [.dat d, .dat z] ∧ w = []) (sd_if (b := false) (et_is (et_not (et_truB (ev_callD (l := [d]) (ea_cons (ev_vd rfl) ea_nil) (fun vs H Q h => ⟨d, hv.1, h⟩)))) (by rw [hv.2]; rfl)) (fun hb => by cases hb) (fun _ => sd_next ⟨rfl, rfl⟩)) ?_
  rintro e w ⟨rfl, rfl⟩
  rcases hd with ⟨i, rfl⟩ | ⟨a, b, rfl, hb, hlb⟩
  · refine sd_seq (M := fun _ _ => False) (sd_if (b := true) (et_truB (ev_isi (ev_vd rfl) rfl (by rfl))) (fun _ => sd_ret (ev_tup (l := [.int i, .int 1]) (ea_cons (ev_vd rfl) (ea_cons (ev_int 1) ea_nil)) (by simp)) rfl) (fun hb => by cases hb)) (fun _ _ x => x.elim)
  · refine sd_seq (M := fun e w => e = [.dat (.tup [.int a, .int b]), .dat z] ∧ w = []) (sd_if (b := false) (et_truB (ev_isi (ev_vd rfl) rfl (by rfl))) (fun hb => by cases hb) (fun _ => sd_next ⟨rfl, rfl⟩)) ?_
    rintro e w ⟨rfl, rfl⟩
    exact sd_ret (ev_callD (l := [.int a, .int b]) (ea_cons (ev_ix (l := [.dat (.int a), .dat (.int b)]) (ev_vd rfl) (ev_int 0) rfl rfl) (ea_cons (ev_ix (l := [.dat (.int a), .dat (.int b)]) (ev_vd rfl) (ev_int 1) rfl rfl) ea_nil)) (fun vs H Q h => ⟨a, b, by omega, hlb, h⟩)) rfl
def spLWh (K : PySem.W.Frag) : Sp := fun vs H Q _ => ∃ d : D, d.kn = true ∧ spV K [.dat d] [] (.dat (.bl d.whole)) [] vs H Q
theorem sc__law_is_whole : FnScope N__law_is_whole P__law_is_whole (defScope s__law_is_whole) := ⟨rfl, rfl, rfl, by decide +kernel, rfl, by decide +kernel, by decide +kernel⟩
theorem ok__law_is_whole (T : Tx K mg) : Cal P w K mg base CX0 1 "_law_is_whole" P__law_is_whole (spLWh K) := by
  refine T.f__law_is_whole.cal sc__law_is_whole (fun vs H Q E h => by obtain ⟨a, _, h⟩ := h; exact h.len) (fun _ _ _ _ _ _ us hl => match us, hl with | [_], _ => rfl) fun f cdv A outer s H vs Q E hr h => ?_
  obtain ⟨d, hk, h⟩ := h
  refine ⟨_, (pss_one (ps_ret (pe_and (pe_callB call_isi (by rfl) T.b_isinstance (by decide +kernel) (pa_cons (pv 0) (pa_cons (pe_bltn (v := .ty "int") (u := .type "int") (by rfl) T.b_int (by decide +kernel) rfl) pa_nil))) (pe_one (pe_not (pe_callB call_isi (by rfl) T.b_isinstance (by decide +kernel) (pa_cons (pv 0) (pa_cons (pe_bltn (v := .ty "bool") (u := .type "bool") (by rfl) T.b_bool (by decide +kernel) rfl) pa_nil)))))))), fn_goD (l := [d]) h ?_⟩
  obtain ⟨m, hm⟩ := D.kn_of hk
  refine sd_ret (ev_is (ev_andV (ev_isi (ev_vd rfl) hm (kb_int d m hm)) fun _ => ev_notV (ev_isi (ev_vd rfl) hm (kb_bool d m hm))) ?_) rfl
  rw [kbT_whole hm]
def spDraw (K : PySem.W.Frag) : Sp := fun vs H Q _ => ∃ (n : Nat) (p : Pen) (m : Int), PenOk n p ∧ n < 2 ^ 40 ∧ 0 < m ∧ m < 2 ^ 60 ∧ spV K [.ptr 0, .dat (.int m)] [p.cn] (.dat (.int (draw p m).1)) [(draw p m).2.cn] vs H Q
theorem sc__law_draw : FnScope N__law_draw P__law_draw (defScope s__law_draw) := ⟨rfl, rfl, rfl, by decide +kernel, rfl, by decide +kernel, by decide +kernel⟩
theorem small_log {m : Int} (h : -(2 ^ 60) < m) (h2 : m < 2 ^ 60) : m.natAbs.log2 < 9000 := by
  have h1 : m.natAbs ≤ 2 ^ 60 := by omega
  have := log2_mono h1
  have e : (2 ^ 60 : Nat).log2 = 60 := by decide +kernel
  omega
theorem ok__law_draw (T : Tx K mg) : Cal P w K mg base CX0 1 "_law_draw" P__law_draw (spDraw K) := by
  refine T.f__law_draw.cal sc__law_draw (fun vs H Q E h => by obtain ⟨n, p, m, _, _, _, _, h⟩ := h; exact h.len) (fun _ _ _ _ _ _ us hl => match us, hl with | [_, _], _ => rfl) fun f cdv A outer s H vs Q E hr h => ?_
  obtain ⟨n, p, m, hp, hn, hm, hm2, h⟩ := h
  refine ⟨_, (pss_cons (ps_dput (hu_of hr) (pv 0) pe_str (pe_op (op_addX) (pe_dget (hu_of hr) (pv 0) pe_str (fun _ _ => rfl)) pe_int) rfl)
 (pss_cons (ps_if (PW.pt (pw_and (pt_cmpR (op_eqA hr.units) (pe_dget (hu_of hr) (pv 0) pe_str (fun _ _ => rfl)) pe_int (nomark _)) (pw_and1 (pt_cmpR op_lt (pe_dget (hu_of hr) (pv 0) pe_str (fun _ _ => rfl)) (pe_callB call_lenA (by rfl) T.b_len (by decide +kernel) (pa_cons (pe_dget (hu_of hr) (pv 0) pe_str (fun _ _ => rfl)) pa_nil)) (nomark _)))))
 (pss_cons (ps_set (i := 3) sc__law_draw.nd rfl (Or.inl rfl) (pe_ix ix_seq (pe_dget (hu_of hr) (pv 0) pe_str (fun _ _ => rfl)) (pe_dget (hu_of hr) (pv 0) pe_str (fun _ _ => rfl)) (fun _ _ => rfl)))
 (pss_cons (ps_dput (hu_of hr) (pv 0) pe_str (pe_op (op_addX) (pe_dget (hu_of hr) (pv 0) pe_str (fun _ _ => rfl)) pe_int) rfl)
 (pss_one (ps_if (pt_cmpR op_ge (pv 3) (pe_op op_pow pe_int pe_int) (nomark _))
 (pss_one (ps_dput (hu_of hr) (pv 0) pe_str (pe_op op_sub (pv 3) (pe_op op_pow pe_int pe_int)) rfl))
 (pss_one (ps_dput (hu_of hr) (pv 0) pe_str (pe_op op_modN (pe_callTy call_intA (by rfl) T.b_int (by decide +kernel) (pa_cons (pe_op (op_addX) (pe_op op_mulX (pe_dget (hu_of hr) (pv 0) pe_str (fun _ _ => rfl)) pe_int) (pv 3)) pa_nil)) pe_int) rfl))))))
 pss_nil)
 (pss_cons (ps_if (pt_cmpR op_gt (pe_dget (hu_of hr) (pv 0) pe_str (fun _ _ => rfl)) pe_int (nomark _))
 (pss_cons (ps_set (i := 4) sc__law_draw.nd rfl (Or.inl rfl) (pe_op op_modN (pe_callTy call_intA (by rfl) T.b_int (by decide +kernel) (pa_cons (pe_dget (hu_of hr) (pv 0) pe_str (fun _ _ => rfl)) pa_nil)) (pv 1)))
 (pss_cons (ps_dput (hu_of hr) (pv 0) pe_str (pe_op op_fdivA (pe_dget (hu_of hr) (pv 0) pe_str (fun _ _ => rfl)) (pv 1)) rfl)
 (pss_one (ps_ret (pv 4)))))
 pss_nil)
 (pss_cons (ps_set (i := 2) sc__law_draw.nd rfl (Or.inl rfl) (pe_op (op_addX) (pe_op (op_addX) (pe_dget (hu_of hr) (pv 0) pe_str (fun _ _ => rfl)) (pe_op op_mulX (pe_dget (hu_of hr) (pv 0) pe_str (fun _ _ => rfl)) pe_int)) pe_int))
 (pss_one (ps_ret (pe_op op_modN (pe_op op_fdivA (pe_callTy call_intA (by rfl) T.b_int (by decide +kernel) (pa_cons (pe_op op_modN (pe_op op_pow (pv 2) pe_int) pe_int) pa_nil)) pe_int) (pv 1)))))))), fn_go h trivial (fun c hc => by simp at hc; subst hc; exact Pen.cl _ _) rfl ?_⟩
  have hf := hp.fill
  have cdm : ∀ a, CDivA a m := fun a => ⟨by omega, small_log (by omega) hm2⟩
  show SD K _ [.ptr 0, .dat (.int m), .un, .un, .un] [p.cn] _
  refine sd_then (sd_pcount (ev_addI (ev_pcount rfl) (ev_int 1)) rfl) ?_
  refine sd_seq (M := fun e w => (∃ x, e = [.ptr 0, .dat (.int m), .un, x, .un]) ∧ w = [p.fill.cn]) ?_ ?_
  · by_cases hc : p.digits = 0 ∧ p.pos < p.cells.length
    · have hcell : (p.cells.map D.int |>.map En.dat)[p.pos]? = some (.dat (.int (p.cells.getD p.pos 0))) := by
        simp [hc.2]
      refine sd_if (et_and (a := true) (b := true) (et_test (ev_is (ev_eqI (ev_pdigits rfl) (ev_int 0)) (by simp [hc.1]))) fun _ => et_test (ev_is (ev_lt (ev_pat rfl) (ev_len (ev_pcells rfl) rfl)) (by simp [hc.2]))) (fun _ => ?_) (fun hb => by cases hb)
      refine sd_then (sd_asg (ev_ix (ev_pcells rfl) (ev_pat rfl) rfl (atI_nat hcell))) ?_
      refine sd_then (sd_pat (n := p.pos + 1) (ev_is (ev_addI (ev_pat rfl) (ev_int 1)) (by simp)) rfl) ?_
      refine sd_if (et_test (ev_ge (ev_vd rfl) (ev_pow (ev_int 10) (ev_int 18) ⟨by decide, by decide, by decide⟩))) (fun hb => ?_) (fun hb => ?_)
      · have hz : (10 : Int) ^ 18 ≤ p.cells.getD p.pos 0 := of_decide_eq_true hb
        refine sd_of (sd_pdigits (ev_sub (ev_vd rfl) (ev_pow (ev_int 10) (ev_int 18) ⟨by decide, by decide, by decide⟩)) rfl) ⟨⟨_, rfl⟩, ?_⟩
        unfold Pen.fill
        dsimp only
        rw [if_pos hc, if_pos hz]; rfl
      · have hz : ¬ (10 : Int) ^ 18 ≤ p.cells.getD p.pos 0 := of_decide_eq_false hb
        refine sd_of (sd_pfold (ev_mod (ev_intA (ev_addI (ev_mulI (ev_pfold rfl) (ev_int 69069) (.of_right (by decide))) (ev_vd rfl))) (ev_int 2147483587) (by decide)) rfl) ⟨⟨_, rfl⟩, ?_⟩
        unfold Pen.fill
        dsimp only
        rw [if_pos hc, if_neg hz, Int.fmod_eq_emod_of_nonneg _ (by decide)]
    · have hfill : p.fill = { p with count := p.count + 1 } := by
        unfold Pen.fill
        dsimp only
        rw [if_neg hc]
      refine sd_if (b := false) ?_ (fun hb => by cases hb) (fun _ => sd_next ⟨⟨_, rfl⟩, by rw [hfill]⟩)
      by_cases h1 : p.digits = 0
      · have h2 : ¬ p.pos < p.cells.length := fun x => hc ⟨h1, x⟩
        exact et_and (a := true) (b := false) (et_test (ev_is (ev_eqI (ev_pdigits rfl) (ev_int 0)) (by simp [h1]))) fun _ => et_test (ev_is (ev_lt (ev_pat rfl) (ev_len (ev_pcells rfl) rfl)) (by simp; omega))
      · exact et_and (a := false) (b := false) (et_test (ev_is (ev_eqI (ev_pdigits rfl) (ev_int 0)) (by simp [h1]))) fun hb => by cases hb
  · rintro e w ⟨⟨x, rfl⟩, rfl⟩
    refine sd_seq (M := fun e w => e = [.ptr 0, .dat (.int m), .un, x, .un] ∧ w = [p.fill.cn] ∧ ¬ 0 < p.fill.digits) (sd_if (et_test (ev_gt (ev_pdigits rfl) (ev_int 0))) (fun hb => ?_) (fun hb => sd_next ⟨rfl, rfl, of_decide_eq_false hb⟩)) ?_
    · have hd : 0 < p.fill.digits := of_decide_eq_true hb
      refine sd_then (sd_asg (ev_mod (ev_intA (ev_pdigits rfl)) (ev_vd rfl) (by omega))) ?_
      refine sd_then (sd_pdigits (ev_fdiv (ev_pdigits rfl) (ev_vd rfl) (cdm _)) rfl) ?_
      refine sd_ret (ev_vd rfl) ?_
      unfold AS.draw
      dsimp only
      rw [if_pos hd, Int.fmod_eq_emod_of_nonneg _ (by omega), Int.fdiv_eq_ediv_of_nonneg _ (by omega)]
      exact ⟨rfl, rfl⟩
    · rintro e w ⟨rfl, rfl, hd⟩
      have c0 := hf.count0
      have c1 := hf.count1
      have f0 := hf.fold0
      have f1 := hf.fold1
      refine sd_then (sd_asg (ev_addI (ev_addI (ev_pfold rfl) (ev_mulI (ev_pcount rfl) (ev_int 7907) (.of_right (by decide)))) (ev_int 37))) ?_
      refine sd_ret (ev_mod (ev_fdiv (ev_intA (ev_mod (ev_pow (ev_vd rfl) (ev_int 17) ⟨by decide, by decide, by omega⟩) (ev_int 2305843009213693951) (by decide))) (ev_int 128) ⟨by decide, by decide⟩) (ev_vd rfl) (by omega)) ?_
      unfold AS.draw
      dsimp only
      rw [if_neg hd, Int.fmod_eq_emod_of_nonneg _ (by omega), Int.fdiv_eq_ediv_of_nonneg _ (by omega), Int.fmod_eq_emod_of_nonneg _ (by omega)]
      exact ⟨rfl, rfl⟩
/-- a draw, as an expression -/
theorem ev_draw {E : XK} {tA : TA} {es : List En} {W R : List Cn} {n : Nat} {p : Pen} {m : Int} (ha : EA K tA es W [.ptr 0, .dat (.int m)] (p.cn :: R)) (hp : PenOk n p) (hn : n < 2 ^ 40) (hm : 0 < m) (hm2 : m < 2 ^ 60) : EV K (tCall (spDraw K) [] E tA) es W (.dat (.int (draw p m).1)) ((draw p m).2.cn :: R) :=
  ev_call (cW := [p.cn]) (R := R) (cW' := [(draw p m).2.cn]) ha (fun vs H Q h => ⟨n, p, m, hp, hn, hm, hm2, h⟩) rfl (fun e he => by simp at he; rcases he with rfl | rfl; exact (by decide : 0 < 1); trivial) (fun c hc => by simp at hc; subst hc; exact Pen.cl _ _)
/-- picks an item: the place is drawn -/
def spPick (K : PySem.W.Frag) : Sp := fun vs H Q _ => ∃ (n : Nat) (p : Pen) (l : List D) (d : D), PenOk n p ∧ n < 2 ^ 40 ∧ 0 < l.length ∧ l.length < 2 ^ 40 ∧ l[(draw p l.length).1.toNat]? = some d ∧
  spV K [.ptr 0, .dat (.lst l)] [p.cn] (.dat d) [(draw p l.length).2.cn] vs H Q
theorem sc__law_pick : FnScope N__law_pick P__law_pick (defScope s__law_pick) := ⟨rfl, rfl, rfl, by decide +kernel, rfl, by decide +kernel, by decide +kernel⟩
theorem pick_get {p : Pen} {l : List D} (h0 : 0 < l.length) : ∃ d, l[(draw p l.length).1.toNat]? = some d ∧ d ∈ l := by
  have hd := draw_range p (m := (l.length : Int)) (by omega)
  have hj : (draw p l.length).1.toNat < l.length := by omega
  exact ⟨l[(draw p l.length).1.toNat], by simp [hj], by simp⟩
theorem ok__law_pick (T : Tx K mg) : Cal P w K mg base CX0 2 "_law_pick" P__law_pick (spPick K) := by
  refine T.f__law_pick.cal sc__law_pick (fun vs H Q E h => by obtain ⟨n, p, l, d, _, _, _, _, _, h⟩ := h; exact h.len) (fun _ _ _ _ _ _ us hl => match us, hl with | [_, _], _ => rfl) fun f cdv A outer s H vs Q E hr h => ?_
  obtain ⟨n, p, l, d, hp, hn, hl, hl2, hget, h⟩ := h
  refine ⟨_, (pss_one (ps_ret (pe_ix ix_seq (pv 1) (pe_cal (ok__law_draw T) (hr.mono (by decide)) rfl (pa_cons (pv 0) (pa_cons (pe_callB call_lenA (by rfl) T.b_len (by decide +kernel) (pa_cons (pv 1) pa_nil)) pa_nil))) (fun _ _ => rfl)))), fn_go h trivial (fun c hc => by simp at hc; subst hc; exact Pen.cl _ _) rfl ?_⟩
  have hd := draw_range p (m := (l.length : Int)) (by omega)
  refine sd_ret (ev_ix (l := l.map .dat) (i := (draw p l.length).1) (e := .dat d) (ev_vd rfl) (ev_draw (R := []) (m := (l.length : Int)) (ea_cons (ev_vp rfl) (ea_cons (ev_is (ev_len (l := l.map .dat) (ev_vd rfl) rfl) (by simp)) ea_nil)) hp hn (by omega) (by omega)) rfl ?_) ⟨rfl, rfl⟩
  have e : (draw p l.length).1 = (((draw p l.length).1.toNat : Nat) : Int) := by omega
  rw [e]
  refine atI_nat ?_
  rw [List.getElem?_map, hget]
  rfl
/-- a pick, as an expression -/
theorem ev_pick {E : XK} {tA : TA} {es : List En} {W R : List Cn} {n : Nat} {p : Pen} {l : List D} {d : D} (ha : EA K tA es W [.ptr 0, .dat (.lst l)] (p.cn :: R)) (hp : PenOk n p) (hn : n < 2 ^ 40) (h0 : 0 < l.length) (h1 : l.length < 2 ^ 40) (hd : l[(draw p l.length).1.toNat]? = some d) :
    EV K (tCall (spPick K) [] E tA) es W (.dat d) ((draw p l.length).2.cn :: R) :=
  ev_call (cW := [p.cn]) (R := R) (cW' := [(draw p l.length).2.cn]) ha (fun vs H Q h => ⟨n, p, l, d, hp, hn, h0, h1, hd, h⟩) rfl (fun e he => by simp at he; rcases he with rfl | rfl; exact (by decide : 0 < 1); trivial) (fun c hc => by simp at hc; subst hc; exact Pen.cl _ _)
/-- the pen that is made of a script: SqL, as the script is frozen -/
def spPen (K : PySem.W.Frag) : Sp := fun vs H Q _ => ∃ ns : List Int, spN K [.dat (.rl (ns.map .int))] [] [] ({ cells := ns, pos := 0, digits := 0, count := 0, fold := ns.foldl (fun f x => (f * 41 + x) % 1000000007) 0 } : Pen).cn vs H Q
theorem sc__law_pen : FnScope N__law_pen P__law_pen (defScope s__law_pen) := ⟨rfl, rfl, rfl, by decide +kernel, rfl, by decide +kernel, by decide +kernel⟩
theorem fold_range : ∀ (ns : List Int) (a : Int), 0 ≤ a → a < 2147483648 → 0 ≤ ns.foldl (fun f x => (f * 41 + x) % 1000000007) a ∧ ns.foldl (fun f x => (f * 41 + x) % 1000000007) a < 2147483648
  | [], a, h1, h2 => ⟨h1, h2⟩
  | x :: r, a, _, _ => fold_range r _ (Int.emod_nonneg _ (by decide)) (Int.lt_trans (Int.emod_lt_of_pos _ (by decide)) (by decide))
theorem pen0_ok (ns : List Int) : PenOk 0 { cells := ns, pos := 0, digits := 0, count := 0, fold := ns.foldl (fun f x => (f * 41 + x) % 1000000007) 0 } :=
  ⟨Int.le_refl _, (fold_range ns 0 (by decide) (by decide)).1, (fold_range ns 0 (by decide) (by decide)).2, Int.le_refl _, Int.le_refl _⟩
theorem ok__law_pen (T : Tx K mg) : Cal P w K mg base CX0 1 "_law_pen" P__law_pen (spPen K) := by
  refine T.f__law_pen.cal sc__law_pen (fun vs H Q E h => by obtain ⟨ns, h⟩ := h; exact h.len) (fun _ _ _ _ _ _ us hl => match us, hl with | [_], _ => rfl) fun f cdv A outer s H vs Q E hr h => ?_
  obtain ⟨ns, h⟩ := h
  refine ⟨_, (pss_cons (ps_set (i := 1) sc__law_pen.nd rfl (Or.inl rfl) pe_int)
 (pss_cons (ps_for PassesOwn.never rfl (pi_seq (pi_list (pv 0)) (pi_tup (pv 0))) (pg_name (i := 2) sc__law_pen.nd rfl (Or.inl rfl))
 (pss_one (ps_set (i := 1) sc__law_pen.nd rfl (Or.inl rfl) (pe_op op_modN (pe_callTy call_intA (by rfl) T.b_int (by decide +kernel) (pa_cons (pe_op (op_addX) (pe_op op_mulX (pv 1) pe_int) (pv 2)) pa_nil)) pe_int))))
 (pss_one (ps_ret (pe_disp (pps_cons pe_str (pe_callTy call_list_of (by rfl) T.b_list (by decide +kernel) (pa_cons (pv 0) pa_nil)) (pps_cons pe_str pe_int (pps_cons pe_str pe_int (pps_cons pe_str pe_int (pps_cons pe_str (pv 1) pps_nil))))) (by rfl) (by rfl) (fun z => by cases z) (by decide)))))), fn_goN h (fun c hc => absurd hc (by simp)) (Pen.cl _ _) rfl rfl ?_⟩
  show SD K _ [.dat (.rl (ns.map .int)), .un, .un] [] _
  refine sd_then (sd_asg (ev_int 0)) ?_
  refine sd_seq (M := fun e w => (∃ x, e = [.dat (.rl (ns.map .int)), .dat (.int (ns.foldl (fun f x => (f * 41 + x) % 1000000007) 0)), x]) ∧ w = []) ?_ ?_
  · refine sd_for (ei_rl (ev_vd rfl)) (fun i e w => (∃ x, e = [.dat (.rl (ns.map .int)), .dat (.int ((ns.take i).foldl (fun f x => (f * 41 + x) % 1000000007) 0)), x]) ∧ w = []) ⟨⟨.un, rfl⟩, rfl⟩ (fun _ _ _ _ => trivial) ?_ ?_
    · rintro i x e w hx ⟨⟨y, rfl⟩, rfl⟩
      obtain ⟨z, hz, rfl⟩ : ∃ z, ns[i]? = some z ∧ x = .dat (.int z) := by
        rw [List.getElem?_map, List.getElem?_map] at hx
        cases q : ns[i]? with
        | none => rw [q] at hx; cases hx
        | some z => rw [q] at hx; cases hx; exact ⟨z, rfl, rfl⟩
      have ht : ns.take (i + 1) = ns.take i ++ [z] := by
        rw [List.take_add_one, hz]; rfl
      refine ⟨[2], _, eg_name, sd_of (sd_asg (ev_mod (ev_intA (ev_addI (ev_mulI (ev_vd rfl) (ev_int 41) (.of_right (by decide))) (ev_vd rfl))) (ev_int 1000000007) (by decide))) ⟨⟨.dat (.int z), ?_⟩, rfl⟩⟩
      rw [Int.fmod_eq_emod_of_nonneg _ (by decide)]
      rw [ht, List.foldl_append]
      rfl
    · rintro e w ⟨⟨y, rfl⟩, rfl⟩
      have : (List.map En.dat (List.map D.int ns)).length = ns.length := by simp
      rw [this, List.take_length]
      exact ⟨⟨_, rfl⟩, rfl⟩
  · rintro e w ⟨⟨x, rfl⟩, rfl⟩
    refine sd_ret (ev_disp (l := [("cells", .lst (ns.map .int)), ("at", .int 0), ("digits", .int 0), ("count", .int 0), ("fold", .int (ns.foldl (fun f x => (f * 41 + x) % 1000000007) 0))]) (ep_cons (ev_str _) (ev_list (ev_vd rfl) rfl) (ep_cons (ev_str _) (ev_int 0) (ep_cons (ev_str _) (ev_int 0) (ep_cons (ev_str _) (ev_int 0) (ep_cons (ev_str _) (ev_vd rfl) ep_nil))))) (by simp)) ?_
    refine ⟨0, rfl, ?_, Nat.le_refl _, rfl⟩
    show some (Cn.dct _) = some (Cn.dct _)
    rw [pen_made ns]
def spLG (K : PySem.W.Frag) : Sp := fun vs H Q _ => ∃ a b : Int, b.natAbs < 2 ^ 30000 ∧ spV K [.dat (.int a), .dat (.int b)] [] (.dat (.int (Int.gcd a b))) [] vs H Q
theorem sc__law_gcd : FnScope N__law_gcd P__law_gcd (defScope s__law_gcd) := ⟨rfl, rfl, rfl, by decide +kernel, rfl, by decide +kernel, by decide +kernel⟩
theorem ok__law_gcd (T : Tx K mg) : Cal P w K mg base CX0 1 "_law_gcd" P__law_gcd (spLG K) := by
  refine T.f__law_gcd.cal sc__law_gcd (fun vs H Q E h => by obtain ⟨a, b, _, h⟩ := h; exact h.len) (fun _ _ _ _ _ _ us hl => match us, hl with | [_, _], _ => rfl) fun f cdv A outer s H vs Q E hr h => ?_
  obtain ⟨a, b, hb, h⟩ := h
  refine ⟨_, (pss_cons (ps_par (i := 0) (j := 1) (by rfl) sc__law_gcd.nd rfl rfl (by decide) rfl rfl (pa_cons (pe_callB call_abs (by rfl) T.b_abs (by decide +kernel) (pa_cons (pv 0) pa_nil)) (pa_cons (pe_callB call_abs (by rfl) T.b_abs (by decide +kernel) (pa_cons (pv 1) pa_nil)) pa_nil)) (by rfl))
 (pss_cons (ps_for PassesOwn.never rfl (pi_range1 rfl T.b_range (pa_cons pe_int pa_nil)) (pg_name (i := 2) sc__law_gcd.nd rfl (Or.inl rfl))
 (pss_cons (ps_if (pt_cmpR (op_eqA hr.units) (pv 1) pe_int (nomark _))
 (pss_one ps_break)
 pss_nil)
 (pss_one (ps_par (i := 0) (j := 1) (by rfl) sc__law_gcd.nd rfl rfl (by decide) rfl rfl (pa_cons (pv 1) (pa_cons (pe_op op_modN (pe_callTy call_intA (by rfl) T.b_int (by decide +kernel) (pa_cons (pv 0) pa_nil)) (pv 1)) pa_nil)) (by rfl)))))
 (pss_one (ps_ret (pv 0))))), fn_goD (l := [.int a, .int b]) h ?_⟩
  refine sd_then (sd_par (by walk_at "ea")) ?_
  rw [abs_nat, abs_nat]
  refine sd_seq (M := fun e w => ∃ y z, e = [.dat (.int (Int.gcd a b)), y, z]) ?_ ?_
  · refine sd_for (ei_rng1 (by walk_at "ea") (by decide)) (fun i e w => ∃ (x y : Nat) (z : En), e = [.dat (.int x), .dat (.int y), z] ∧ Nat.gcd x y = Int.gcd a b ∧ reach (60000 - i) x y) ⟨a.natAbs, b.natAbs, _, rfl, rfl, reach_mono (by decide) (reach_pow 30000 _ _ hb)⟩ (fun _ _ _ _ => trivial) ?_ ?_
    · rintro i v e w hv ⟨x, y, z, rfl, hg, hrch⟩
      obtain ⟨hi, rfl⟩ := rngE_of hv
      have hi : i < 60000 := hi
      refine ⟨[2], _, eg_name, ?_⟩
      refine sd_seq (M := fun e w => e = [.dat (.int x), .dat (.int y), .dat (.int (0 + (i : Int)))] ∧ y ≠ 0) (sd_if (et_test (by walk_at "ev")) (fun hb => ?_) (fun hb => sd_next ⟨rfl, ?_⟩)) ?_
      · have : y = 0 := by
          have := of_decide_eq_true hb
          omega
        subst this
        refine sd_break ⟨.dat (.int 0), .dat (.int (0 + (i : Int))), ?_⟩
        rw [← hg]
        simp
      · have := of_decide_eq_false hb
        omega
      · rintro e w ⟨rfl, hy⟩
        refine sd_of (sd_par (ea_cons (by walk_at "ev") (ea_cons (ev_mod (by walk_at "ev") (by walk_at "ev") (by omega)) ea_nil))) ⟨y, x % y, .dat (.int (0 + (i : Int))), ?_, ?_, ?_⟩
        · rw [Int.fmod_eq_emod_of_nonneg _ (by omega)]; rfl
        · rw [← hg, Nat.gcd_comm x y, Nat.gcd_rec y x, Nat.gcd_comm]
        · have e : 60000 - i = (60000 - (i + 1)) + 1 := by omega
          rw [e] at hrch
          rcases hrch with h0 | h0
          · exact absurd h0 hy
          · exact h0
    · rintro e w ⟨x, y, z, rfl, hg, hrch⟩
      have : y = 0 := by
        rw [rngE_length] at hrch
        exact hrch
      subst this
      refine ⟨.dat (.int 0), z, ?_⟩
      rw [← hg]
      simp
  · rintro e w ⟨y, z, rfl⟩
    exact sd_ret (by walk_at "ev") rfl
end
end K77
namespace K77
open PySem PySem.Spec PyProof.Rows L2 AS Pn
local macro_rules | `(tactic| walk_at "ev") => `(tactic| first
  | exact ev_vd rfl
  | exact ev_vp rfl
  | exact ev_int _
  | exact ev_non
  | exact ev_bl _
  | exact ev_str _
  | assumption
  | (apply ev_addI <;> walk_at "ev")
  | (apply ev_sub <;> walk_at "ev")
  | (apply ev_neg; walk_at "ev")
  | (apply ev_abs; walk_at "ev")
  | (apply ev_intA; walk_at "ev")
  | (apply ev_lt <;> walk_at "ev")
  | (apply ev_le <;> walk_at "ev")
  | (apply ev_gt <;> walk_at "ev")
  | (apply ev_ge <;> walk_at "ev")
  | (apply ev_eqI <;> walk_at "ev")
  | (apply ev_neI <;> walk_at "ev")
  | (apply ev_isN; walk_at "ev")
  | (apply ev_notN; walk_at "ev")
  | (apply ev_isi (by walk_at "ev") rfl; rfl)
  | skip)
local macro_rules | `(tactic| walk_at "ea") => `(tactic| first
  | exact ea_nil
  | (apply ea_cons; walk_at "ev"; walk_at "ea"))
local macro_rules | `(tactic| walk_at "call") => `(tactic| (first
  | exact (fun vs H Q h => ⟨_, h⟩)
  | exact (fun vs H Q h => ⟨_, _, h⟩)
  | exact (fun vs H Q h => ⟨_, _, _, h⟩)))

/-- a whole ratio; a term as it stands in a polynomial; as it is passed -/
def rt (n : Int) : D := .tup [.int n, .int 1]
def tm (q : List Int × Int) : D := .tup [.key q.1, rt q.2]
def tmI (q : List Int × Int) : D := .tup [.key q.1, .int q.2]
theorem Lw_one (n : Int) : Lw n 1 = (n, 1) := by rw [Lw_pos (by decide)]; simp
section
variable {P : Program} {w : World} {K : PySem.W.Frag} {mg : Str → Option Value} {base : Heap}
theorem ev_r0 {te : TE} {es : List En} {W W1 : List Cn} {n : Int} (h : EV K te es W (.dat (rt n)) W1) : EV K (tOp (rIx K) te (tC (.int 0))) es W (.dat (.int n)) W1 := ev_ix (l := [.dat (.int n), .dat (.int 1)]) h (ev_int 0) rfl rfl
theorem ev_r1 {te : TE} {es : List En} {W W1 : List Cn} {n : Int} (h : EV K te es W (.dat (rt n)) W1) : EV K (tOp (rIx K) te (tC (.int 1))) es W (.dat (.int 1)) W1 := ev_ix (l := [.dat (.int n), .dat (.int 1)]) h (ev_int 1) rfl rfl
def spPlus (K : PySem.W.Frag) : Sp := fun vs H Q _ => ∃ a b : Int, spV K [.dat (rt a), .dat (rt b)] [] (.dat (rt (a + b))) [] vs H Q
theorem sc_plus : FnScope N_plus P_plus (defScope s_plus) := ⟨rfl, rfl, rfl, by decide +kernel, rfl, by decide +kernel, by decide +kernel⟩
theorem ok_plus (T : Tx K mg) : Cal P w K mg base CX0 3 "plus" P_plus (spPlus K) := by
  refine T.f_plus.cal sc_plus (fun vs H Q E h => by obtain ⟨_, _, h⟩ := h; exact h.len) (fun _ _ _ _ _ _ us hl => match us, hl with | [_, _], _ => rfl) fun f cdv A outer s H vs Q E hr h => ?_
  obtain ⟨a, b, h⟩ := h
  refine ⟨_, (pss_cons (ps_if (pt_cmpR (op_eqA hr.units) (pe_ix ix_seq (pv 0) pe_int (fun _ _ => rfl)) (pe_ix ix_seq (pv 1) pe_int (fun _ _ => rfl)) (nomark _))
 (pss_one (ps_ret (pe_cal (ok_lowest T) (hr.mono (by decide)) rfl (pa_cons (pe_op (op_addX) (pe_ix ix_seq (pv 0) pe_int (fun _ _ => rfl)) (pe_ix ix_seq (pv 1) pe_int (fun _ _ => rfl))) (pa_cons (pe_ix ix_seq (pv 0) pe_int (fun _ _ => rfl)) pa_nil)))))
 pss_nil)
 (pss_one (ps_ret (pe_cal (ok_lowest T) (hr.mono (by decide)) rfl (pa_cons (pe_op (op_addX) (pe_op op_mulX (pe_ix ix_seq (pv 0) pe_int (fun _ _ => rfl)) (pe_ix ix_seq (pv 1) pe_int (fun _ _ => rfl))) (pe_op op_mulX (pe_ix ix_seq (pv 1) pe_int (fun _ _ => rfl)) (pe_ix ix_seq (pv 0) pe_int (fun _ _ => rfl)))) (pa_cons (pe_op op_mulX (pe_ix ix_seq (pv 0) pe_int (fun _ _ => rfl)) (pe_ix ix_seq (pv 1) pe_int (fun _ _ => rfl))) pa_nil)))))), fn_goD (l := [rt a, rt b]) h ?_⟩
  show SD K _ [.dat (rt a), .dat (rt b)] [] _
  refine sd_seq (M := fun _ _ => False) (sd_if (b := true) (et_test (ev_is (ev_eqI (ev_r1 (n := a) (ev_vd rfl)) (ev_r1 (n := b) (ev_vd rfl))) (by simp))) (fun _ => sd_ret (ev_callD (l := [.int (a + b), .int 1]) (ea_cons (ev_addI (ev_r0 (n := a) (ev_vd rfl)) (ev_r0 (n := b) (ev_vd rfl))) (ea_cons (ev_r1 (n := a) (ev_vd rfl)) ea_nil)) (fun vs H Q h => ⟨a + b, 1, by decide, by decide, by rw [Lw_one]; exact h⟩)) rfl) (fun hb => by cases hb)) (fun _ _ x => x.elim)
def spAE (K : PySem.W.Frag) : Sp := fun vs H Q _ => ∃ (k : List Int) (n : Nat), k.length = n ∧ n ≤ 1000 ∧ (∀ x ∈ k, 0 ≤ x) ∧ spV K [.dat (.key k), .dat (.int n)] [] (.dat (.bl true)) [] vs H Q
theorem sc_are_exponents : FnScope N_are_exponents P_are_exponents (defScope s_are_exponents) := ⟨rfl, rfl, rfl, by decide +kernel, rfl, by decide +kernel, by decide +kernel⟩
theorem ok_are_exponents (T : Tx K mg) : Cal P w K mg base CX0 2 "are_exponents" P_are_exponents (spAE K) := by
  refine T.f_are_exponents.cal sc_are_exponents (fun vs H Q E h => by obtain ⟨_, _, _, _, _, h⟩ := h; exact h.len) (fun _ _ _ _ _ _ us hl => match us, hl with | [_, _], _ => rfl) fun f cdv A outer s H vs Q E hr h => ?_
  obtain ⟨k, n, hk, hn, hp, h⟩ := h
  refine ⟨_, (pss_cons (ps_if (PW.pt (pw_or (pt_not (pt_truth (pe_callB call_isi (by rfl) T.b_isinstance (by decide +kernel) (pa_cons (pv 0) (pa_cons (pe_bltn (v := .ty "tuple") (u := .type "tuple") (by rfl) T.b_tuple (by decide +kernel) rfl) pa_nil))) (by intro _; rfl))) (pw_or1 (pt_cmpR (op_neA hr.units) (pe_callB call_lenA (by rfl) T.b_len (by decide +kernel) (pa_cons (pv 0) pa_nil)) (pv 1) (nomark _)))))
 (pss_one (ps_ret pe_bl))
 pss_nil)
 (pss_one (ps_ret (pe_cmpR (op_eqA hr.units) (pe_lc (own := [("one", 2)]) rfl sc_are_exponents.nd (pi_seq (pi_list (pv 0)) (pi_tup (pv 0))) (blkOk_by (own := [("one", 2)]) (N := N_are_exponents) (sc := defScope s_are_exponents) (by decide +kernel))
 (fun _ _ _ _ _ => (pg_name (i := 2) sc_are_exponents.nd rfl (Or.inl rfl))) (fun _ _ _ _ _ => (pts_one (PW.pt (pw_or (pt_not (show PT _ _ (tTru K _) from pt_truth (pe_cal (ok_is_whole T) (hr.mono (by decide)) rfl (pa_cons (pv 2) pa_nil)) (by intro _; rfl))) (pw_or1 (pt_cmpR op_lt (pv 2) pe_int (nomark _))))))) (fun _ _ _ _ _ => (pv 2))) (pe_lst pa_nil) (nomark _))))), fn_goD (l := [.key k, .int n]) h ?_⟩
  show SD K _ [.dat (.key k), .dat (.int n), .un] [] _
  refine sd_seq (M := fun e w => e = [.dat (.key k), .dat (.int n), .un] ∧ w = []) (sd_if (b := false) (et_is (et_or (a := false) (b := false) (et_is (et_not (et_truB (ev_isTuple (ev_keyT (l := k) (ev_vd rfl)) rfl))) rfl) fun _ => et_test (ev_is (ev_neI (ev_len (l := (k.map D.int).map .dat) (ev_vd rfl) rfl) (ev_vd rfl)) (by simp [hk]))) rfl) (fun hb => by cases hb) (fun _ => sd_next ⟨rfl, rfl⟩)) ?_
  rintro e w ⟨rfl, rfl⟩
  have hei : EI K (iSeq K (tVar 0)) [.dat (.key k), .dat (.int n), .un] [] (k.map fun x => En.dat (.int x)) (fun _ => True) [] := by
    have z := ei_tup (K := K) (W := []) (es := [.dat (.key k), .dat (.int n), .un]) (tl := tVar 0) (ev_keyT (l := k) (ev_vd rfl))
    rw [List.map_map] at z
    exact z
  refine sd_ret (ev_eqNil (e1 := .dat (.lst [])) (l := []) (ev_is (ev_lcF (m := k) (f := fun _ => none) (js := [2]) hei (by omega) trivial (by simp) fun x hx => ?_) (by simp)) rfl rfl) rfl
  have := hp x hx
  exact ⟨_, eg_name, .inr ⟨rfl, et_is (et_or (a := false) (b := false) (et_is (et_not (et_truB (ev_callD (d := .bl true) (l := [.int x]) (ea_cons (ev_vd rfl) ea_nil) (fun vs H Q h => ⟨_, rfl, h⟩)))) rfl) fun _ => et_test (ev_is (ev_lt (ev_vd rfl) (ev_int 0)) (by rw [decide_eq_false (by omega)]))) rfl⟩⟩
/-- a number as it is passed: whole, or a whole ratio -/
def Wv (n : Int) (d : D) : Prop := d = .int n ∨ d = rt n
theorem Wv.good {n : Int} {d : D} (h : Wv n d) : Good d := by
  rcases h with rfl | rfl
  · exact .inl ⟨n, rfl⟩
  · exact .inr ⟨n, 1, rfl, by decide, by decide⟩
theorem Wv.told {n : Int} {d : D} (h : Wv n d) : dq (toldQ d) = rt n := by
  rcases h with rfl | rfl
  · rfl
  · show dq (Lw n 1) = rt n
    rw [Lw_one]; rfl
def spIT (K : PySem.W.Frag) : Sp := fun vs H Q _ => ∃ (k : List Int) (n : Nat) (x : Int) (d : D), k.length = n ∧ n ≤ 1000 ∧ (∀ x ∈ k, 0 ≤ x) ∧ Wv x d ∧ spV K [.dat (.tup [.key k, d]), .dat (.int n)] [] (.dat (.bl true)) [] vs H Q
theorem sc_is_term : FnScope N_is_term P_is_term (defScope s_is_term) := ⟨rfl, rfl, rfl, by decide +kernel, rfl, by decide +kernel, by decide +kernel⟩
theorem ok_is_term (T : Tx K mg) : Cal P w K mg base CX0 3 "is_term" P_is_term (spIT K) := by
  refine T.f_is_term.cal sc_is_term (fun vs H Q E h => by obtain ⟨_, _, _, _, _, _, _, _, h⟩ := h; exact h.len) (fun _ _ _ _ _ _ us hl => match us, hl with | [_, _], _ => rfl) fun f cdv A outer s H vs Q E hr h => ?_
  obtain ⟨k, n, x, d, hk, hn, hp, hd, h⟩ := h
  refine ⟨_, (pss_cons (ps_if (PW.pt (pw_or (pt_not (pt_truth (pe_callB call_isi (by rfl) T.b_isinstance (by decide +kernel) (pa_cons (pv 0) (pa_cons (pe_bltn (v := .ty "tuple") (u := .type "tuple") (by rfl) T.b_tuple (by decide +kernel) rfl) pa_nil))) (by intro _; rfl))) (pw_or1 (pt_cmpR (op_neA hr.units) (pe_callB call_lenA (by rfl) T.b_len (by decide +kernel) (pa_cons (pv 0) pa_nil)) pe_int (nomark _)))))
 (pss_one (ps_ret pe_bl))
 pss_nil)
 (pss_one (ps_ret (pe_and (pe_cal (ok_are_exponents T) (hr.mono (by decide)) rfl (pa_cons (pe_ix ix_seq (pv 0) pe_int (fun _ _ => rfl)) (pa_cons (pv 1) pa_nil))) (pe_one (pe_cal (ok_is_ratio T) (hr.mono (by decide)) rfl (pa_cons (pe_ix ix_seq (pv 0) pe_int (fun _ _ => rfl)) pa_nil))))))), fn_goD (l := [.tup [.key k, d], .int n]) h ?_⟩
  show SD K _ [.dat (.tup [.key k, d]), .dat (.int n)] [] _
  refine sd_seq (M := fun e w => e = [.dat (.tup [.key k, d]), .dat (.int n)] ∧ w = []) (sd_if (b := false) (et_is (et_or (a := false) (b := false) (et_is (et_not (et_truB (ev_isTuple (ev_vd rfl) rfl))) rfl) fun _ => et_test (ev_is (ev_neI (ev_len (l := [.dat (.key k), .dat d]) (ev_vd rfl) rfl) (ev_int 2)) rfl)) rfl) (fun hb => by cases hb) (fun _ => sd_next ⟨rfl, rfl⟩)) ?_
  rintro e w ⟨rfl, rfl⟩
  have i0 : EV K (tOp (rIx K) (tVar 0) (tC (.int 0))) [.dat (.tup [.key k, d]), .dat (.int n)] [] (.dat (.key k)) [] := ev_ix (l := [.dat (.key k), .dat d]) (ev_vd rfl) (ev_int 0) rfl rfl
  have i1 : EV K (tOp (rIx K) (tVar 0) (tC (.int 1))) [.dat (.tup [.key k, d]), .dat (.int n)] [] (.dat d) [] := ev_ix (l := [.dat (.key k), .dat d]) (ev_vd rfl) (ev_int 1) rfl rfl
  have hv := hd.good.vd
  exact sd_ret (ev_andV (a := true) (b := true) (ev_callD (l := [.key k, .int n]) (ea_cons i0 (ea_cons (ev_vd rfl) ea_nil)) (fun vs H Q h => ⟨k, n, hk, hn, hp, h⟩)) (fun _ => ev_is (ev_callD (l := [d]) (ea_cons i1 ea_nil) (fun vs H Q h => ⟨d, hv.1, h⟩)) (by rw [hv.2]))) rfl
end
end K77
namespace K77
open PySem PySem.Spec PyProof.Rows L2 AS Pn
local macro_rules | `(tactic| walk_at "ev") => `(tactic| first
  | exact ev_vd rfl
  | exact ev_vp rfl
  | exact ev_int _
  | exact ev_non
  | exact ev_bl _
  | exact ev_str _
  | assumption
  | (apply ev_addI <;> walk_at "ev")
  | (apply ev_sub <;> walk_at "ev")
  | (apply ev_neg; walk_at "ev")
  | (apply ev_abs; walk_at "ev")
  | (apply ev_intA; walk_at "ev")
  | (apply ev_lt <;> walk_at "ev")
  | (apply ev_le <;> walk_at "ev")
  | (apply ev_gt <;> walk_at "ev")
  | (apply ev_ge <;> walk_at "ev")
  | (apply ev_eqI <;> walk_at "ev")
  | (apply ev_neI <;> walk_at "ev")
  | (apply ev_isN; walk_at "ev")
  | (apply ev_notN; walk_at "ev")
  | (apply ev_isi (by walk_at "ev") rfl; rfl)
  | skip)
local macro_rules | `(tactic| walk_at "ea") => `(tactic| first
  | exact ea_nil
  | (apply ea_cons; walk_at "ev"; walk_at "ea"))
local macro_rules | `(tactic| walk_at "call") => `(tactic| (first
  | exact (fun vs H Q h => ⟨_, h⟩)
  | exact (fun vs H Q h => ⟨_, _, h⟩)
  | exact (fun vs H Q h => ⟨_, _, _, h⟩)))

theorem nz_fm (c : List Int → Int) : ∀ m : List (List Int), m.filterMap (fun k => if c k = 0 then none else some (tm (k, c k))) = (nz (m.map fun k => (k, c k))).map tm
  | [] => rfl
  | k :: m => by
    have ih := nz_fm c m
    by_cases h : c k = 0
    · have e : nz ((k :: m).map fun k => (k, c k)) = nz (m.map fun k => (k, c k)) := by simp [nz, h]
      rw [e, ← ih, List.filterMap_cons]; simp [h]
    · have e : nz ((k :: m).map fun k => (k, c k)) = (k, c k) :: nz (m.map fun k => (k, c k)) := by simp [nz, h]
      rw [e, List.map_cons, ← ih, List.filterMap_cons]; simp [h]
theorem take_succ' {α : Type} {l : List α} {i : Nat} {a : α} (h : l[i]? = some a) : l.take (i + 1) = l.take i ++ [a] := by rw [List.take_add_one, h]; rfl
theorem mem_map_get {α β : Type} {l : List α} {f : α → β} {i : Nat} {x : β} (h : (l.map f)[i]? = some x) : ∃ a, l[i]? = some a ∧ a ∈ l ∧ x = f a := by
  rw [List.getElem?_map] at h
  cases q : l[i]? with
  | none => rw [q] at h; cases h
  | some a => rw [q] at h; cases h; exact ⟨a, rfl, List.mem_of_getElem? q, rfl⟩
section
variable {P : Program} {w : World} {K : PySem.W.Frag} {mg : Str → Option Value} {base : Heap}
def spMe (K : PySem.W.Frag) : Sp := fun vs H Q _ => ∃ (l : M) (dm : Nat) (B : Int), 1 ≤ dm ∧ l.length < 64 ∧ AB dm B l ∧ B ≤ 1000 ∧ spV K [.dat (.lst (l.map tm))] [] (.dat (.tup ((nrm l).map tm))) [] vs H Q
theorem sc_merged : FnScope N_merged P_merged (defScope s_merged) := ⟨rfl, rfl, rfl, by decide +kernel, rfl, by decide +kernel, by decide +kernel⟩
theorem ok_merged (T : Tx K mg) : Cal P w K mg base CX0 4 "merged" P_merged (spMe K) := by
  refine T.f_merged.cal sc_merged (fun vs H Q E h => by obtain ⟨_, _, _, _, _, _, _, h⟩ := h; exact h.len) (fun _ _ _ _ _ _ us hl => match us, hl with | [_], _ => rfl) fun f cdv A outer s H vs Q E hr h => ?_
  obtain ⟨l, dm, B, hdm, hl, hab, hB, h⟩ := h
  refine ⟨_, (pss_cons (ps_set (i := 1) sc_merged.nd rfl (Or.inr rfl) pe_dnewT)
 (pss_cons (ps_for PassesOwn.never rfl (pi_seq (pi_list (pv 0)) (pi_tup (pv 0))) (pg_tup rfl (pgs_cons (pg_name (i := 2) sc_merged.nd rfl (Or.inl rfl)) (pgs_cons (pg_name (i := 3) sc_merged.nd rfl (Or.inl rfl)) pgs_nil)))
 (pss_one (ps_dput (hu_of hr) (pv 1) (pv 2) (pe_ifExp (pt_cmp (pc_din (hu_of hr) (pv 2) (pv 1))) (pe_cal (ok_plus T) (hr.mono (by decide)) rfl (pa_cons (pe_dget (hu_of hr) (pv 1) (pv 2) (fun _ _ => rfl)) (pa_cons (pv 3) pa_nil))) (pv 3)) rfl)))
 (pss_one (ps_ret (pe_callTy call_tuple_of (by rfl) T.b_tuple (by decide +kernel) (pa_cons (pe_lc (own := [("exponents", 2)]) rfl sc_merged.nd (pi_seq (pi_list (pe_callB (XC.cr_sortKT rfl (dm := dm) (B := 1000) hdm) (by rfl) T.b_sorted (by decide +kernel) (pa_cons (pv 1) pa_nil))) (pi_tup (pe_callB (XC.cr_sortKT rfl (dm := dm) (B := 1000) hdm) (by rfl) T.b_sorted (by decide +kernel) (pa_cons (pv 1) pa_nil)))) (blkOk_by (own := [("exponents", 2)]) (N := N_merged) (sc := defScope s_merged) (by decide +kernel))
 (fun _ _ _ _ _ => (pg_name (i := 2) sc_merged.nd rfl (Or.inl rfl))) (fun _ _ _ _ _ => (pts_one (pt_cmpR (show OpR _ (compareOp .NotEq) (rNeA K) from (op_neA hr.units)) (pe_ix (show IxR _ (rIx K) from ix_seq) (pe_dget (by exact hu_of hr) (pv 1) (pv 2) (fun _ _ => rfl)) pe_int (fun _ _ => rfl)) pe_int (nomark _)))) (fun _ _ _ _ _ => (pe_tup (pa_cons (pv 2) (pa_cons (pe_dget (by exact hu_of hr) (pv 1) (pv 2) (fun _ _ => rfl)) pa_nil))))) pa_nil)))))), fn_goD (l := [.lst (l.map tm)]) h ?_⟩
  show SD K _ [.dat (.lst (l.map tm)), .un, .un, .un] [] _
  refine sd_then (sd_asg ev_dnewT) ?_
  refine sd_seq (M := fun e w => ∃ x2 x3, e = [.dat (.lst (l.map tm)), .ptr 0, x2, x3] ∧ w = [.dt (dF rt (acc [] l))]) ?_ ?_
  · refine sd_for (ei_lst (l := l.map tm) (ev_vd rfl)) (fun i e w => ∃ x2 x3, e = [.dat (.lst (l.map tm)), .ptr 0, x2, x3] ∧ w = [.dt (dF rt (acc [] (l.take i)))]) ⟨.un, .un, rfl, rfl⟩ (fun _ _ _ _ => trivial) ?_ ?_
    · rintro i x e w hx ⟨x2, x3, rfl, rfl⟩
      rw [List.map_map] at hx
      obtain ⟨q, hq, hm, rfl⟩ := mem_map_get hx
      have hil : (l.take i).length ≤ i := by rw [List.length_take]; omega
      have hi : i < l.length := (List.getElem?_eq_some_iff.mp hq).1
      have hlen := len_acc (l := l.take i) (m := [])
      refine ⟨[2, 3], _, eg_tup2 (x := .key q.1) (y := rt q.2), ?_⟩
      refine sd_of (sd_dputT (W1 := [.dt (dF rt (acc [] (l.take i)))]) (i := 0) (kvs := dF rt (acc [] (l.take i))) (d := rt ((getM (acc [] (l.take i)) q.1).getD 0 + q.2)) (k := q.1) ?_ (ev_vp rfl) (ev_vd rfl) rfl ?_) ?_
      · have hin : ET K (tB (tDIn (tVar 2) (tVar 1))) [.dat (.lst (l.map tm)), .ptr 0, .dat (.key q.1), .dat (rt q.2)] [.dt (dF rt (acc [] (l.take i)))] (lookT (dF rt (acc [] (l.take i))) q.1).isSome [.dt (dF rt (acc [] (l.take i)))] := et_B (ev_dinT (k := q.1) (ev_vd rfl) (ev_vp rfl) (dicE_ptr rfl))
        cases hg : getM (acc [] (l.take i)) q.1 with
        | none =>
          refine ev_ifF (et_is hin (by rw [look_dF, hg]; rfl)) (ev_is (ev_vd rfl) ?_)
          show En.dat (rt q.2) = .dat (rt (0 + q.2))
          rw [Int.zero_add]
        | some c =>
          refine ev_ifT (et_is hin (by rw [look_dF, hg]; rfl)) (ev_callD (l := [rt c, rt q.2]) (ea_cons (ev_dgetT (k := q.1) (kvs := dF rt (acc [] (l.take i))) (ev_vp rfl) (ev_vd rfl) (dicE_ptr rfl) (by rw [look_dF, hg]; rfl)) (ea_cons (ev_vd rfl) ea_nil)) (fun vs H Q h => ⟨c, q.2, h⟩))
      · rw [dF_length]; simp only [List.length_nil] at hlen; omega
      · refine ⟨_, _, rfl, ?_⟩
        show [Cn.dt (putT _ _ _)] = _
        rw [put_dF, take_succ' hq, acc_append]; rfl
    · rintro e w ⟨x2, x3, rfl, rfl⟩
      refine ⟨x2, x3, rfl, ?_⟩
      rw [List.length_map, List.length_map, List.take_length]
  · rintro e w ⟨x2, x3, rfl, rfl⟩
    have hlen := len_acc (l := l) (m := [])
    have hsl : (srtK (Pn.ks (acc [] l))).length ≤ 1000000 := by
      rw [(srtK_perm _).length_eq]
      show (List.map _ _).length ≤ _
      rw [List.length_map]
      have : ([] : M).length = 0 := rfl
      omega
    have bk : ∀ k ∈ Pn.ks (acc [] l), BK dm B k := fun k hk => by
      rcases ks_acc.mp hk with z | z
      · simp [Pn.ks] at z
      · obtain ⟨r, hr, e⟩ := List.mem_map.mp z
        rw [← e]; exact hab r hr
    have hs := ev_sortKT (K := K) (dm := dm) (B := 1000) (kvs := dF rt (acc [] l)) (ms := srtK (Pn.ks (acc [] l))) (W := [.dt (dF rt (acc [] l))]) (es := [.dat (.lst (l.map tm)), .ptr 0, x2, x3]) (ta := tVar 1) (ev_vp rfl) (dicE_ptr rfl) (by rw [dF_length]; simp only [List.length_nil] at hlen; omega)
      (fun q hq => by
        have : q.1 ∈ Pn.ks (acc [] l) := by rw [← dF_keys rt]; exact List.mem_map.mpr ⟨q, hq, rfl⟩
        exact ⟨(bk _ this).1, (bk _ this).bd hB⟩)
      (fun ns h1 h2 => by rw [dF_keys] at h1; exact srtK_uni (n := dm) (fun k hk => ⟨(bk k hk).1, (bk k hk).bd hB⟩) h1 h2)
    have hei := ei_lst hs
    rw [List.map_map] at hei
    refine sd_ret (ev_tupleL (l := (nrm l).map tm) (ev_is (ev_lcF (m := srtK (Pn.ks (acc [] l))) (f := fun k => if cf l k = 0 then none else some (tm (k, cf l k))) (js := [2]) hei hsl trivial (by simp) fun k hk => ?_) (by rw [nz_fm]; try rfl)) rfl) rfl
    have hk' : k ∈ Pn.ks (acc [] l) := (srtK_perm _).mem_iff.mp hk
    have hlook : lookT (dF rt (acc [] l)) k = some (rt (cf l k)) := by
      rw [look_dF]
      have h1 := getM_some.mpr hk'
      have h2 := getM_cf (k := k) (ND.acc (l := l) ND.nil)
      rw [cf_acc ND.nil, show cf [] k = 0 from rfl, Int.zero_add] at h2
      cases hg : getM (acc [] l) k with
      | none => rw [hg] at h1; cases h1
      | some c => rw [hg] at h2; rw [← h2]; rfl
    refine ⟨_, eg_name, ?_⟩
    have hd : EV K (tDGet (tVar 1) (tVar 2)) [.dat (.lst (l.map tm)), .ptr 0, .dat (.key k), x3] [.dt (dF rt (acc [] l))] (.dat (rt (cf l k))) [.dt (dF rt (acc [] l))] := ev_dgetT (k := k) (kvs := dF rt (acc [] l)) (ev_vp rfl) (ev_vd rfl) (dicE_ptr rfl) hlook
    by_cases h0 : cf l k = 0
    · exact .inr ⟨if_pos h0, et_is (et_test (ev_neI (ev_r0 hd) (ev_int 0))) (by simp [h0])⟩
    · exact .inl ⟨_, if_neg h0, et_is (et_test (ev_neI (ev_r0 hd) (ev_int 0))) (by simp [h0]), ev_tup (l := [.key k, rt (cf l k)]) (ea_cons (ev_vd rfl) (ea_cons hd ea_nil)) (by simp)⟩
/-- a polynomial as it stands -/
def polyD (mg : Str → Option Value) (n : Nat) (l : M) : D := .obj (CP mg) ["size", "terms"] [.int n, .tup (l.map tm)]
/-- what __init__ of a polynomial promises: g tells how the terms are passed -/
def spPI (K : PySem.W.Frag) (C : Addr) : Sp := fun vs H Q _ => ∃ (dm : Nat) (B : Int) (l : M) (g : List Int × Int → D), 1 ≤ dm ∧ dm ≤ 1000 ∧ l.length < 64 ∧ AB dm B l ∧ B ≤ 1000 ∧ (∀ q ∈ l, ∃ d, Wv q.2 d ∧ g q = .tup [.key q.1, d]) ∧
  spV K [.ptr 0, .dat (.int dm), .dat (.lst (l.map g))] [.ins C []] (.dat .non) [.ins C [("size", .dat (.int dm)), ("terms", .dat (.tup ((nrm l).map tm)))]] vs H Q
theorem sc_Poly___init__ : FnScope N_Poly___init__ P_Poly___init__ (defScope s_Poly___init__) := ⟨rfl, rfl, rfl, by decide +kernel, rfl, by decide +kernel, by decide +kernel⟩
theorem ok_Poly (T : Tx K mg) : MakA P w K mg base CX0 5 "Poly" (CP mg) P_Poly___init__ (spPI K (CP mg)) := by
  refine T.cP.mak sc_Poly___init__ (fun vs H Q E h => by obtain ⟨_, _, _, _, _, _, _, _, _, _, h⟩ := h; exact h.len) (fun _ _ _ _ _ _ us hl => match us, hl with | [_, _, _], _ => rfl) fun f cdv A outer s H vs Q E hr h => ?_
  obtain ⟨dm, B, l, g, hdm, hdm2, hl, hab, hB, hg, h⟩ := h
  refine ⟨_, (pss_cons (ps_if (PW.pt (pw_or (pt_not (pt_truth (pe_cal (ok_is_whole T) (hr.mono (by decide)) rfl (pa_cons (pv 1) pa_nil)) (by intro _; rfl))) (pw_or1 (pt_cmpR op_lt (pv 1) pe_int (nomark _)))))
 (pss_one ps_never)
 pss_nil)
 (pss_cons (ps_for PassesOwn.never rfl (pi_seq (pi_list (pv 2)) (pi_tup (pv 2))) (pg_name (i := 3) sc_Poly___init__.nd rfl (Or.inl rfl))
 (pss_one (ps_if (pt_not (pt_truth (pe_cal (ok_is_term T) (hr.mono (by decide)) rfl (pa_cons (pv 3) (pa_cons (pv 1) pa_nil))) (by intro _; rfl)))
 (pss_one ps_never)
 pss_nil)))
 (pss_cons (ps_fld (pv 0) (pv 1) rfl)
 (pss_one (ps_fld (pv 0) (pe_cal (ok_merged T) (hr.mono (by decide)) rfl (pa_cons (pe_lc (own := [("exponents", 4), ("ratio", 5)]) rfl sc_Poly___init__.nd (pi_seq (pi_list (pv 2)) (pi_tup (pv 2))) (blkOk_by (own := [("exponents", 4), ("ratio", 5)]) (N := N_Poly___init__) (sc := defScope s_Poly___init__) (by decide +kernel))
 (fun _ _ _ _ _ => (show PG _ _ (gTup K 2 _) from pg_tup rfl (pgs_cons (pg_name (i := 4) sc_Poly___init__.nd rfl (Or.inl rfl)) (pgs_cons (pg_name (i := 5) sc_Poly___init__.nd rfl (Or.inl rfl)) pgs_nil)))) (fun _ _ _ _ _ => pts_nil) (fun _ _ _ _ _ => (pe_tup (pa_cons (pv 4) (pa_cons (pe_cal (ok_told T) (hr.mono (by decide)) rfl (pa_cons (pv 5) (pa_cons pe_str pa_nil))) pa_nil))))) pa_nil)) rfl))))), fn_go h trivial (fun c hc => by simp at hc; subst hc; intro q hq; simp at hq; rcases hq with rfl | rfl <;> trivial) rfl ?_⟩
  show SD K _ [.ptr 0, .dat (.int dm), .dat (.lst (l.map g)), .un, .un, .un] [.ins (CP mg) []] _
  refine sd_seq (M := fun e w => e = [.ptr 0, .dat (.int dm), .dat (.lst (l.map g)), .un, .un, .un] ∧ w = [.ins (CP mg) []]) (sd_if (b := false) (et_is (et_or (a := false) (b := false) (et_is (et_not (et_truB (ev_callD (d := .bl true) (l := [.int dm]) (ea_cons (ev_vd rfl) ea_nil) (fun vs H Q h => ⟨_, rfl, h⟩)))) rfl) fun _ => et_test (ev_is (ev_lt (ev_vd rfl) (ev_int 0)) (by rw [decide_eq_false (by omega)]))) rfl) (fun hb => by cases hb) (fun _ => sd_next ⟨rfl, rfl⟩)) ?_
  rintro e w ⟨rfl, rfl⟩
  refine sd_seq (M := fun e w => ∃ x3, e = [.ptr 0, .dat (.int dm), .dat (.lst (l.map g)), x3, .un, .un] ∧ w = [.ins (CP mg) []]) ?_ ?_
  · refine sd_for (ei_lst (l := l.map g) (ev_vd rfl)) (fun i e w => ∃ x3, e = [.ptr 0, .dat (.int dm), .dat (.lst (l.map g)), x3, .un, .un] ∧ w = [.ins (CP mg) []]) ⟨.un, rfl, rfl⟩ (fun _ _ _ _ => trivial) ?_ ?_
    · rintro i x e w hx ⟨x3, rfl, rfl⟩
      rw [List.map_map] at hx
      obtain ⟨q, hq, hm, rfl⟩ := mem_map_get hx
      obtain ⟨d, hd, e⟩ := hg q hm
      have hb := hab q hm
      refine ⟨[3], _, eg_name, ?_⟩
      refine sd_if (b := false) (et_is (et_not (et_truB (ev_callD (d := .bl true) (l := [g q, .int dm]) (ea_cons (ev_vd rfl) (ea_cons (ev_vd rfl) ea_nil)) (fun vs H Q h => ⟨q.1, dm, q.2, d, hb.1, hdm2, fun x hx => (hb.2 x hx).1, hd, by rw [← e]; exact h⟩)))) rfl) (fun hb => by cases hb) (fun _ => sd_next ⟨_, rfl, rfl⟩)
    · rintro e w ⟨x3, rfl, rfl⟩
      exact ⟨x3, rfl, rfl⟩
  rintro e w ⟨x3, rfl, rfl⟩
  refine sd_then (sd_fld (i := 0) (C := CP mg) (fs := []) (ev_vd rfl) (ev_vp rfl) rfl T.cP.ins.cl T.nPs (by simp)) ?_
  have hei := ei_lst (K := K) (l := l.map g) (tl := tVar 2) (es := [.ptr 0, .dat (.int dm), .dat (.lst (l.map g)), x3, .un, .un]) (W := [.ins (CP mg) [("size", .dat (.int dm))]]) (ev_vd rfl)
  rw [List.map_map] at hei
  refine sd_of (sd_fld (i := 0) (C := CP mg) (fs := [("size", .dat (.int dm))]) (e := .dat (.tup ((nrm l).map tm))) (ev_callD (l := [.lst (l.map tm)]) (ea_cons (ev_lcM (m := l) (f := tm) (js := [4, 5]) hei (by omega) trivial (by simp) fun q hm => ?_) ea_nil) (fun vs H Q h => ⟨l, dm, B, hdm, hl, hab, hB, h⟩)) (ev_vp rfl) rfl T.cP.ins.cl T.nPt (by simp)) ⟨rfl, rfl⟩
  obtain ⟨d, hd, e⟩ := hg q hm
  refine ⟨_, by show EG K _ _ (.dat (g q)) _ _ _; rw [e]; exact eg_tup2, ?_⟩
  exact ev_tup (l := [.key q.1, rt q.2]) (ea_cons (ev_vd rfl) (ea_cons (ev_callD (l := [d, .str "term"]) (ea_cons (ev_vd rfl) (ea_cons (ev_str _) ea_nil)) (fun vs H Q h => ⟨d, .str "term", hd.good, by rw [hd.told]; exact h⟩)) ea_nil)) (by simp)
theorem tm_flat (l : M) : (D.tup (l.map tm)).flat 9 = true := by
  show (l.map tm).all (D.flat 8) = true
  rw [List.all_map, List.all_eq_true]
  intro q _
  rfl
def GP (ns : List Str) (ls : List D) : Prop := ns = (["size", "terms"] : List Str) ∧ ∃ (n : Int) (l : M), ls = [.int n, .tup (l.map tm)]
theorem sc_Poly___eq__ : FnScope N_Poly___eq__ P_Poly___eq__ (defScope s_Poly___eq__) := ⟨rfl, rfl, rfl, by decide +kernel, rfl, by decide +kernel, by decide +kernel⟩
theorem ok_PolyEq (T : Tx K mg) : EqA P w K mg base 1 (CP mg) P_Poly___eq__ (RSame K (CP mg) GP) := by
  refine T.cP.eqA sc_Poly___eq__ (fun vs H Q E h => by obtain ⟨_, _, _, h⟩ := spEq_V h; exact h.len) (fun _ _ _ _ _ _ us hl => match us, hl with | [_, _], _ => rfl) fun f cdv A outer s H vs Q E hr h => ?_
  obtain ⟨ns, ls, ⟨rfl, n, l, rfl⟩, h⟩ := spEq_V h
  refine ⟨_, (pss_one (ps_ret (pe_and (pe_callB call_isi (by rfl) T.b_isinstance (by decide +kernel) (pa_cons (pv 1) (pa_cons (pe_glob (v := .ref (CP mg)) (by rfl) T.cP.g rfl) pa_nil))) (pe_and (pe_cmpR (op_eqA hr.units) (pe_fld (pv 0) rfl) (pe_fld (pv 1) rfl) (nomark _)) (pe_one (pe_cmpR (op_eqA hr.units) (pe_fld (pv 0) rfl) (pe_fld (pv 1) rfl) (nomark _))))))), fn_goD (l := [.obj (CP mg) ["size", "terms"] [.int n, .tup (l.map tm)], .obj (CP mg) ["size", "terms"] [.int n, .tup (l.map tm)]]) h ?_⟩
  refine sd_ret (ev_andV (a := true) (b := true) (ev_isiC (ev_vd rfl) T.cP.ins) (fun _ => ev_andV (a := true) (b := true) (ev_is (ev_eqI (a := n) (b := n) (ev_fld (ev_vd rfl) T.cP.ins.cl T.nPs rfl) (ev_fld (ev_vd rfl) T.cP.ins.cl T.nPs rfl)) (by simp)) (fun _ => ev_eqSame (d := .tup (l.map tm)) (ev_fld (ev_vd rfl) T.cP.ins.cl T.nPt rfl) (ev_fld (ev_vd rfl) T.cP.ins.cl T.nPt rfl) (tm_flat l)))) rfl
end
end K77
namespace K77
open PySem PySem.Spec PyProof.Rows L2 AS Pn
local macro_rules | `(tactic| walk_at "ev") => `(tactic| first
  | exact ev_vd rfl
  | exact ev_vp rfl
  | exact ev_int _
  | exact ev_non
  | exact ev_bl _
  | exact ev_str _
  | assumption
  | (apply ev_addI <;> walk_at "ev")
  | (apply ev_sub <;> walk_at "ev")
  | (apply ev_neg; walk_at "ev")
  | (apply ev_abs; walk_at "ev")
  | (apply ev_intA; walk_at "ev")
  | (apply ev_lt <;> walk_at "ev")
  | (apply ev_le <;> walk_at "ev")
  | (apply ev_gt <;> walk_at "ev")
  | (apply ev_ge <;> walk_at "ev")
  | (apply ev_eqI <;> walk_at "ev")
  | (apply ev_neI <;> walk_at "ev")
  | (apply ev_isN; walk_at "ev")
  | (apply ev_notN; walk_at "ev")
  | (apply ev_isi (by walk_at "ev") rfl; rfl)
  | skip)
local macro_rules | `(tactic| walk_at "ea") => `(tactic| first
  | exact ea_nil
  | (apply ea_cons; walk_at "ev"; walk_at "ea"))
local macro_rules | `(tactic| walk_at "call") => `(tactic| (first
  | exact (fun vs H Q h => ⟨_, h⟩)
  | exact (fun vs H Q h => ⟨_, _, h⟩)
  | exact (fun vs H Q h => ⟨_, _, _, h⟩)))

theorem nrm_one (n : Nat) : nrm [(List.replicate n 0, 1)] = [(List.replicate n 0, 1)] :=
  nrm_id (n := n) (E := 1) (by decide) (fun q hq => by simp at hq; subst hq; exact ⟨by simp, fun x hx => by have := (List.mem_replicate.mp hx).2; omega⟩) ⟨List.pairwise_singleton _ _, fun q hq => by simp at hq; subst hq; simp⟩
theorem nrm_emp : nrm [] = [] := nrm_id (n := 0) (E := 1) (by decide) (fun q hq => by simp at hq) ⟨.nil, fun q hq => by simp at hq⟩
theorem zipE_ints (a b : List Int) : zipE (a.map D.int) (b.map D.int) = (a.zip b).map fun p => En.dat (.tup [.int p.1, .int p.2]) := by
  unfold zipE
  rw [List.zip_map, List.map_map]; rfl
theorem zip_sub (a b : List Int) : ((a.zip b).map fun p => D.int (p.1 - p.2)) = (subK a b).map D.int := by
  unfold subK
  rw [List.map_zipWith, List.zip, List.map_zipWith]
theorem zip_add (a b : List Int) : ((a.zip b).map fun p => D.int (p.1 + p.2)) = (addK a b).map D.int := by
  unfold addK
  rw [List.map_zipWith, List.zip, List.map_zipWith]
theorem atI_zero {l : List En} {j : Nat} {e : En} (h : l[j]? = some e) : atI l (0 + (j : Int)) = some e := by rw [Int.zero_add]; exact atI_nat h
theorem key_at {k : List Int} {j : Nat} (h : j < k.length) : ((k.map D.int).map En.dat)[j]? = some (.dat (.int (k.getD j 0))) := by
  rw [List.getElem?_map, List.getElem?_map, List.getD_eq_getElem?_getD, List.getElem?_eq_getElem h]; rfl
section
variable {P : Program} {w : World} {K : PySem.W.Frag} {mg : Str → Option Value} {base : Heap}
def spOI (K : PySem.W.Frag) (mg : Str → Option Value) : Sp := fun vs H Q _ => ∃ n : Nat, 1 ≤ n ∧ n ≤ 1000 ∧ spV K [.dat (.int n)] [] (.dat (polyD mg n [(List.replicate n 0, 1)])) [] vs H Q
theorem sc_one_in : FnScope N_one_in P_one_in (defScope s_one_in) := ⟨rfl, rfl, rfl, by decide +kernel, rfl, by decide +kernel, by decide +kernel⟩
theorem ok_one_in (T : Tx K mg) : Cal P w K mg base CX0 8 "one_in" P_one_in (spOI K mg) := by
  refine T.f_one_in.cal sc_one_in (fun vs H Q E h => by obtain ⟨_, _, _, h⟩ := h; exact h.len) (fun _ _ _ _ _ _ us hl => match us, hl with | [_], _ => rfl) fun f cdv A outer s H vs Q E hr h => ?_
  obtain ⟨n, h1, h2, h⟩ := h
  refine ⟨_, (pss_one (ps_ret (pe_makA (ok_Poly T) (hr.mono (by decide)) rfl (pa_cons (pv 0) (pa_cons (pe_lst (pa_cons (pe_tup (pa_cons (pe_op XC.op_repX (pe_tup (pa_cons pe_int pa_nil)) (pv 0)) (pa_cons pe_int pa_nil))) pa_nil)) pa_nil))))), fn_goD (l := [.int n]) h ?_⟩
  refine sd_ret (ev_make (ns := ["size", "terms"]) (ls := [.int n, .tup ([(List.replicate n (0 : Int), (1 : Int))].map tm)]) (l := [.int n, .lst [tmI (List.replicate n 0, 1)]]) rfl (ea_cons (ev_vd rfl) (ea_cons (ev_lst (l := [tmI _]) (ea_cons (ev_tup (l := [.key (List.replicate n 0), .int 1]) (ea_cons (ev_repK (ev_tupK (l := [0]) (ea_cons (ev_int 0) ea_nil) (by simp)) (ev_vd rfl) h1 h2) (ea_cons (ev_int 1) ea_nil)) (by simp)) ea_nil) (by simp)) ea_nil)) (fun vs H Q h => ⟨n, 1, [(List.replicate n 0, 1)], tmI, h1, h2, by simp, fun q hq => ?_, by decide, fun q _ => ⟨.int q.2, .inl rfl, rfl⟩, by rw [nrm_one]; exact h⟩)) rfl
  simp at hq; subst hq
  exact ⟨by simp, fun x hx => by have := (List.mem_replicate.mp hx).2; omega⟩
def spLE (K : PySem.W.Frag) : Sp := fun vs H Q _ => ∃ (l : M) (n : Nat) (B : Int), AB n B l ∧ l ≠ [] ∧ l.length ≤ 1000 ∧ n ≤ 1000 ∧ spV K [.dat (.tup (l.map tm)), .dat (.int n)] [] (.dat (.lst ((leastK l n).map D.int))) [] vs H Q
theorem sc_least_exponents : FnScope N_least_exponents P_least_exponents (defScope s_least_exponents) := ⟨rfl, rfl, rfl, by decide +kernel, rfl, by decide +kernel, by decide +kernel⟩
theorem ok_least_exponents (T : Tx K mg) : Cal P w K mg base CX0 1 "least_exponents" P_least_exponents (spLE K) := by
  refine T.f_least_exponents.cal sc_least_exponents (fun vs H Q E h => by obtain ⟨_, _, _, _, _, _, _, h⟩ := h; exact h.len) (fun _ _ _ _ _ _ us hl => match us, hl with | [_, _], _ => rfl) fun f cdv A outer s H vs Q E hr h => ?_
  obtain ⟨l, n, B, hab, hne, hl, hn, h⟩ := h
  refine ⟨_, (pss_one (ps_ret (pe_lc (own := [("j", 2)]) rfl sc_least_exponents.nd (pi_range1 rfl T.b_range (pa_cons (pv 1) pa_nil)) (blkOk_by (own := [("j", 2)]) (N := N_least_exponents) (sc := defScope s_least_exponents) (by decide +kernel))
 (fun _ _ _ _ _ => (pg_name (i := 2) sc_least_exponents.nd rfl (Or.inr rfl))) (fun _ _ _ _ _ => pts_nil) (fun _ _ _ _ _ => (pe_callB (show CallR _ (.builtin "min") (rMin K) from (cr_min rfl)) (by rfl) T.b_min (by decide +kernel) (pa_cons (pe_lc (own := [("exponents", 3), ("ratio", 4)]) rfl sc_least_exponents.nd (show PI _ _ _ (iSeq K _) from (pi_seq (pi_list (pv 0)) (pi_tup (pv 0)))) (blkOk_by (own := [("exponents", 3), ("ratio", 4)]) (N := N_least_exponents) (sc := { kind := .function, names := [(".0", .local), ("j", .cell), ("min", .globalImplicit), ("terms", .cell)], isGenerator := false, isCoroutine := false }) (by decide +kernel))
 (fun _ _ _ _ _ => (show PG _ _ (gTup K 2 _) from pg_tup rfl (pgs_cons (pg_name (i := 3) sc_least_exponents.nd rfl (Or.inl rfl)) (pgs_cons (pg_name (i := 4) sc_least_exponents.nd rfl (Or.inl rfl)) pgs_nil)))) (fun _ _ _ _ _ => pts_nil) (fun _ _ _ _ _ => (pe_ix (show IxR _ (rIx K) from ix_seq) (pv 3) (pv 2) (fun _ _ => rfl)))) pa_nil)))))), fn_goD (l := [.tup (l.map tm), .int n]) h ?_⟩
  show SD K _ [.dat (.tup (l.map tm)), .dat (.int n), .un, .un, .un] [] _
  have hrg := ei_rng1 (K := K) (n := (n : Int)) (ta := tCons (tVar 1) tNil) (es := [.dat (.tup (l.map tm)), .dat (.int n), .un, .un, .un]) (W := []) (ea_cons (ev_vd rfl) ea_nil) (by omega)
  have hnn : (n : Int).toNat = n := by omega
  rw [hnn] at hrg
  refine sd_ret (ev_is (ev_lcM (m := List.range n) (f := fun j => .int (mn (colK l j))) (js := [2]) hrg (by simp; omega) trivial (by simp) fun j hj => ?_) (by unfold leastK; rw [List.map_map]; rfl)) rfl
  have hj : j < n := List.mem_range.mp hj
  refine ⟨_, eg_name, ?_⟩
  have hei := ei_tup (K := K) (l := l.map tm) (tl := tVar 0) (es := [.dat (.tup (l.map tm)), .dat (.int n), .dat (.int (0 + (j : Int))), .un, .un]) (W := []) (ev_vd rfl)
  rw [List.map_map] at hei
  have hcn : colK l j ≠ [] := by simpa [colK] using hne
  refine ev_min (ns := colK l j) (ev_lcM (m := l) (f := fun q => .int (q.1.getD j 0)) (js := [3, 4]) hei (by omega) trivial (by simp) fun q hq => ?_) (by simp only [LstE, colK, List.map_map]; rfl) (mn_mem hcn) (fun y hy => mn_le hy)
  have hb := hab q hq
  refine ⟨_, eg_tup2 (x := .key q.1) (y := rt q.2), ?_⟩
  exact ev_ix (l := (q.1.map D.int).map .dat) (ev_vd rfl) (ev_vd rfl) rfl (atI_zero (key_at (by rw [hb.1]; exact hj)))
/-- numbers that are small -/
def Sm (x : Int) : Prop := x.natAbs < 2 ^ 60
theorem Sm.mul {a b : Int} (ha : Sm a) (hb : Sm b) : IntMulOk a b := mulOk_bits ha hb (by decide)
theorem Sm.log {a : Int} (ha : Sm a) : a.natAbs.log2 < 9000 := log2_lt ha (by decide) (by decide)
theorem Sm.one : Sm 1 := by unfold Sm; decide
def spBr (K : PySem.W.Frag) : Sp := fun vs H Q _ => ∃ (l : M) (s g : Int) (sh : List Int), (∀ q ∈ l, Sm q.2) ∧ Sm s ∧ Sm g ∧ g ≠ 0 ∧ l.length ≤ 1000 ∧ (∀ q ∈ l, q.1.length ≤ 1000) ∧ spV K [.dat (.tup (l.map tm)), .dat (.tup [.int s, .int g]), .dat (.lst (sh.map D.int))] [] (.dat (.lst ((brt s g sh l).map tmI))) [] vs H Q
theorem sc_brought : FnScope N_brought P_brought (defScope s_brought) := ⟨rfl, rfl, rfl, by decide +kernel, rfl, by decide +kernel, by decide +kernel⟩
theorem ok_brought (T : Tx K mg) : Cal P w K mg base CX0 1 "brought" P_brought (spBr K) := by
  refine T.f_brought.cal sc_brought (fun vs H Q E h => by obtain ⟨_, _, _, _, _, _, _, _, _, _, h⟩ := h; exact h.len) (fun _ _ _ _ _ _ us hl => match us, hl with | [_, _, _], _ => rfl) fun f cdv A outer s H vs Q E hr h => ?_
  obtain ⟨l, s0, g, sh, hsm, hs, hg, hg0, hl, hk, h⟩ := h
  refine ⟨_, (pss_cons (ps_set (i := 3) sc_brought.nd rfl (Or.inl rfl) (pe_lst pa_nil))
 (pss_cons (ps_for PassesOwn.never rfl (pi_seq (pi_list (pv 0)) (pi_tup (pv 0))) (pg_tup rfl (pgs_cons (pg_name (i := 4) sc_brought.nd rfl (Or.inl rfl)) (pgs_cons (pg_name (i := 5) sc_brought.nd rfl (Or.inl rfl)) pgs_nil)))
 (pss_cons (ps_set (i := 6) sc_brought.nd rfl (Or.inl rfl) (pe_op op_fdivA (pe_op op_mulX (pe_ix ix_seq (pv 5) pe_int (fun _ _ => rfl)) (pe_ix ix_seq (pv 1) pe_int (fun _ _ => rfl))) (pe_op op_mulX (pe_ix ix_seq (pv 5) pe_int (fun _ _ => rfl)) (pe_ix ix_seq (pv 1) pe_int (fun _ _ => rfl)))))
 (pss_one (ps_expr (pe_bm PySem.F.plainAttrs_list PySem.F.slot_list_append PySem.F.type_list_append mt_append (pv 3) (pa_cons (pe_tup (pa_cons (pe_callTy call_tuple_of (by rfl) T.b_tuple (by decide +kernel) (pa_cons (pe_lc (own := [("a", 7), ("b", 8)]) rfl sc_brought.nd (XC.pi_ziX (by rfl) T.b_zip (pa_cons (pv 4) (pa_cons (pv 2) pa_nil))) (blkOk_by (own := [("a", 7), ("b", 8)]) (N := N_brought) (sc := defScope s_brought) (by decide +kernel))
 (fun _ _ _ _ _ => (show PG _ _ (gTup K 2 _) from pg_tup rfl (pgs_cons (pg_name (i := 7) sc_brought.nd rfl (Or.inl rfl)) (pgs_cons (pg_name (i := 8) sc_brought.nd rfl (Or.inl rfl)) pgs_nil)))) (fun _ _ _ _ _ => pts_nil) (fun _ _ _ _ _ => (pe_op op_sub (pv 7) (pv 8)))) pa_nil)) (pa_cons (pv 6) pa_nil))) pa_nil))))))
 (pss_one (ps_ret (pv 3))))), fn_goD (l := [.tup (l.map tm), .tup [.int s0, .int g], .lst (sh.map D.int)]) h ?_⟩
  show SD K _ [.dat (.tup (l.map tm)), .dat (.tup [.int s0, .int g]), .dat (.lst (sh.map D.int)), .un, .un, .un, .un, .un, .un] [] _
  refine sd_then (sd_asg (ev_lstO (l := []) ea_nil (by simp))) ?_
  refine sd_seq (M := fun e w => ∃ x4 x5 x6, e = [.dat (.tup (l.map tm)), .dat (.tup [.int s0, .int g]), .dat (.lst (sh.map D.int)), .ptr 0, x4, x5, x6, .un, .un] ∧ w = [.lst (((brt s0 g sh l).map tmI).map .dat)]) ?_ ?_
  · refine sd_for (ei_tup (l := l.map tm) (ev_vd rfl)) (fun i e w => ∃ x4 x5 x6, e = [.dat (.tup (l.map tm)), .dat (.tup [.int s0, .int g]), .dat (.lst (sh.map D.int)), .ptr 0, x4, x5, x6, .un, .un] ∧ w = [.lst (((brt s0 g sh (l.take i)).map tmI).map .dat)]) ⟨.un, .un, .un, rfl, rfl⟩ (fun _ _ _ _ => trivial) ?_ ?_
    · rintro i x e w hx ⟨x4, x5, x6, rfl, rfl⟩
      rw [List.map_map] at hx
      obtain ⟨q, hq, hm, rfl⟩ := mem_map_get hx
      have hi : i < l.length := (List.getElem?_eq_some_iff.mp hq).1
      refine ⟨[4, 5], _, eg_tup2 (x := .key q.1) (y := rt q.2), ?_⟩
      refine sd_then (sd_asg (e := .dat (.int ((q.2 * s0).fdiv (1 * g)))) (ev_fdiv (ev_mulI (ev_r0 (n := q.2) (ev_vd rfl)) (ev_ix (l := [.dat (.int s0), .dat (.int g)]) (ev_vd rfl) (ev_int 0) rfl rfl) ((hsm q hm).mul hs)) (ev_mulI (ev_r1 (n := q.2) (ev_vd rfl)) (ev_ix (l := [.dat (.int s0), .dat (.int g)]) (ev_vd rfl) (ev_int 1) rfl rfl) (Sm.one.mul hg)) ⟨by rw [Int.one_mul]; exact hg0, by rw [Int.one_mul]; exact hg.log⟩)) ?_
      have hz := ei_ziX (K := K) (l := q.1.map D.int) (m := sh.map D.int) (d1 := .key q.1) (d2 := .lst (sh.map D.int)) (tA := tCons (tVar 4) (tCons (tVar 2) tNil)) (es := [.dat (.tup (l.map tm)), .dat (.tup [.int s0, .int g]), .dat (.lst (sh.map D.int)), .ptr 0, .dat (.key q.1), .dat (rt q.2), .dat (.int ((q.2 * s0).fdiv (1 * g))), .un, .un]) (W := [.lst (((brt s0 g sh (l.take i)).map tmI).map .dat)]) (ea_cons (ev_vd rfl) (ea_cons (ev_vd rfl) ea_nil)) rfl rfl
      rw [zipE_ints] at hz
      refine sd_of (sd_drop (ev_append (i := 0) (l := ((brt s0 g sh (l.take i)).map tmI).map .dat) (e := .dat (tmI (subK q.1 sh, (q.2 * s0).fdiv (1 * g)))) (ev_vp rfl) (ev_tup (l := [.key (subK q.1 sh), .int ((q.2 * s0).fdiv (1 * g))]) (ea_cons (ev_tupleK (l := subK q.1 sh) (ev_lcM (m := q.1.zip sh) (f := fun p => .int (p.1 - p.2)) (js := [7, 8]) hz ?_ trivial (by simp) fun p hp => ⟨_, eg_tup2, ev_sub (ev_vd rfl) (ev_vd rfl)⟩) (by rw [zip_sub]; rfl)) (ea_cons (ev_vd rfl) ea_nil)) (by simp)) rfl ⟨_, rfl⟩ ?_)) ⟨_, _, _, rfl, ?_⟩
      · have := hk q hm
        rw [List.length_zip]; omega
      · simp [brt]; omega
      · rw [take_succ' hq]
        simp [brt]
    · rintro e w ⟨x4, x5, x6, rfl, rfl⟩
      refine ⟨x4, x5, x6, rfl, ?_⟩
      rw [List.length_map, List.length_map, List.take_length]
  · rintro e w ⟨x4, x5, x6, rfl, rfl⟩
    exact sd_ret (ev_freeze (ev_vp rfl) rfl) rfl
def spWF (K : PySem.W.Frag) : Sp := fun vs H Q _ => ∃ (l : M) (x : Int), (∀ q ∈ l, Sm q.2) ∧ spV K [.dat (.tup (l.map tm)), .dat (rt x)] [] (.dat (.tup [.int (if 0 < x then 1 else -1), .int (gN l : Nat)])) [] vs H Q
theorem sc_whole_factor : FnScope N_whole_factor P_whole_factor (defScope s_whole_factor) := ⟨rfl, rfl, rfl, by decide +kernel, rfl, by decide +kernel, by decide +kernel⟩
theorem ok_whole_factor (T : Tx K mg) : Cal P w K mg base CX0 2 "whole_factor" P_whole_factor (spWF K) := by
  refine T.f_whole_factor.cal sc_whole_factor (fun vs H Q E h => by obtain ⟨_, _, _, h⟩ := h; exact h.len) (fun _ _ _ _ _ _ us hl => match us, hl with | [_, _], _ => rfl) fun f cdv A outer s H vs Q E hr h => ?_
  obtain ⟨l, x, hsm, h⟩ := h
  refine ⟨_, (pss_cons (ps_asg (pe_tup (pa_cons pe_int (pa_cons pe_int pa_nil))) (pg_tup rfl (pgs_cons (pg_name (i := 2) sc_whole_factor.nd rfl (Or.inl rfl)) (pgs_cons (pg_name (i := 3) sc_whole_factor.nd rfl (Or.inl rfl)) pgs_nil))))
 (pss_cons (ps_for PassesOwn.never rfl (pi_seq (pi_list (pv 0)) (pi_tup (pv 0))) (pg_tup rfl (pgs_cons (pg_name (i := 4) sc_whole_factor.nd rfl (Or.inl rfl)) (pgs_cons (pg_name (i := 5) sc_whole_factor.nd rfl (Or.inl rfl)) pgs_nil)))
 (pss_one (ps_set (i := 2) sc_whole_factor.nd rfl (Or.inl rfl) (pe_op op_mulX (pv 2) (pe_op op_fdivA (pe_ix ix_seq (pv 5) pe_int (fun _ _ => rfl)) (pe_cal (ok_common_divisor T) (hr.mono (by decide)) rfl (pa_cons (pv 2) (pa_cons (pe_ix ix_seq (pv 5) pe_int (fun _ _ => rfl)) pa_nil))))))))
 (pss_cons (ps_for PassesOwn.never rfl (pi_seq (pi_list (pv 0)) (pi_tup (pv 0))) (pg_tup rfl (pgs_cons (pg_name (i := 4) sc_whole_factor.nd rfl (Or.inl rfl)) (pgs_cons (pg_name (i := 5) sc_whole_factor.nd rfl (Or.inl rfl)) pgs_nil)))
 (pss_one (ps_set (i := 3) sc_whole_factor.nd rfl (Or.inl rfl) (pe_cal (ok_common_divisor T) (hr.mono (by decide)) rfl (pa_cons (pv 3) (pa_cons (pe_op op_mulX (pe_ix ix_seq (pv 5) pe_int (fun _ _ => rfl)) (pe_op op_fdivA (pv 2) (pe_ix ix_seq (pv 5) pe_int (fun _ _ => rfl)))) pa_nil))))))
 (pss_one (ps_ret (pe_tup (pa_cons (pe_ifExp (pt_cmpR op_gt (pe_ix ix_seq (pv 1) pe_int (fun _ _ => rfl)) pe_int (nomark _)) (pv 2) (pe_un un_neg (pv 2))) (pa_cons (pv 3) pa_nil)))))))), fn_goD (l := [.tup (l.map tm), rt x]) h ?_⟩
  show SD K _ [.dat (.tup (l.map tm)), .dat (rt x), .un, .un, .un, .un] [] _
  refine sd_then (sd_asgG (ev_tup (l := [.int 1, .int 0]) (ea_cons (ev_int 1) (ea_cons (ev_int 0) ea_nil)) (by simp)) eg_tup2) ?_
  have g1 : Int.gcd 1 1 = 1 := by decide
  have dv : CDivA 1 1 := ⟨by decide, by decide⟩
  have one : (1 : Int) * Int.fdiv 1 1 = 1 := by decide
  refine sd_seq (M := fun e w => ∃ x4 x5, e = [.dat (.tup (l.map tm)), .dat (rt x), .dat (.int 1), .dat (.int 0), x4, x5] ∧ w = []) ?_ ?_
  · refine sd_for (ei_tup (l := l.map tm) (ev_vd rfl)) (fun i e w => ∃ x4 x5, e = [.dat (.tup (l.map tm)), .dat (rt x), .dat (.int 1), .dat (.int 0), x4, x5] ∧ w = []) ⟨.un, .un, rfl, rfl⟩ (fun _ _ _ _ => trivial) ?_ ?_
    · rintro i x' e w hx ⟨x4, x5, rfl, rfl⟩
      rw [List.map_map] at hx
      obtain ⟨q, hq, hm, rfl⟩ := mem_map_get hx
      refine ⟨[4, 5], _, eg_tup2 (x := .key q.1) (y := rt q.2), ?_⟩
      refine sd_of (sd_asg (e := .dat (.int 1)) (ev_is (ev_mulI (ev_vd rfl) (ev_fdiv (ev_r1 (n := q.2) (ev_vd rfl)) (ev_is (ev_callD (d := .int (Int.gcd 1 1)) (l := [.int 1, .int 1]) (ea_cons (ev_vd rfl) (ea_cons (ev_r1 (n := q.2) (ev_vd rfl)) ea_nil)) (fun vs H Q h => ⟨1, 1, h⟩)) (by rw [g1]; rfl)) dv) (by rw [show Int.fdiv 1 1 = 1 by decide]; exact Sm.one.mul Sm.one)) (by rw [one]))) ⟨_, _, rfl, rfl⟩
    · rintro e w ⟨x4, x5, rfl, rfl⟩
      exact ⟨x4, x5, rfl, rfl⟩
  rintro e w ⟨x4, x5, rfl, rfl⟩
  refine sd_seq (M := fun e w => ∃ x4 x5, e = [.dat (.tup (l.map tm)), .dat (rt x), .dat (.int 1), .dat (.int (gN l : Nat)), x4, x5] ∧ w = []) ?_ ?_
  · refine sd_for (ei_tup (l := l.map tm) (ev_vd rfl)) (fun i e w => ∃ x4 x5, e = [.dat (.tup (l.map tm)), .dat (rt x), .dat (.int 1), .dat (.int (gN (l.take i) : Nat)), x4, x5] ∧ w = []) ⟨x4, x5, rfl, rfl⟩ (fun _ _ _ _ => trivial) ?_ ?_
    · rintro i x' e w hx ⟨x4, x5, rfl, rfl⟩
      rw [List.map_map] at hx
      obtain ⟨q, hq, hm, rfl⟩ := mem_map_get hx
      refine ⟨[4, 5], _, eg_tup2 (x := .key q.1) (y := rt q.2), ?_⟩
      have hgn : Int.gcd ((gN (l.take i) : Nat) : Int) (q.2 * Int.fdiv 1 1) = gN (l.take (i + 1)) := by
        rw [show Int.fdiv 1 1 = 1 by decide, Int.mul_one, take_succ' hq]
        unfold gN gF
        rw [List.foldl_append]
        rfl
      refine sd_of (sd_asg (e := .dat (.int (gN (l.take (i + 1)) : Nat))) (ev_is (ev_callD (d := .int (Int.gcd ((gN (l.take i) : Nat) : Int) (q.2 * Int.fdiv 1 1))) (l := [.int (gN (l.take i) : Nat), .int (q.2 * Int.fdiv 1 1)]) (ea_cons (ev_vd rfl) (ea_cons (ev_mulI (ev_r0 (n := q.2) (ev_vd rfl)) (ev_fdiv (ev_vd rfl) (ev_r1 (n := q.2) (ev_vd rfl)) dv) (by rw [show Int.fdiv 1 1 = 1 by decide]; exact (hsm q hm).mul Sm.one)) ea_nil)) (fun vs H Q h => ⟨_, _, h⟩)) (by rw [hgn]))) ⟨_, _, rfl, rfl⟩
    · rintro e w ⟨x4, x5, rfl, rfl⟩
      refine ⟨x4, x5, ?_, rfl⟩
      rw [List.length_map, List.length_map, List.take_length]
  · rintro e w ⟨x4, x5, rfl, rfl⟩
    refine sd_ret (ev_tup (l := [.int (if 0 < x then 1 else -1), .int (gN l : Nat)]) (ea_cons (ev_if (W2 := []) (b := decide (0 < x)) (et_test (ev_gt (ev_r0 (n := x) (ev_vd rfl)) (ev_int 0))) (fun hb => ?_) (fun hb => ?_)) (ea_cons (ev_vd rfl) ea_nil)) (by simp)) rfl
    · rw [if_pos (of_decide_eq_true hb)]; exact ev_vd rfl
    · rw [if_neg (of_decide_eq_false hb)]; exact ev_neg (ev_vd rfl)
end
end K77
namespace K77
open PySem PySem.Spec PyProof.Rows L2 AS Pn
local macro_rules | `(tactic| walk_at "ev") => `(tactic| first
  | exact ev_vd rfl
  | exact ev_vp rfl
  | exact ev_int _
  | exact ev_non
  | exact ev_bl _
  | exact ev_str _
  | assumption
  | (apply ev_addI <;> walk_at "ev")
  | (apply ev_sub <;> walk_at "ev")
  | (apply ev_neg; walk_at "ev")
  | (apply ev_abs; walk_at "ev")
  | (apply ev_intA; walk_at "ev")
  | (apply ev_lt <;> walk_at "ev")
  | (apply ev_le <;> walk_at "ev")
  | (apply ev_gt <;> walk_at "ev")
  | (apply ev_ge <;> walk_at "ev")
  | (apply ev_eqI <;> walk_at "ev")
  | (apply ev_neI <;> walk_at "ev")
  | (apply ev_isN; walk_at "ev")
  | (apply ev_notN; walk_at "ev")
  | (apply ev_isi (by walk_at "ev") rfl; rfl)
  | skip)
local macro_rules | `(tactic| walk_at "ea") => `(tactic| first
  | exact ea_nil
  | (apply ea_cons; walk_at "ev"; walk_at "ea"))
local macro_rules | `(tactic| walk_at "call") => `(tactic| (first
  | exact (fun vs H Q h => ⟨_, h⟩)
  | exact (fun vs H Q h => ⟨_, _, h⟩)
  | exact (fun vs H Q h => ⟨_, _, _, h⟩)))

section
variable {P : Program} {w : World} {K : PySem.W.Frag} {mg : Str → Option Value} {base : Heap}
/-- a quotient as it stands -/
def quoD (mg : Str → Option Value) (n : Nat) (p q : M) : D := .obj (CQ mg) ["size", "top", "bottom"] [.int n, polyD mg n p, polyD mg n q]
theorem ev_terms (T : Tx K mg) {te : TE} {es : List En} {W W1 : List Cn} {n : Nat} {l : M} (h : EV K te es W (.dat (polyD mg n l)) W1) : EV K (tFld K te "terms") es W (.dat (.tup (l.map tm))) W1 := ev_fld h T.cP.ins.cl T.nPt rfl
theorem ev_psize (T : Tx K mg) {te : TE} {es : List En} {W W1 : List Cn} {n : Nat} {l : M} (h : EV K te es W (.dat (polyD mg n l)) W1) : EV K (tFld K te "size") es W (.dat (.int n)) W1 := ev_fld h T.cP.ins.cl T.nPs rfl
theorem ev_qsize (T : Tx K mg) {te : TE} {es : List En} {W W1 : List Cn} {n : Nat} {p q : M} (h : EV K te es W (.dat (quoD mg n p q)) W1) : EV K (tFld K te "size") es W (.dat (.int n)) W1 := ev_fld h T.cQ.ins.cl T.nQs rfl
theorem ev_qtop (T : Tx K mg) {te : TE} {es : List En} {W W1 : List Cn} {n : Nat} {p q : M} (h : EV K te es W (.dat (quoD mg n p q)) W1) : EV K (tFld K te "top") es W (.dat (polyD mg n p)) W1 := ev_fld h T.cQ.ins.cl T.nQt rfl
theorem ev_qbot (T : Tx K mg) {te : TE} {es : List En} {W W1 : List Cn} {n : Nat} {p q : M} (h : EV K te es W (.dat (quoD mg n p q)) W1) : EV K (tFld K te "bottom") es W (.dat (polyD mg n q)) W1 := ev_fld h T.cQ.ins.cl T.nQb rfl
/-- Poly(size, terms) as an expression -/
theorem ev_poly {E : XK} {tA : TA} {es : List En} {W W1 : List Cn} {n : Nat} {B : Int} {l : M} {g : List Int × Int → D} (ha : EA K tA es W [.dat (.int n), .dat (.lst (l.map g))] W1) (h1 : 1 ≤ n) (h2 : n ≤ 1000) (hl : l.length < 64) (hab : AB n B l) (hB : B ≤ 1000) (hg : ∀ q ∈ l, ∃ d, Wv q.2 d ∧ g q = .tup [.key q.1, d]) :
    EV K (tMake (CP mg) (spPI K (CP mg)) [] E tA) es W (.dat (polyD mg n (nrm l))) W1 :=
  ev_make (ns := ["size", "terms"]) (ls := [.int n, .tup ((nrm l).map tm)]) (l := [.int n, .lst (l.map g)]) rfl ha fun vs H Q h => ⟨n, B, l, g, h1, h2, hl, hab, hB, hg, h⟩
theorem Wv_tmI (l : M) : ∀ q ∈ l, ∃ d, Wv q.2 d ∧ tmI q = .tup [.key q.1, d] := fun q _ => ⟨.int q.2, .inl rfl, rfl⟩
theorem Wv_tm (l : M) : ∀ q ∈ l, ∃ d, Wv q.2 d ∧ tm q = .tup [.key q.1, d] := fun q _ => ⟨rt q.2, .inr rfl, rfl⟩
theorem Sm.of {x C : Int} (h : (x.natAbs : Int) ≤ C) (hC : C < 2 ^ 59) : Sm x := by
  unfold Sm
  have : (2 : Int) ^ 59 = 576460752303423488 := by decide
  have : (2 : Nat) ^ 60 = 1152921504606846976 := by decide
  omega
/-- what the sizes of two polynomials must be -/
structure Two (n N : Nat) (B C : Int) (a b : M) : Prop where
  pa : Pn.Poly n B C N a
  pb : Pn.Poly n B C N b
  nb : b ≠ []
  hB : B ≤ 1000
  hC : C < 2 ^ 59
  hN : N < 32
  n1 : 1 ≤ n
  n2 : n ≤ 1000
theorem cl_three {n : Nat} {C : Addr} {x y z : Str} {d1 d2 d3 : D} {c : Cn} (h : c = .ins C [(x, .dat d1), (y, .dat d2), (z, .dat d3)]) : ClC n c := by
  subst h
  intro q hq
  rcases List.mem_cons.mp hq with rfl | hq
  · trivial
  rcases List.mem_cons.mp hq with rfl | hq
  · trivial
  rcases List.mem_cons.mp hq with rfl | hq
  · trivial
  · simp at hq
def spQI (K : PySem.W.Frag) (mg : Str → Option Value) : Sp := fun vs H Q _ => ∃ (n N : Nat) (B C : Int) (a b : M), Two n N B C a b ∧
  spV K [.ptr 0, .dat (polyD mg n a), .dat (polyD mg n b)] [.ins (CQ mg) []] (.dat .non) [.ins (CQ mg) [("size", .dat (.int n)), ("top", .dat (polyD mg n (mkQ n a b).1)), ("bottom", .dat (polyD mg n (mkQ n a b).2))]] vs H Q
theorem sc_Quotient___init__ : FnScope N_Quotient___init__ P_Quotient___init__ (defScope s_Quotient___init__) := ⟨rfl, rfl, rfl, by decide +kernel, rfl, by decide +kernel, by decide +kernel⟩
theorem ok_Quotient (T : Tx K mg) : MakA P w K mg base CX0 9 "Quotient" (CQ mg) P_Quotient___init__ (spQI K mg) := by
  refine T.cQ.mak sc_Quotient___init__ (fun vs H Q E h => by obtain ⟨_, _, _, _, _, _, _, h⟩ := h; exact h.len) (fun _ _ _ _ _ _ us hl => match us, hl with | [_, _, _], _ => rfl) fun f cdv A outer s H vs Q E hr h => ?_
  obtain ⟨n, N, B, C, a, b, t, h⟩ := h
  obtain ⟨pa, pb, nb, hB, hC, hN, n1, n2⟩ := t
  refine ⟨_, (pss_cons (ps_if (pt_cmpR (op_eqA hr.units) (pe_fld (pv 2) rfl) (pe_tup pa_nil) (nomark _))
 (pss_one ps_never)
 pss_nil)
 (pss_cons (ps_fld (pv 0) (pe_fld (pv 1) rfl) rfl)
 (pss_one (ps_if (pt_cmpR (op_eqA hr.units) (pe_fld (pv 1) rfl) (pe_tup pa_nil) (nomark _))
 (pss_cons (ps_fld (pv 0) (pe_makA (ok_Poly T) (hr.mono (by decide)) rfl (pa_cons (pe_fld (pv 1) rfl) (pa_cons (pe_lst pa_nil) pa_nil))) rfl)
 (pss_one (ps_fld (pv 0) (pe_cal (ok_one_in T) (hr.mono (by decide)) rfl (pa_cons (pe_fld (pv 1) rfl) pa_nil)) rfl)))
 (pss_cons (ps_set (i := 3) sc_Quotient___init__.nd rfl (Or.inl rfl) (pe_op (op_addX) (pe_fld (pv 1) rfl) (pe_fld (pv 2) rfl)))
 (pss_cons (ps_par (i := 4) (j := 5) (by rfl) sc_Quotient___init__.nd rfl rfl (by decide) rfl rfl (pa_cons (pe_cal (ok_whole_factor T) (hr.mono (by decide)) rfl (pa_cons (pv 3) (pa_cons (pe_ix ix_seq (pe_ix ix_seq (pe_fld (pv 2) rfl) pe_int (fun _ _ => rfl)) pe_int (fun _ _ => rfl)) pa_nil))) (pa_cons (pe_cal (ok_least_exponents T) (hr.mono (by decide)) rfl (pa_cons (pv 3) (pa_cons (pe_fld (pv 1) rfl) pa_nil))) pa_nil)) (by rfl))
 (pss_cons (ps_fld (pv 0) (pe_makA (ok_Poly T) (hr.mono (by decide)) rfl (pa_cons (pe_fld (pv 1) rfl) (pa_cons (pe_cal (ok_brought T) (hr.mono (by decide)) rfl (pa_cons (pe_fld (pv 1) rfl) (pa_cons (pv 4) (pa_cons (pv 5) pa_nil)))) pa_nil))) rfl)
 (pss_one (ps_fld (pv 0) (pe_makA (ok_Poly T) (hr.mono (by decide)) rfl (pa_cons (pe_fld (pv 1) rfl) (pa_cons (pe_cal (ok_brought T) (hr.mono (by decide)) rfl (pa_cons (pe_fld (pv 2) rfl) (pa_cons (pv 4) (pa_cons (pv 5) pa_nil)))) pa_nil))) rfl))))))))), fn_go h trivial (fun c hc => cl_three (by simpa using hc)) rfl ?_⟩
  show SD K _ [.ptr 0, .dat (polyD mg n a), .dat (polyD mg n b), .un, .un, .un] [.ins (CQ mg) []] _
  have hbe : (b.map tm).isEmpty = false := by cases b with
    | nil => exact absurd rfl nb
    | cons x r => rfl
  refine sd_seq (M := fun e w => e = [.ptr 0, .dat (polyD mg n a), .dat (polyD mg n b), .un, .un, .un] ∧ w = [.ins (CQ mg) []]) (sd_if (b := false) (et_test (ev_is (ev_eqNilT (l := b.map tm) (ev_terms T (n := n) (l := b) (ev_vd rfl)) (tm_flat b)) (by rw [hbe]))) (fun hb => by cases hb) (fun _ => sd_next ⟨rfl, rfl⟩)) ?_
  rintro e w ⟨rfl, rfl⟩
  refine sd_then (sd_fld (i := 0) (C := CQ mg) (fs := []) (ev_psize T (n := n) (l := a) (ev_vd rfl)) (ev_vp rfl) rfl T.cQ.ins.cl T.nQs (by simp)) ?_
  show SD K _ [.ptr 0, .dat (polyD mg n a), .dat (polyD mg n b), .un, .un, .un] [.ins (CQ mg) [("size", .dat (.int n))]] _
  refine sd_if (b := (a.map tm).isEmpty) (et_test (ev_eqNilT (l := a.map tm) (ev_terms T (n := n) (l := a) (ev_vd rfl)) (tm_flat a))) (fun he => ?_) (fun he => ?_)
  · have ha : a = [] := by cases a with
      | nil => rfl
      | cons x r => cases he
    subst ha
    have e : mkQ n [] b = ([], [(List.replicate n 0, 1)]) := if_pos rfl
    rw [e]
    refine sd_then (sd_fld (i := 0) (C := CQ mg) (fs := [("size", .dat (.int n))]) (e := .dat (polyD mg n [])) (ev_is (ev_poly (n := n) (B := 1) (l := []) (g := tm) (ea_cons (ev_psize T (n := n) (l := []) (ev_vd rfl)) (ea_cons (ev_lst (l := []) ea_nil (by simp)) ea_nil)) n1 n2 (by simp) (fun q hq => by simp at hq) (by decide) (Wv_tm _)) (by rw [nrm_emp]; rfl)) (ev_vp rfl) rfl T.cQ.ins.cl T.nQt (by simp)) ?_
    exact sd_of (sd_fld (i := 0) (C := CQ mg) (fs := [("size", .dat (.int n)), ("top", .dat (polyD mg n []))]) (e := .dat (polyD mg n [(List.replicate n 0, 1)])) (ev_callD (l := [.int n]) (ea_cons (ev_psize T (n := n) (l := []) (ev_vd rfl)) ea_nil) (fun vs H Q h => ⟨n, n1, n2, h⟩)) (ev_vp rfl) rfl T.cQ.ins.cl T.nQb (by simp)) ⟨rfl, rfl⟩
  · have ha : a ≠ [] := fun z => by subst z; cases he
    obtain ⟨q1, q2, g0, hn⟩ := mkQ_parts pa pb ha hB
    have e : mkQ n a b = (nrm (brt (sgF b) (gN (a ++ b)) (leastK (a ++ b) n) a), nrm (brt (sgF b) (gN (a ++ b)) (leastK (a ++ b) n) b)) := if_neg ha
    rw [e]
    have hl : (a ++ b).length < 64 := by have := pa.len; have := pb.len; simp; omega
    have hsm : ∀ q ∈ a ++ b, Sm q.2 := fun q hq => (List.mem_append.mp hq).elim (fun z => Sm.of (pa.co q z) hC) (fun z => Sm.of (pb.co q z) hC)
    have hab : AB n B (a ++ b) := fun q hq => (List.mem_append.mp hq).elim (pa.ab q) (pb.ab q)
    have hne : a ++ b ≠ [] := by simp [ha]
    obtain ⟨y, br, hy⟩ := List.exists_cons_of_ne_nil nb
    have hym : y ∈ b := by rw [hy]; simp
    have hsg : sgF b = if 0 < y.2 then 1 else -1 := by rw [hy]; rfl
    have sS : Sm (sgF b) := by rcases sgF_or b with z | z <;> rw [z] <;> (unfold Sm; decide)
    have gS : Sm ((gN (a ++ b) : Nat) : Int) := by
      have h1 := gN_le (l := a ++ b) (q := y) (by simp [hym]) (pb.nr.2 y hym)
      have h2 := hsm y (by simp [hym])
      unfold Sm at h2 ⊢
      have : (((gN (a ++ b) : Nat) : Int).natAbs) = gN (a ++ b) := by omega
      omega
    have gI : ((gN (a ++ b) : Nat) : Int) ≠ 0 := by omega
    refine sd_then (sd_asg (e := .dat (.tup ((a ++ b).map tm))) (ev_is (ev_catT (l := a.map tm) (m := b.map tm) (ev_terms T (n := n) (l := a) (ev_vd rfl)) (ev_terms T (n := n) (l := b) (ev_vd rfl)) (by simp at hl ⊢; omega)) (by rw [List.map_append]))) ?_
    refine sd_then (sd_par (e1 := .dat (.tup [.int (sgF b), .int (gN (a ++ b) : Nat)])) (e2 := .dat (.lst ((leastK (a ++ b) n).map D.int))) (ea_cons (ev_callD (l := [.tup ((a ++ b).map tm), rt y.2]) (ea_cons (ev_vd rfl) (ea_cons (ev_ix (l := [.dat (.key y.1), .dat (rt y.2)]) (i := 1) (ev_ix (l := (b.map tm).map .dat) (i := 0) (e := .dat (tm y)) (ev_terms T (n := n) (l := b) (ev_vd rfl)) (ev_int 0) rfl (by show atI _ ((0 : Nat) : Int) = _; exact atI_nat (by rw [hy]; rfl))) (ev_int 1) rfl rfl) ea_nil)) (fun vs H Q h => ⟨a ++ b, y.2, hsm, by rw [hsg] at h; exact h⟩)) (ea_cons (ev_callD (l := [.tup ((a ++ b).map tm), .int n]) (ea_cons (ev_vd rfl) (ea_cons (ev_psize T (n := n) (l := a) (ev_vd rfl)) ea_nil)) (fun vs H Q h => ⟨a ++ b, n, B, hab, hne, by omega, n2, h⟩)) ea_nil))) ?_
    have brl : ∀ {x : M}, (∀ q ∈ x, q ∈ a ++ b) → x.length < 64 → Pn.Poly n B C N (brt (sgF b) (gN (a ++ b)) (leastK (a ++ b) n) x) → ∀ (te : TE) (fs : List (Str × En)), (EV K te [.ptr 0, .dat (polyD mg n a), .dat (polyD mg n b), .dat (.tup ((a ++ b).map tm)), .dat (.tup [.int (sgF b), .int (gN (a ++ b) : Nat)]), .dat (.lst ((leastK (a ++ b) n).map D.int))] [.ins (CQ mg) fs] (.dat (polyD mg n x)) [.ins (CQ mg) fs]) →
        EV K (tMake (CP mg) (spPI K (CP mg)) [] E0 (tCons (tFld K (tVar 1) "size") (tCons (tCall (spBr K) [] E0 (tCons (tFld K te "terms") (tCons (tVar 4) (tCons (tVar 5) tNil)))) tNil))) [.ptr 0, .dat (polyD mg n a), .dat (polyD mg n b), .dat (.tup ((a ++ b).map tm)), .dat (.tup [.int (sgF b), .int (gN (a ++ b) : Nat)]), .dat (.lst ((leastK (a ++ b) n).map D.int))] [.ins (CQ mg) fs]
          (.dat (polyD mg n (nrm (brt (sgF b) (gN (a ++ b)) (leastK (a ++ b) n) x)))) [.ins (CQ mg) fs] := fun {x} hx hxl hp te fs hte =>
      ev_poly (n := n) (B := B) (g := tmI) (ea_cons (ev_psize T (n := n) (l := a) (ev_vd rfl)) (ea_cons (ev_callD (l := [.tup (x.map tm), .tup [.int (sgF b), .int (gN (a ++ b) : Nat)], .lst ((leastK (a ++ b) n).map D.int)]) (ea_cons (ev_terms T (n := n) (l := x) hte) (ea_cons (ev_vd rfl) (ea_cons (ev_vd rfl) ea_nil))) (fun vs H Q h => ⟨x, sgF b, _, _, fun q hq => hsm q (hx q hq), sS, gS, gI, by omega, fun q hq => by have := (hab q (hx q hq)).1; omega, h⟩)) ea_nil)) n1 n2 (by simp [brt]; omega) hp.ab hB (Wv_tmI _)
    refine sd_then (sd_fld (i := 0) (C := CQ mg) (fs := [("size", .dat (.int n))]) (e := .dat (polyD mg n (nrm (brt (sgF b) (gN (a ++ b)) (leastK (a ++ b) n) a)))) (brl (fun q hq => by simp [hq]) (by simp at hl; omega) q1 _ _ (ev_vd rfl)) (ev_vp rfl) rfl T.cQ.ins.cl T.nQt (by simp)) ?_
    exact sd_of (sd_fld (i := 0) (C := CQ mg) (fs := [("size", .dat (.int n)), ("top", .dat (polyD mg n (nrm (brt (sgF b) (gN (a ++ b)) (leastK (a ++ b) n) a))))]) (e := .dat (polyD mg n (nrm (brt (sgF b) (gN (a ++ b)) (leastK (a ++ b) n) b)))) (brl (fun q hq => by simp [hq]) (by simp at hl; omega) q2 _ _ (ev_vd rfl)) (ev_vp rfl) rfl T.cQ.ins.cl T.nQb (by simp)) ⟨rfl, rfl⟩
/-- Quotient(top, bottom) as an expression -/
theorem ev_quo {E : XK} {tA : TA} {es : List En} {W W1 : List Cn} {n N : Nat} {B C : Int} {a b : M} (ha : EA K tA es W [.dat (polyD mg n a), .dat (polyD mg n b)] W1) (t : Two n N B C a b) :
    EV K (tMake (CQ mg) (spQI K mg) [] E tA) es W (.dat (quoD mg n (mkQ n a b).1 (mkQ n a b).2)) W1 :=
  ev_make (ns := ["size", "top", "bottom"]) (ls := [.int n, polyD mg n (mkQ n a b).1, polyD mg n (mkQ n a b).2]) (l := [polyD mg n a, polyD mg n b]) rfl ha fun vs H Q h => ⟨n, N, B, C, a, b, t, h⟩
end
section
variable {X : Cx} {n : Nat}
theorem op_eqPoly (T : Tx X.K X.mg) (hr : Room 1 X.A) : OpR X (compareOp .Eq) (rEqG (DIns (CP X.mg) (RSame X.K (CP X.mg) GP))) := op_eqA2 (ok_PolyEq T) hr
end
section
variable {P : Program} {w : World} {K : PySem.W.Frag} {mg : Str → Option Value} {base : Heap}
def GQ (mg : Str → Option Value) (ns : List Str) (ls : List D) : Prop := ns = (["size", "top", "bottom"] : List Str) ∧ ∃ (n : Nat) (p q : M), ls = [.int n, polyD mg n p, polyD mg n q]
theorem sc_Quotient___eq__ : FnScope N_Quotient___eq__ P_Quotient___eq__ (defScope s_Quotient___eq__) := ⟨rfl, rfl, rfl, by decide +kernel, rfl, by decide +kernel, by decide +kernel⟩
theorem ok_QuoEq (T : Tx K mg) : EqA P w K mg base 4 (CQ mg) P_Quotient___eq__ (RSame K (CQ mg) (GQ mg)) := by
  refine T.cQ.eqA sc_Quotient___eq__ (fun vs H Q E h => by obtain ⟨_, _, _, h⟩ := spEq_V h; exact h.len) (fun _ _ _ _ _ _ us hl => match us, hl with | [_, _], _ => rfl) fun f cdv A outer s H vs Q E hr h => ?_
  obtain ⟨ns, ls, ⟨rfl, n, p, q, rfl⟩, h⟩ := spEq_V h
  refine ⟨_, (pss_one (ps_ret (pe_and (pe_callB call_isi (by rfl) T.b_isinstance (by decide +kernel) (pa_cons (pv 1) (pa_cons (pe_glob (v := .ref (CQ mg)) (by rfl) T.cQ.g rfl) pa_nil))) (pe_and (pe_cmpR (op_eqPoly T (hr.mono (by decide))) (pe_fld (pv 0) rfl) (pe_fld (pv 1) rfl) (nomark _)) (pe_one (pe_cmpR (op_eqPoly T (hr.mono (by decide))) (pe_fld (pv 0) rfl) (pe_fld (pv 1) rfl) (nomark _))))))), fn_goD (l := [quoD mg n p q, quoD mg n p q]) h ?_⟩
  have gp : ∀ l : M, GP ["size", "terms"] [.int n, .tup (l.map tm)] := fun l => ⟨rfl, n, l, rfl⟩
  refine sd_ret (ev_andV (a := true) (b := true) (ev_isiC (ev_vd rfl) T.cQ.ins) (fun _ => ev_andV (a := true) (b := true) (ev_eqOwn (ev_qtop T (n := n) (p := p) (q := q) (ev_vd rfl)) (ev_qtop T (n := n) (p := p) (q := q) (ev_vd rfl)) (gp p)) (fun _ => ev_eqOwn (ev_qbot T (n := n) (p := p) (q := q) (ev_vd rfl)) (ev_qbot T (n := n) (p := p) (q := q) (ev_vd rfl)) (gp q)))) rfl
end
section
variable {X : Cx} {n : Nat}
theorem op_neQuo (T : Tx X.K X.mg) (hr : Room (4 + 1) X.A) : OpR X (compareOp .NotEq) (XC.rNeG (DIns (CQ X.mg) (RSame X.K (CQ X.mg) (GQ X.mg)))) := op_neA2 (ok_QuoEq T) T.cQ.ne T.cQ.ins.hm hr
end
end K77
namespace K77
open PySem PySem.Spec PyProof.Rows L2 AS Pn
local macro_rules | `(tactic| walk_at "ev") => `(tactic| first
  | exact ev_vd rfl
  | exact ev_vp rfl
  | exact ev_int _
  | exact ev_non
  | exact ev_bl _
  | exact ev_str _
  | assumption
  | (apply ev_addI <;> walk_at "ev")
  | (apply ev_sub <;> walk_at "ev")
  | (apply ev_neg; walk_at "ev")
  | (apply ev_abs; walk_at "ev")
  | (apply ev_intA; walk_at "ev")
  | (apply ev_lt <;> walk_at "ev")
  | (apply ev_le <;> walk_at "ev")
  | (apply ev_gt <;> walk_at "ev")
  | (apply ev_ge <;> walk_at "ev")
  | (apply ev_eqI <;> walk_at "ev")
  | (apply ev_neI <;> walk_at "ev")
  | (apply ev_isN; walk_at "ev")
  | (apply ev_notN; walk_at "ev")
  | (apply ev_isi (by walk_at "ev") rfl; rfl)
  | skip)
local macro_rules | `(tactic| walk_at "ea") => `(tactic| first
  | exact ea_nil
  | (apply ea_cons; walk_at "ev"; walk_at "ea"))
local macro_rules | `(tactic| walk_at "call") => `(tactic| (first
  | exact (fun vs H Q h => ⟨_, h⟩)
  | exact (fun vs H Q h => ⟨_, _, h⟩)
  | exact (fun vs H Q h => ⟨_, _, _, h⟩)))

theorem cut_to {α : Type} (l : List α) (k : Nat) (h : k ≤ l.length) : cutG l none (some (k : Int)) = l.take k := by
  unfold cutG
  rw [HT.sIx_none, HT.sIx_nat, List.drop_zero, Nat.sub_zero, Nat.min_eq_left h]
theorem enE_ints (k : List Int) : enE (k.map D.int) = k.zipIdx.map fun p => En.dat (.tup [.int (p.2 : Nat), .int p.1]) := by
  unfold enE
  rw [List.zipIdx_map, List.map_map]; rfl
theorem lo_map (L k : List Int) : (k.zipIdx.map fun p => D.int (if (p.2 : Int) ∈ L then 0 else p.1)) = (Pn.lo L k).map D.int := by
  unfold Pn.lo
  rw [List.map_map]; rfl
theorem last_get (W : List Cn) (c : Cn) : (W ++ [c])[W.length]? = some c := by simp
theorem last_set (W : List Cn) (c c' : Cn) : (W ++ [c]).set W.length c' = W ++ [c'] := by simp
/-- letters as they are passed -/
def Lt (L : List Int) (d : D) : Prop := d = .lst (L.map D.int) ∨ d = .tup (L.map D.int)
theorem Lt.sq {L : List Int} {d : D} (h : Lt L d) : SqD d = some (L.map D.int) := by rcases h with rfl | rfl <;> rfl
theorem Lt.seq {L : List Int} {d : D} {W : List Cn} (h : Lt L d) : SeqE W (.dat d) = some ((L.map D.int).map .dat) := by rcases h with rfl | rfl <;> rfl
structure LOk (n : Nat) (L : List Int) : Prop where
  nd : L.Nodup
  rg : ∀ x ∈ L, 0 ≤ x ∧ x < n
  ln : L.length ≤ 1000
section
variable {P : Program} {w : World} {K : PySem.W.Frag} {mg : Str → Option Value} {base : Heap}
def spTL (K : PySem.W.Frag) : Sp := fun vs H Q _ => ∃ (d : D) (L : List Int) (n : Nat), Lt L d ∧ LOk n L ∧ spV K [.dat d, .dat (.int n)] [] (.dat (.lst (L.map D.int))) [] vs H Q
theorem sc_told_letters : FnScope N_told_letters P_told_letters (defScope s_told_letters) := ⟨rfl, rfl, rfl, by decide +kernel, rfl, by decide +kernel, by decide +kernel⟩
theorem ok_told_letters (T : Tx K mg) : Cal P w K mg base CX0 4 "told_letters" P_told_letters (spTL K) := by
  refine T.f_told_letters.cal sc_told_letters (fun vs H Q E h => by obtain ⟨_, _, _, _, _, h⟩ := h; exact h.len) (fun _ _ _ _ _ _ us hl => match us, hl with | [_, _], _ => rfl) fun f cdv A outer s H vs Q E hr h => ?_
  obtain ⟨d, L, n, hd, hL, h⟩ := h
  refine ⟨_, (pss_cons (ps_if (pt_not (pt_truth (pe_callB call_isiT (by rfl) T.b_isinstance (by decide +kernel) (pa_cons (pv 0) (pa_cons (pe_tup (pa_cons (pe_bltn (v := .ty "tuple") (u := .type "tuple") (by rfl) T.b_tuple (by decide +kernel) rfl) (pa_cons (pe_bltn (v := .ty "list") (u := .type "list") (by rfl) T.b_list (by decide +kernel) rfl) pa_nil))) pa_nil))) (by intro _; rfl)))
 (pss_one ps_never)
 pss_nil)
 (pss_cons (ps_for PassesOwn.never rfl (XC.pi_enX (by rfl) T.b_enumerate (pa_cons (pv 0) pa_nil)) (pg_tup rfl (pgs_cons (pg_name (i := 2) sc_told_letters.nd rfl (Or.inl rfl)) (pgs_cons (pg_name (i := 3) sc_told_letters.nd rfl (Or.inl rfl)) pgs_nil)))
 (pss_one (ps_if (PW.pt (pw_or (pt_not (pt_truth (pe_cal (ok_is_whole T) (hr.mono (by decide)) rfl (pa_cons (pv 3) pa_nil)) (by intro _; rfl))) (pw_or (pt_not (pt_chain op_le op_lt pe_int (pv 3) (pv 1))) (pw_or1 (pt_cmpR (op_inA (u65 hr)) (pv 3) (pe_slice sl_any (pv 0) po_none (po_some (pv 2))) (by rfl))))))
 (pss_one ps_never)
 pss_nil)))
 (pss_one (ps_ret (pe_callTy call_list_of (by rfl) T.b_list (by decide +kernel) (pa_cons (pv 0) pa_nil)))))), fn_goD (l := [d, .int n]) h ?_⟩
  show SD K _ [.dat d, .dat (.int n), .un, .un] [] _
  have hisi : ∀ {es : List En} {te : TE}, EV K te es [] (.dat d) [] → EV K (tCB (rIsiT K) (tCons te (tCons (tTup (tCons (tC (.ty "tuple")) (tCons (tC (.ty "list")) tNil))) tNil))) es [] (.dat (.bl true)) [] := fun {es te} hte => by
    rcases hd with rfl | rfl
    · exact ev_isi2 hte (m := "list") rfl (kit2 (a := false) (b := true) (by rfl) (fun _ => by rfl) (fun hb => by cases hb))
    · exact ev_isi2 hte (m := "tuple") rfl (kit2 (a := true) (b := true) (by rfl) (fun hb => by cases hb) (fun _ => rfl))
  refine sd_seq (M := fun e w => e = [.dat d, .dat (.int n), .un, .un] ∧ w = []) (sd_if (b := false) (et_is (et_not (et_truB (hisi (ev_vd rfl)))) rfl) (fun hb => by cases hb) (fun _ => sd_next ⟨rfl, rfl⟩)) ?_
  rintro e w ⟨rfl, rfl⟩
  refine sd_seq (M := fun e w => ∃ x2 x3, e = [.dat d, .dat (.int n), x2, x3] ∧ w = []) ?_ ?_
  · refine sd_for (ei_enX (ea_cons (ev_vd rfl) ea_nil) hd.sq) (fun i e w => ∃ x2 x3, e = [.dat d, .dat (.int n), x2, x3] ∧ w = []) ⟨.un, .un, rfl, rfl⟩ (fun _ _ _ _ => trivial) ?_ ?_
    · rintro i x e w hx ⟨x2, x3, rfl, rfl⟩
      obtain ⟨y, hy, rfl⟩ := enE_of hx
      obtain ⟨z, hz, hm, rfl⟩ := mem_map_get hy
      have hi : i < L.length := (List.getElem?_eq_some_iff.mp hz).1
      have hr2 := hL.rg z hm
      refine ⟨[2, 3], _, eg_tup2, ?_⟩
      have hno : z ∉ L.take i := fun q => by
        obtain ⟨j, hj, e⟩ := List.mem_take_iff_getElem.mp q
        have e2 : L[i] = z := (List.getElem?_eq_some_iff.mp hz).2
        have := (List.getElem_inj hL.nd).mp (e.trans e2.symm)
        omega
      have hin : EV K (tOp (rInA K) (tVar 3) (tSl (rSlAny K) (tVar 0) tNoPart (tPart (tVar 2)))) [.dat d, .dat (.int n), .dat (.int (i : Nat)), .dat (.int z)] [] (.dat (.bl (decide (z ∈ L.take i)))) [] := by
        have hc : cutG (L.map D.int) none (some ((i : Nat) : Int)) = (L.take i).map D.int := by rw [cut_to _ _ (by simp; omega), List.map_take]
        rcases hd with rfl | rfl
        · exact ev_inI (ev_vd rfl) (ev_slL (l := L.map D.int) (ev_vd rfl) eo_none (eo_some (ev_vd rfl)) rfl) (by rw [hc]; rfl)
        · exact ev_inI (ev_vd rfl) (ev_slT (l := L.map D.int) (ev_vd rfl) eo_none (eo_some (ev_vd rfl))) (by rw [hc]; rfl)
      refine sd_if (b := false) (et_is (et_or (a := false) (b := false) (et_is (et_not (et_truB (ev_callD (d := .bl true) (l := [.int z]) (ea_cons (ev_vd rfl) ea_nil) (fun vs H Q h => ⟨_, rfl, h⟩)))) rfl) fun _ => et_is (et_or (a := false) (b := false) (et_is (et_not (et_test (ev_chain (f := fun i j => decide (i ≤ j)) (g := fun i j => decide (i < j)) (ev_int 0) (ev_vd (d := .int z) rfl) (fun _ => ev_vd (d := .int n) rfl)))) (by rw [decide_eq_true hr2.1, decide_eq_true hr2.2]; rfl)) fun _ => et_is (et_test hin) (decide_eq_false hno)) rfl) rfl) (fun hb => by cases hb) (fun _ => sd_next ⟨_, _, rfl, rfl⟩)
    · rintro e w ⟨x2, x3, rfl, rfl⟩
      exact ⟨x2, x3, rfl, rfl⟩
  rintro e w ⟨x2, x3, rfl, rfl⟩
  exact sd_ret (ev_list (l := L.map D.int) (ev_vd rfl) hd.seq) rfl
/-- what called_one asks of its quotient and letters -/
structure CoOk (n N : Nat) (B C : Int) (p q : M) (L : List Int) : Prop where
  pp : Pn.Poly n B C N p
  pq : Pn.Poly n B C N q
  hB : B ≤ 1000
  hB1 : 1 ≤ B
  hC0 : 0 ≤ C
  hC : N * C < 2 ^ 59
  hN : N < 32
  n1 : 1 ≤ n
  n2 : n ≤ 1000
  hL : LOk n L
theorem CoOk.lop {n N : Nat} {B C : Int} {p q : M} {L : List Int} (h : CoOk n N B C p q L) {l : M} (hl : Pn.Poly n B C N l) : Pn.Poly n B (N * C) N (nrm (loM L l)) :=
  nrm_poly h.hB (hl.ab.lo h.hB1) (fun r hr => by obtain ⟨x, hx, rfl⟩ := List.mem_map.mp hr; exact hl.co x hx) h.hC0 (by simp [loM]; exact hl.len)
theorem CoOk.two {n N : Nat} {B C : Int} {p q : M} {L : List Int} (h : CoOk n N B C p q L) (nb : nrm (loM L q) ≠ []) : Two n N B (N * C) (nrm (loM L p)) (nrm (loM L q)) :=
  ⟨h.lop h.pp, h.lop h.pq, nb, h.hB, h.hC, h.hN, h.n1, h.n2⟩
theorem co_loop (T : Tx K mg) {n N : Nat} {B C : Int} {p q : M} {L : List Int} {d : D} (hc : CoOk n N B C p q L) {E : XK} :
    SD K (tFor (iSeq K (tTup (tCons (tFld K (tVar 0) "top") (tCons (tFld K (tVar 0) "bottom") tNil)))) (gName 4)
      (tSeq (tAsg (tLst tNil) (gName 5)) (tSeq (tFor (iSeq K (tFld K (tVar 4) "terms")) (gTup K 2 (gCons (gName 6) (gCons (gName 7) gNil)))
        (tDrop (tBM K "list" rAppend (tVar 5) (tCons (tTup (tCons (tCB (fun xs H Q => ∃ p ys, xs = [.ref p] ∧ ((SqL K H p ys ∧ ∀ l, H l = none → Q (.ref l) (upd H l (.tup ys))) ∨ (SqT K H p ys ∧ Q (.ref p) H))) (tCons (tLc (XC.iEnX K (tCons (tVar 6) tNil)) (gTup K 2 (gCons (gName 8) (gCons (gName 9) gNil))) tYes (tIf (tTest (tOp (rInA K) (tVar 8) (tVar 2))) (tC (.int 0)) (tVar 9)) [8, 9]) tNil)) (tCons (tVar 7) tNil))) tNil))))
        (tDrop (tBM K "list" rAppend (tVar 3) (tCons (tMake (CP mg) (spPI K (CP mg)) [] E (tCons (tFld K (tVar 0) "size") (tCons (tVar 5) tNil))) tNil))))))
      [.dat (quoD mg n p q), .dat d, .dat (.lst (L.map D.int)), .ptr 0, .un, .un, .un, .un, .un, .un] [.lst []] ⟨fun e w => ∃ x4 x5 x6 x7 R, e = [.dat (quoD mg n p q), .dat d, .dat (.lst (L.map D.int)), .ptr 0, x4, x5, x6, x7, .un, .un] ∧ w = .lst [.dat (polyD mg n (nrm (loM L p))), .dat (polyD mg n (nrm (loM L q)))] :: R, fun _ _ => False, fun _ _ => False, fun _ _ => False⟩ := by
  have hei := ei_tup (K := K) (l := [p, q].map (polyD mg n)) (tl := tTup (tCons (tFld K (tVar 0) "top") (tCons (tFld K (tVar 0) "bottom") tNil))) (es := [.dat (quoD mg n p q), .dat d, .dat (.lst (L.map D.int)), .ptr 0, .un, .un, .un, .un, .un, .un]) (W := [.lst []]) (ev_tup (l := [p, q].map (polyD mg n)) (ea_cons (ev_qtop T (n := n) (p := p) (q := q) (ev_vd rfl)) (ea_cons (ev_qbot T (n := n) (p := p) (q := q) (ev_vd rfl)) ea_nil)) (by simp))
  refine sd_for hei (fun i e w => ∃ x4 x5 x6 x7 R, e = [.dat (quoD mg n p q), .dat d, .dat (.lst (L.map D.int)), .ptr 0, x4, x5, x6, x7, .un, .un] ∧ w = .lst (([p, q].take i).map fun l => .dat (polyD mg n (nrm (loM L l)))) :: R) ⟨.un, .un, .un, .un, [], rfl, rfl⟩ (fun _ _ _ _ => trivial) ?_ ?_
  · rintro i x e w hx ⟨x4, x5, x6, x7, R, rfl, rfl⟩
    rw [List.map_map] at hx
    obtain ⟨l, hl, hm, rfl⟩ := mem_map_get hx
    have hp : Pn.Poly n B C N l := by
      simp at hm
      rcases hm with rfl | rfl
      · exact hc.pp
      · exact hc.pq
    have hll := hp.len
    have hN := hc.hN
    refine ⟨[4], _, eg_name, ?_⟩
    generalize hW : Cn.lst (([p, q].take i).map fun l => En.dat (polyD mg n (nrm (loM L l)))) :: R = W
    refine sd_then (sd_asg (ev_lstO (l := []) ea_nil (by simp))) ?_
    show SD K _ [.dat (quoD mg n p q), .dat d, .dat (.lst (L.map D.int)), .ptr 0, .dat (polyD mg n l), .ptr W.length, x6, x7, .un, .un] (W ++ [.lst []]) _
    refine sd_seq (M := fun e w => ∃ x6 x7, e = [.dat (quoD mg n p q), .dat d, .dat (.lst (L.map D.int)), .ptr 0, .dat (polyD mg n l), .ptr W.length, x6, x7, .un, .un] ∧ w = W ++ [.lst (((loM L l).map tm).map .dat)]) ?_ ?_
    · refine sd_for (ei_tup (l := l.map tm) (ev_terms T (n := n) (l := l) (ev_vd rfl))) (fun i e w => ∃ x6 x7, e = [.dat (quoD mg n p q), .dat d, .dat (.lst (L.map D.int)), .ptr 0, .dat (polyD mg n l), .ptr W.length, x6, x7, .un, .un] ∧ w = W ++ [.lst (((loM L (l.take i)).map tm).map .dat)]) ⟨x6, x7, rfl, rfl⟩ (fun _ _ _ _ => trivial) ?_ ?_
      · rintro j x e w hx ⟨x6, x7, rfl, rfl⟩
        rw [List.map_map] at hx
        obtain ⟨r, hr, hrm, rfl⟩ := mem_map_get hx
        have hrk := hp.ab r hrm
        have hn2 := hc.n2
        refine ⟨[6, 7], _, eg_tup2 (x := .key r.1) (y := rt r.2), ?_⟩
        have hz := ei_enX (K := K) (l := r.1.map D.int) (d := .key r.1) (tA := tCons (tVar 6) tNil) (es := [.dat (quoD mg n p q), .dat d, .dat (.lst (L.map D.int)), .ptr 0, .dat (polyD mg n l), .ptr W.length, .dat (.key r.1), .dat (rt r.2), .un, .un]) (W := W ++ [.lst (((loM L (l.take j)).map tm).map .dat)]) (ea_cons (ev_vd rfl) ea_nil) rfl
        rw [enE_ints] at hz
        refine sd_of (sd_drop (ev_append (i := W.length) (l := ((loM L (l.take j)).map tm).map .dat) (e := .dat (tm (lo L r.1, r.2))) (ev_vp rfl) (ev_tup (l := [.key (lo L r.1), rt r.2]) (ea_cons (ev_tupleK (l := lo L r.1) (ev_lcM (m := r.1.zipIdx) (f := fun p => .int (if (p.2 : Int) ∈ L then 0 else p.1)) (js := [8, 9]) hz (by simp; have := hrk.1; omega) trivial (by simp) fun y hy => ⟨_, eg_tup2, ev_if (b := decide ((y.2 : Int) ∈ L)) (et_test (ev_inI (ns := L) (ev_vd rfl) (ev_vd rfl) rfl)) (fun hb => ?_) (fun hb => ?_)⟩) (by rw [lo_map]; rfl)) (ea_cons (ev_vd rfl) ea_nil)) (by simp)) (last_get _ _) ⟨_, last_get _ _⟩ ?_)) ⟨_, _, rfl, ?_⟩
        · rw [if_pos (of_decide_eq_true hb)]; exact ev_int 0
        · rw [if_neg (of_decide_eq_false hb)]; exact ev_vd rfl
        · simp [loM]; omega
        · rw [last_set, take_succ' hr]
          simp [loM]
      · rintro e w ⟨x6, x7, rfl, rfl⟩
        refine ⟨x6, x7, rfl, ?_⟩
        rw [List.length_map, List.length_map, List.take_length]
    · rintro e w ⟨x6, x7, rfl, rfl⟩
      subst hW
      refine sd_of (sd_drop (ev_append (i := 0) (l := ([p, q].take i).map fun l => .dat (polyD mg n (nrm (loM L l)))) (e := .dat (polyD mg n (nrm (loM L l)))) (ev_vp rfl) (ev_poly (n := n) (B := B) (l := loM L l) (g := tm) (ea_cons (ev_qsize T (n := n) (p := p) (q := q) (ev_vd rfl)) (ea_cons (ev_freeze (ev_vp rfl) (last_get _ _)) ea_nil)) hc.n1 hc.n2 (by simp [loM]; omega) (hp.ab.lo hc.hB1) hc.hB (Wv_tm _)) ?_ ?_ ?_)) ⟨_, _, _, _, R ++ [.gone], rfl, ?_⟩
      · rw [last_set]; rfl
      · exact ⟨_, rfl⟩
      · simp; omega
      · rw [last_set, take_succ' hl]
        simp
  · rintro e w ⟨x4, x5, x6, x7, R, rfl, rfl⟩
    exact ⟨x4, x5, x6, x7, R, rfl, rfl⟩
theorem co_body (T : Tx K mg) {n N : Nat} {B C : Int} {p q : M} {L : List Int} {d : D} (hc : CoOk n N B C p q L) {E : XK} {cls : Po} (tl : TS)
    (hf : ∀ x4 x5 x6 x7 R, SD K tl [.dat (quoD mg n p q), .dat d, .dat (.lst (L.map D.int)), .ptr 0, x4, x5, x6, x7, .un, .un] (.lst [.dat (polyD mg n (nrm (loM L p))), .dat (polyD mg n (nrm (loM L q)))] :: R) cls) :
    SD K (tSeq (tFor (iSeq K (tTup (tCons (tFld K (tVar 0) "top") (tCons (tFld K (tVar 0) "bottom") tNil)))) (gName 4)
      (tSeq (tAsg (tLst tNil) (gName 5)) (tSeq (tFor (iSeq K (tFld K (tVar 4) "terms")) (gTup K 2 (gCons (gName 6) (gCons (gName 7) gNil)))
        (tDrop (tBM K "list" rAppend (tVar 5) (tCons (tTup (tCons (tCB (fun xs H Q => ∃ p ys, xs = [.ref p] ∧ ((SqL K H p ys ∧ ∀ l, H l = none → Q (.ref l) (upd H l (.tup ys))) ∨ (SqT K H p ys ∧ Q (.ref p) H))) (tCons (tLc (XC.iEnX K (tCons (tVar 6) tNil)) (gTup K 2 (gCons (gName 8) (gCons (gName 9) gNil))) tYes (tIf (tTest (tOp (rInA K) (tVar 8) (tVar 2))) (tC (.int 0)) (tVar 9)) [8, 9]) tNil)) (tCons (tVar 7) tNil))) tNil))))
        (tDrop (tBM K "list" rAppend (tVar 3) (tCons (tMake (CP mg) (spPI K (CP mg)) [] E (tCons (tFld K (tVar 0) "size") (tCons (tVar 5) tNil))) tNil)))))) tl)
      [.dat (quoD mg n p q), .dat d, .dat (.lst (L.map D.int)), .ptr 0, .un, .un, .un, .un, .un, .un] [.lst []] cls := by
  refine sd_seq (M := fun e w => ∃ x4 x5 x6 x7 R, e = [.dat (quoD mg n p q), .dat d, .dat (.lst (L.map D.int)), .ptr 0, x4, x5, x6, x7, .un, .un] ∧ w = .lst [.dat (polyD mg n (nrm (loM L p))), .dat (polyD mg n (nrm (loM L q)))] :: R) ((co_loop T hc).imp (fun _ _ x => x) (fun _ _ x => x.elim) (fun _ _ x => x.elim) (fun _ _ x => x.elim)) ?_
  rintro e w ⟨x4, x5, x6, x7, R, rfl, rfl⟩
  exact hf x4 x5 x6 x7 R
def spCO (K : PySem.W.Frag) (mg : Str → Option Value) : Sp := fun vs H Q _ => ∃ (n N : Nat) (B C : Int) (p q : M) (L : List Int) (d : D), CoOk n N B C p q L ∧ Lt L d ∧ nrm (loM L q) ≠ [] ∧
  spV K [.dat (quoD mg n p q), .dat d] [] (.dat (quoD mg n (mkQ n (nrm (loM L p)) (nrm (loM L q))).1 (mkQ n (nrm (loM L p)) (nrm (loM L q))).2)) [] vs H Q
theorem sc_called_one : FnScope N_called_one P_called_one (defScope s_called_one) := ⟨rfl, rfl, rfl, by decide +kernel, rfl, by decide +kernel, by decide +kernel⟩
theorem ok_called_one (T : Tx K mg) : Cal P w K mg base CX0 12 "called_one" P_called_one (spCO K mg) := by
  refine T.f_called_one.cal sc_called_one (fun vs H Q E h => by obtain ⟨_, _, _, _, _, _, _, _, _, _, _, h⟩ := h; exact h.len) (fun _ _ _ _ _ _ us hl => match us, hl with | [_, _], _ => rfl) fun f cdv A outer s H vs Q E hr h => ?_
  obtain ⟨n, N, B, C, p, q, L, d, hc, hd, hq, h⟩ := h
  refine ⟨_, (pss_cons (ps_set (i := 2) sc_called_one.nd rfl (Or.inr rfl) (pe_cal (ok_told_letters T) (hr.mono (by decide)) rfl (pa_cons (pv 1) (pa_cons (pe_fld (pv 0) rfl) pa_nil))))
 (pss_cons (ps_set (i := 3) sc_called_one.nd rfl (Or.inl rfl) (pe_lst pa_nil))
 (pss_cons (ps_for PassesOwn.never rfl (pi_seq (pi_list (pe_tup (pa_cons (pe_fld (pv 0) rfl) (pa_cons (pe_fld (pv 0) rfl) pa_nil)))) (pi_tup (pe_tup (pa_cons (pe_fld (pv 0) rfl) (pa_cons (pe_fld (pv 0) rfl) pa_nil))))) (pg_name (i := 4) sc_called_one.nd rfl (Or.inl rfl))
 (pss_cons (ps_set (i := 5) sc_called_one.nd rfl (Or.inl rfl) (pe_lst pa_nil))
 (pss_cons (ps_for PassesOwn.never rfl (pi_seq (pi_list (pe_fld (pv 4) rfl)) (pi_tup (pe_fld (pv 4) rfl))) (pg_tup rfl (pgs_cons (pg_name (i := 6) sc_called_one.nd rfl (Or.inl rfl)) (pgs_cons (pg_name (i := 7) sc_called_one.nd rfl (Or.inl rfl)) pgs_nil)))
 (pss_one (ps_expr (pe_bm PySem.F.plainAttrs_list PySem.F.slot_list_append PySem.F.type_list_append mt_append (pv 5) (pa_cons (pe_tup (pa_cons (pe_callTy call_tuple_of (by rfl) T.b_tuple (by decide +kernel) (pa_cons (pe_lc (own := [("j", 8), ("one", 9)]) rfl sc_called_one.nd (XC.pi_enX (by rfl) T.b_enumerate (pa_cons (pv 6) pa_nil)) (blkOk_by (own := [("j", 8), ("one", 9)]) (N := N_called_one) (sc := defScope s_called_one) (by decide +kernel))
 (fun _ _ _ _ _ => (show PG _ _ (gTup K 2 _) from pg_tup rfl (pgs_cons (pg_name (i := 8) sc_called_one.nd rfl (Or.inl rfl)) (pgs_cons (pg_name (i := 9) sc_called_one.nd rfl (Or.inl rfl)) pgs_nil)))) (fun _ _ _ _ _ => pts_nil) (fun _ _ _ _ _ => (pe_ifExp (pt_cmpR (show OpR _ (compareOp .In) (rInA K) from (op_inA (u65 hr))) (pv 8) (pv 2) (by rfl)) pe_int (pv 9)))) pa_nil)) (pa_cons (pv 7) pa_nil))) pa_nil)))))
 (pss_one (ps_expr (pe_bm PySem.F.plainAttrs_list PySem.F.slot_list_append PySem.F.type_list_append mt_append (pv 3) (pa_cons (pe_makA (ok_Poly T) (hr.mono (by decide)) rfl (pa_cons (pe_fld (pv 0) rfl) (pa_cons (pv 5) pa_nil))) pa_nil)))))))
 (pss_one (ps_ret (pe_makA (ok_Quotient T) (hr.mono (by decide)) rfl (pa_cons (pe_ix ix_seq (pv 3) pe_int (fun _ _ => rfl)) (pa_cons (pe_ix ix_seq (pv 3) pe_int (fun _ _ => rfl)) pa_nil)))))))), fn_goD (l := [quoD mg n p q, d]) h ?_⟩
  show SD K _ [.dat (quoD mg n p q), .dat d, .un, .un, .un, .un, .un, .un, .un, .un] [] _
  refine sd_then (sd_asg (ev_callD (l := [d, .int n]) (ea_cons (ev_vd rfl) (ea_cons (ev_qsize T (n := n) (p := p) (q := q) (ev_vd rfl)) ea_nil)) (fun vs H Q h => ⟨d, L, n, hd, hc.hL, h⟩))) ?_
  refine sd_then (sd_asg (ev_lstO (l := []) ea_nil (by simp))) ?_
  exact co_body T hc _ fun x4 x5 x6 x7 R => sd_ret (ev_quo (N := N) (B := B) (C := N * C) (ea_cons (ev_ix (l := [.dat (polyD mg n (nrm (loM L p))), .dat (polyD mg n (nrm (loM L q)))]) (ev_vp rfl) (ev_int 0) (seqE_ptr rfl) rfl) (ea_cons (ev_ix (l := [.dat (polyD mg n (nrm (loM L p))), .dat (polyD mg n (nrm (loM L q)))]) (ev_vp rfl) (ev_int 1) (seqE_ptr rfl) rfl) ea_nil)) (hc.two hq)) rfl
end
end K77
namespace K77
open PySem PySem.Spec PyProof.Rows L2 AS Pn
local macro_rules | `(tactic| walk_at "ev") => `(tactic| first
  | exact ev_vd rfl
  | exact ev_vp rfl
  | exact ev_int _
  | exact ev_non
  | exact ev_bl _
  | exact ev_str _
  | assumption
  | (apply ev_addI <;> walk_at "ev")
  | (apply ev_sub <;> walk_at "ev")
  | (apply ev_neg; walk_at "ev")
  | (apply ev_abs; walk_at "ev")
  | (apply ev_intA; walk_at "ev")
  | (apply ev_lt <;> walk_at "ev")
  | (apply ev_le <;> walk_at "ev")
  | (apply ev_gt <;> walk_at "ev")
  | (apply ev_ge <;> walk_at "ev")
  | (apply ev_eqI <;> walk_at "ev")
  | (apply ev_neI <;> walk_at "ev")
  | (apply ev_isN; walk_at "ev")
  | (apply ev_notN; walk_at "ev")
  | (apply ev_isi (by walk_at "ev") rfl; rfl)
  | skip)
local macro_rules | `(tactic| walk_at "ea") => `(tactic| first
  | exact ea_nil
  | (apply ea_cons; walk_at "ev"; walk_at "ea"))
local macro_rules | `(tactic| walk_at "call") => `(tactic| (first
  | exact (fun vs H Q h => ⟨_, h⟩)
  | exact (fun vs H Q h => ⟨_, _, h⟩)
  | exact (fun vs H Q h => ⟨_, _, _, h⟩)))

theorem look_in {m : M} {q : List Int × Int} (nd : ND m) (h : q ∈ m) : lookT (dI m) q.1 = some (.int q.2) := by
  rw [look_dI]
  have h1 := getM_some.mpr (List.mem_map.mpr ⟨q, h, rfl⟩ : q.1 ∈ Pn.ks m)
  have h2 := getM_cf (k := q.1) nd
  rw [cf_in nd h] at h2
  cases hg : getM m q.1 with
  | none => rw [hg] at h1; cases h1
  | some c => rw [hg] at h2; rw [← h2]; rfl
theorem look_get {m : M} {k : List Int} : (lookT (dI m) k).getD (.int 0) = .int ((getM m k).getD 0) := by
  rw [look_dI]
  cases getM m k <;> rfl
theorem kd_dD (m : M) : D.kd ((dI m).map (·.1)) ((dI m).map (·.2)) = dD m := by rw [dI_keys, dI_vals]; rfl
theorem nz_fd : ∀ m : M, m.filterMap (fun q => if q.2 = 0 then none else some (D.tup [.key q.1, .int q.2])) = (nz m).map tmI
  | [] => rfl
  | q :: m => by
    have ih := nz_fd m
    by_cases h : q.2 = 0
    · have e : nz (q :: m) = nz m := by simp [nz, h]
      rw [e, ← ih, List.filterMap_cons]; simp [h]
    · have e : nz (q :: m) = q :: nz m := by simp [nz, h]
      rw [e, List.map_cons, ← ih, List.filterMap_cons]; simp [h]; rfl
theorem lo_range (L k : List Int) : ((List.range k.length).map fun (j : Nat) => D.int (if (j : Int) ∈ L then 0 else k.getD j 0)) = (Pn.lo L k).map D.int := by
  refine List.ext_getElem? fun j => ?_
  rw [List.getElem?_map, List.getElem?_map]
  by_cases hj : j < k.length
  · rw [List.getElem?_range hj, lo_at (List.getElem?_eq_getElem hj)]
    simp [List.getD_eq_getElem?_getD, hj]
  · rw [List.getElem?_eq_none (by simp; omega), List.getElem?_eq_none (by rw [lo_length]; omega)]; rfl
theorem tmI_pairs {W : List Cn} (m : M) : LstE W (.dat (.lst (m.map tmI))) = some (((dI m).map fun q => D.tup [.key q.1, q.2]).map .dat) := by
  show some ((m.map tmI).map En.dat) = _
  congr 1
  unfold dI dF
  simp only [List.map_map]
  rfl
def inn (a b : List Int) : Int := ((a.zip b).map fun p => p.1 * p.2).sum
section
variable {P : Program} {w : World} {K : PySem.W.Frag} {mg : Str → Option Value} {base : Heap}
def spLIR (K : PySem.W.Frag) : Sp := fun vs H Q _ => ∃ n : Int, spV K [.dat (rt n)] [] (.dat (.bl true)) [] vs H Q
theorem sc__law_is_ratio : FnScope N__law_is_ratio P__law_is_ratio (defScope s__law_is_ratio) := ⟨rfl, rfl, rfl, by decide +kernel, rfl, by decide +kernel, by decide +kernel⟩
theorem ok__law_is_ratio (T : Tx K mg) : Cal P w K mg base CX0 2 "_law_is_ratio" P__law_is_ratio (spLIR K) := by
  refine T.f__law_is_ratio.cal sc__law_is_ratio (fun vs H Q E h => by obtain ⟨_, h⟩ := h; exact h.len) (fun _ _ _ _ _ _ us hl => match us, hl with | [_], _ => rfl) fun f cdv A outer s H vs Q E hr h => ?_
  obtain ⟨n, h⟩ := h
  refine ⟨_, (pss_cons (ps_if (PW.pt (pw_or (pt_not (pt_truth (pe_callB call_isi (by rfl) T.b_isinstance (by decide +kernel) (pa_cons (pv 0) (pa_cons (pe_bltn (v := .ty "tuple") (u := .type "tuple") (by rfl) T.b_tuple (by decide +kernel) rfl) pa_nil))) (by intro _; rfl))) (pw_or1 (pt_cmpR (op_neA hr.units) (pe_callB call_lenA (by rfl) T.b_len (by decide +kernel) (pa_cons (pv 0) pa_nil)) pe_int (nomark _)))))
 (pss_one (ps_ret pe_bl))
 pss_nil)
 (pss_cons (ps_if (PW.pt (pw_or (pt_not (pt_truth (pe_cal (ok__law_is_whole T) (hr.mono (by decide)) rfl (pa_cons (pe_ix ix_seq (pv 0) pe_int (fun _ _ => rfl)) pa_nil)) (by intro _; rfl))) (pw_or (pt_not (pt_truth (pe_cal (ok__law_is_whole T) (hr.mono (by decide)) rfl (pa_cons (pe_ix ix_seq (pv 0) pe_int (fun _ _ => rfl)) pa_nil)) (by intro _; rfl))) (pw_or1 (pt_cmpR op_le (pe_ix ix_seq (pv 0) pe_int (fun _ _ => rfl)) pe_int (nomark _))))))
 (pss_one (ps_ret pe_bl))
 pss_nil)
 (pss_one (ps_ret (pe_cmpR (op_eqA hr.units) (pe_cal (ok__law_gcd T) (hr.mono (by decide)) rfl (pa_cons (pe_ix ix_seq (pv 0) pe_int (fun _ _ => rfl)) (pa_cons (pe_ix ix_seq (pv 0) pe_int (fun _ _ => rfl)) pa_nil))) pe_int (nomark _)))))), fn_goD (l := [rt n]) h ?_⟩
  show SD K _ [.dat (rt n)] [] _
  refine sd_seq (M := fun e w => e = [.dat (rt n)] ∧ w = []) (sd_if (b := false) (et_is (et_or (a := false) (b := false) (et_is (et_not (et_truB (ev_isTuple (d := rt n) (ev_vd rfl) rfl))) rfl) fun _ => et_test (ev_is (ev_neI (ev_len (l := [.dat (.int n), .dat (.int 1)]) (ev_vd rfl) rfl) (ev_int 2)) rfl)) rfl) (fun hb => by cases hb) (fun _ => sd_next ⟨rfl, rfl⟩)) ?_
  rintro e w ⟨rfl, rfl⟩
  refine sd_seq (M := fun e w => e = [.dat (rt n)] ∧ w = []) (sd_if (b := false) (et_is (et_or (a := false) (b := false) (et_is (et_not (et_truB (ev_callD (d := .bl true) (l := [.int n]) (ea_cons (ev_r0 (n := n) (ev_vd rfl)) ea_nil) (fun vs H Q h => ⟨_, rfl, h⟩)))) rfl) fun _ => et_or (a := false) (b := false) (et_is (et_not (et_truB (ev_callD (d := .bl true) (l := [.int 1]) (ea_cons (ev_r1 (n := n) (ev_vd rfl)) ea_nil) (fun vs H Q h => ⟨_, rfl, h⟩)))) rfl) fun _ => et_test (ev_is (ev_le (ev_r1 (n := n) (ev_vd rfl)) (ev_int 0)) rfl)) rfl) (fun hb => by cases hb) (fun _ => sd_next ⟨rfl, rfl⟩)) ?_
  rintro e w ⟨rfl, rfl⟩
  exact sd_ret (ev_is (ev_eqI (ev_callD (d := .int (Int.gcd n 1)) (l := [.int n, .int 1]) (ea_cons (ev_r0 (n := n) (ev_vd rfl)) (ea_cons (ev_r1 (n := n) (ev_vd rfl)) ea_nil)) (fun vs H Q h => ⟨n, 1, Nat.one_lt_two_pow (by decide), h⟩)) (ev_int 1)) (by simp)) rfl
def spLI (K : PySem.W.Frag) : Sp := fun vs H Q _ => ∃ (d1 d2 : D) (a b : List Int), SqD d1 = some (a.map D.int) ∧ SqD d2 = some (b.map D.int) ∧ (∀ x ∈ a, Sm x) ∧ (∀ x ∈ b, Sm x) ∧ a.length ≤ 1000 ∧ spV K [.dat d1, .dat d2] [] (.dat (.int (inn a b))) [] vs H Q
theorem sc__law_inner : FnScope N__law_inner P__law_inner (defScope s__law_inner) := ⟨rfl, rfl, rfl, by decide +kernel, rfl, by decide +kernel, by decide +kernel⟩
theorem ok__law_inner (T : Tx K mg) : Cal P w K mg base CX0 1 "_law_inner" P__law_inner (spLI K) := by
  refine T.f__law_inner.cal sc__law_inner (fun vs H Q E h => by obtain ⟨_, _, _, _, _, _, _, _, _, h⟩ := h; exact h.len) (fun _ _ _ _ _ _ us hl => match us, hl with | [_, _], _ => rfl) fun f cdv A outer s H vs Q E hr h => ?_
  obtain ⟨d1, d2, a, b, h1, h2, ha, hb, hl, h⟩ := h
  refine ⟨_, (pss_one (ps_ret (pe_callB (cr_sum rfl) (by rfl) T.b_sum (by decide +kernel) (pa_cons (pe_lc (own := [("_law_one", 2), ("_law_two", 3)]) rfl sc__law_inner.nd (XC.pi_ziX (by rfl) T.b_zip (pa_cons (pv 0) (pa_cons (pv 1) pa_nil))) (blkOk_by (own := [("_law_one", 2), ("_law_two", 3)]) (N := N__law_inner) (sc := defScope s__law_inner) (by decide +kernel))
 (fun _ _ _ _ _ => (show PG _ _ (gTup K 2 _) from pg_tup rfl (pgs_cons (pg_name (i := 2) sc__law_inner.nd rfl (Or.inl rfl)) (pgs_cons (pg_name (i := 3) sc__law_inner.nd rfl (Or.inl rfl)) pgs_nil)))) (fun _ _ _ _ _ => pts_nil) (fun _ _ _ _ _ => (pe_op (show OpR _ (binaryOp .Mult) (rMulX K) from op_mulX) (pv 2) (pv 3)))) pa_nil)))), fn_goD (l := [d1, d2]) h ?_⟩
  show SD K _ [.dat d1, .dat d2, .un, .un] [] _
  have hz := ei_ziX (K := K) (l := a.map D.int) (m := b.map D.int) (d1 := d1) (d2 := d2) (tA := tCons (tVar 0) (tCons (tVar 1) tNil)) (es := [.dat d1, .dat d2, .un, .un]) (W := []) (ea_cons (ev_vd rfl) (ea_cons (ev_vd rfl) ea_nil)) h1 h2
  rw [zipE_ints] at hz
  refine sd_ret (ev_is (ev_sum (ns := (a.zip b).map fun p => p.1 * p.2) (ev_lcM (m := a.zip b) (f := fun p => .int (p.1 * p.2)) (js := [2, 3]) hz (by rw [List.length_zip]; omega) trivial (by simp) fun p hp => ⟨_, eg_tup2, ev_mulI (ev_vd rfl) (ev_vd rfl) ((ha _ (List.of_mem_zip hp).1).mul (hb _ (List.of_mem_zip hp).2))⟩) (congrArg some (by simp only [List.map_map]; rfl))) rfl) rfl
def spLM (K : PySem.W.Frag) : Sp := fun vs H Q _ => ∃ (k : List Int) (n : Nat), k.length = n ∧ n ≤ 1000 ∧ spV K [.dat (.tup [.key k]), .dat (.int 1), .dat (.int n)] [] (.dat (.bl true)) [] vs H Q
theorem sc__law_is_matrix : FnScope N__law_is_matrix P__law_is_matrix (defScope s__law_is_matrix) := ⟨rfl, rfl, rfl, by decide +kernel, rfl, by decide +kernel, by decide +kernel⟩
theorem ok__law_is_matrix (T : Tx K mg) : Cal P w K mg base CX0 2 "_law_is_matrix" P__law_is_matrix (spLM K) := by
  refine T.f__law_is_matrix.cal sc__law_is_matrix (fun vs H Q E h => by obtain ⟨_, _, _, _, h⟩ := h; exact h.len) (fun _ _ _ _ _ _ us hl => match us, hl with | [_, _, _], _ => rfl) fun f cdv A outer s H vs Q E hr h => ?_
  obtain ⟨k, n, hk, hn, h⟩ := h
  refine ⟨_, (pss_cons (ps_if (PW.pt (pw_or (pt_not (pt_truth (pe_callB call_isi (by rfl) T.b_isinstance (by decide +kernel) (pa_cons (pv 0) (pa_cons (pe_bltn (v := .ty "tuple") (u := .type "tuple") (by rfl) T.b_tuple (by decide +kernel) rfl) pa_nil))) (by intro _; rfl))) (pw_or1 (pt_cmpR (op_neA hr.units) (pe_callB call_lenA (by rfl) T.b_len (by decide +kernel) (pa_cons (pv 0) pa_nil)) (pv 1) (nomark _)))))
 (pss_one (ps_ret pe_bl))
 pss_nil)
 (pss_cons (ps_for PassesOwn.never rfl (pi_seq (pi_list (pv 0)) (pi_tup (pv 0))) (pg_name (i := 3) sc__law_is_matrix.nd rfl (Or.inl rfl))
 (pss_one (ps_if (PW.pt (pw_or (pt_not (pt_truth (pe_callB call_isi (by rfl) T.b_isinstance (by decide +kernel) (pa_cons (pv 3) (pa_cons (pe_bltn (v := .ty "tuple") (u := .type "tuple") (by rfl) T.b_tuple (by decide +kernel) rfl) pa_nil))) (by intro _; rfl))) (pw_or (pt_cmpR (op_neA hr.units) (pe_callB call_lenA (by rfl) T.b_len (by decide +kernel) (pa_cons (pv 3) pa_nil)) (pv 2) (nomark _)) (pw_or1 (pt_cmpR (op_neA hr.units) (pe_lc (own := [("_law_one", 4)]) rfl sc__law_is_matrix.nd (pi_seq (pi_list (pv 3)) (pi_tup (pv 3))) (blkOk_by (own := [("_law_one", 4)]) (N := N__law_is_matrix) (sc := defScope s__law_is_matrix) (by decide +kernel))
 (fun _ _ _ _ _ => (pg_name (i := 4) sc__law_is_matrix.nd rfl (Or.inl rfl))) (fun _ _ _ _ _ => (pts_one (pt_not (show PT _ _ (tTru K _) from pt_truth (pe_cal (ok__law_is_whole T) (hr.mono (by decide)) rfl (pa_cons (pv 4) pa_nil)) (by intro _; rfl))))) (fun _ _ _ _ _ => (pv 4))) (pe_lst pa_nil) (nomark _))))))
 (pss_one (ps_ret pe_bl))
 pss_nil)))
 (pss_one (ps_ret pe_bl)))), fn_goD (l := [.tup [.key k], .int 1, .int n]) h ?_⟩
  show SD K _ [.dat (.tup [.key k]), .dat (.int 1), .dat (.int n), .un, .un] [] _
  refine sd_seq (M := fun e w => e = [.dat (.tup [.key k]), .dat (.int 1), .dat (.int n), .un, .un] ∧ w = []) (sd_if (b := false) (et_is (et_or (a := false) (b := false) (et_is (et_not (et_truB (ev_isTuple (ev_vd rfl) rfl))) rfl) fun _ => et_test (ev_is (ev_neI (ev_len (l := [.dat (.key k)]) (ev_vd rfl) rfl) (ev_vd rfl)) rfl)) rfl) (fun hb => by cases hb) (fun _ => sd_next ⟨rfl, rfl⟩)) ?_
  rintro e w ⟨rfl, rfl⟩
  refine sd_seq (M := fun e w => ∃ x3, e = [.dat (.tup [.key k]), .dat (.int 1), .dat (.int n), x3, .un] ∧ w = []) ?_ ?_
  · refine sd_for (ei_tup (l := [.key k]) (ev_vd rfl)) (fun i e w => ∃ x3, e = [.dat (.tup [.key k]), .dat (.int 1), .dat (.int n), x3, .un] ∧ w = []) ⟨.un, rfl, rfl⟩ (fun _ _ _ _ => trivial) ?_ ?_
    · rintro i x e w hx ⟨x3, rfl, rfl⟩
      obtain ⟨d, hd, hm, rfl⟩ := mem_map_get hx
      have hd : d = .key k := by simpa using hm
      subst hd
      refine ⟨[3], _, eg_name, ?_⟩
      have hei : EI K (iSeq K (tVar 3)) [.dat (.tup [.key k]), .dat (.int 1), .dat (.int n), .dat (.key k), .un] [] (k.map fun x => En.dat (.int x)) (fun _ => True) [] := by
        have z := ei_tup (K := K) (W := []) (es := [.dat (.tup [.key k]), .dat (.int 1), .dat (.int n), .dat (.key k), .un]) (tl := tVar 3) (ev_keyT (l := k) (ev_vd rfl))
        rw [List.map_map] at z
        exact z
      refine sd_if (b := false) (et_is (et_or (a := false) (b := false) (et_is (et_not (et_truB (ev_isTuple (ev_keyT (l := k) (ev_vd rfl)) rfl))) rfl) fun _ => et_or (a := false) (b := false) (et_is (et_test (ev_neI (ev_len (l := (k.map D.int).map .dat) (ev_vd rfl) rfl) (ev_vd rfl))) (by simp [hk])) fun _ => et_test (ev_is (ev_neNil (e1 := .dat (.lst [])) (l := []) (ev_is (ev_lcF (m := k) (f := fun _ => none) (js := [4]) hei (by omega) trivial (by simp) fun x hx => ?_) (by simp)) rfl rfl) rfl)) rfl) (fun hb => by cases hb) (fun _ => sd_next ⟨_, rfl, rfl⟩)
      exact ⟨_, eg_name, .inr ⟨rfl, et_is (et_not (et_truB (ev_callD (d := .bl true) (l := [.int x]) (ea_cons (ev_vd rfl) ea_nil) (fun vs H Q h => ⟨_, rfl, h⟩)))) rfl⟩⟩
    · rintro e w ⟨x3, rfl, rfl⟩
      exact ⟨x3, rfl, rfl⟩
  rintro e w ⟨x3, rfl, rfl⟩
  exact sd_ret (ev_bl true) rfl
/-- dict([(key, found[key]) for key in found if found[key] != 0]), found as data -/
theorem ev_nzdict {es : List En} {W : List Cn} {m : M} {i v : Nat} (nd : ND m) (hl : m.length ≤ 1000) (hi : ∀ x, ((wipeE es [v]).set v x)[i]? = some (.dat (dD m))) (h0 : es[i]? = some (.dat (dD m))) (hN : ∀ x : En, ((wipeE es [v]).set v x)[v]? = some x) :
    EV K (tCB (XC.rDictT K) (tCons (tLc (iKeys (tVar i)) (gName v) (tTest (tOp (rNeA K) (tDGet (tVar i) (tVar v)) (tC (.int 0)))) (tTup (tCons (tVar v) (tCons (tDGet (tVar i) (tVar v)) tNil))) [v]) tNil)) es W (.dat (dD (nz m))) W := by
  have hei := ei_kd (K := K) (ks := Pn.ks m) (l := m.map fun (q : List Int × Int) => D.int q.2) (td := tVar i) (es := es) (W := W) (ev_vd h0)
  have e1 : (Pn.ks m).map (fun k => En.dat (.key k)) = m.map fun q => En.dat (.key q.1) := by unfold Pn.ks; rw [List.map_map]; rfl
  rw [e1] at hei
  refine ev_is (ev_dictT (l := dI (nz m)) (e1 := .dat (.lst ((nz m).map tmI))) (ev_is (ev_lcF (m := m) (f := fun q => if q.2 = 0 then none else some (D.tup [.key q.1, .int q.2])) (js := [v]) hei (by omega) trivial (by simp) fun q hq => ?_) (by rw [nz_fd])) (tmI_pairs _)) (by rw [merge_nd nd.nz, kd_dD])
  refine ⟨_, eg_name, ?_⟩
  have hd : EV K (tDGet (tVar i) (tVar v)) ((wipeE es [v]).set v (.dat (.key q.1))) W (.dat (.int q.2)) W := ev_dgetT (k := q.1) (kvs := dI m) (ev_vd (hi _)) (ev_vd (hN _)) (dicE_dD m) (look_in nd hq)
  by_cases hz : q.2 = 0
  · exact .inr ⟨if_pos hz, et_is (et_test (ev_neI hd (ev_int 0))) (by simp [hz])⟩
  · exact .inl ⟨_, if_neg hz, et_is (et_test (ev_neI hd (ev_int 0))) (by simp [hz]), ev_tup (l := [.key q.1, .int q.2]) (ea_cons (ev_vd (hN _)) (ea_cons hd ea_nil)) (by simp)⟩
def spLLO (K : PySem.W.Frag) : Sp := fun vs H Q _ => ∃ (m : M) (L : List Int) (n : Nat) (B : Int), ND m ∧ m.length ≤ 1000 ∧ AB n B m ∧ n ≤ 1000 ∧ spV K [.dat (dD m), .dat (.lst (L.map D.int))] [] (.dat (dD (nz (acc [] (loM L m))))) [] vs H Q
theorem sc__law_left_out : FnScope N__law_left_out P__law_left_out (defScope s__law_left_out) := ⟨rfl, rfl, rfl, by decide +kernel, rfl, by decide +kernel, by decide +kernel⟩
theorem ok__law_left_out (T : Tx K mg) : Cal P w K mg base CX0 1 "_law_left_out" P__law_left_out (spLLO K) := by
  refine T.f__law_left_out.cal sc__law_left_out (fun vs H Q E h => by obtain ⟨_, _, _, _, _, _, _, _, h⟩ := h; exact h.len) (fun _ _ _ _ _ _ us hl => match us, hl with | [_, _], _ => rfl) fun f cdv A outer s H vs Q E hr h => ?_
  obtain ⟨m, L, n, B, nd, hl, hab, hn, h⟩ := h
  refine ⟨_, (pss_cons (ps_set (i := 2) sc__law_left_out.nd rfl (Or.inr rfl) pe_dnewT)
 (pss_cons (ps_for PassesOwn.never rfl (pi_keys (pv 0)) (pg_name (i := 3) sc__law_left_out.nd rfl (Or.inr rfl))
 (pss_cons (ps_set (i := 4) sc__law_left_out.nd rfl (Or.inl rfl) (pe_callTy call_tuple_of (by rfl) T.b_tuple (by decide +kernel) (pa_cons (pe_lc (own := [("_law_j", 5)]) rfl sc__law_left_out.nd (pi_range1 rfl T.b_range (pa_cons (pe_callB call_lenA (by rfl) T.b_len (by decide +kernel) (pa_cons (pv 3) pa_nil)) pa_nil)) (blkOk_by (own := [("_law_j", 5)]) (N := N__law_left_out) (sc := defScope s__law_left_out) (by decide +kernel))
 (fun _ _ _ _ _ => (pg_name (i := 5) sc__law_left_out.nd rfl (Or.inl rfl))) (fun _ _ _ _ _ => pts_nil) (fun _ _ _ _ _ => (pe_ifExp (pt_cmpR (show OpR _ (compareOp .In) (rInA K) from (op_inA (u65 hr))) (pv 5) (pv 1) (by rfl)) pe_int (pe_ix (show IxR _ (rIx K) from ix_seq) (pv 3) (pv 5) (fun _ _ => rfl))))) pa_nil)))
 (pss_one (ps_dput (hu_of hr) (pv 2) (pv 4) (pe_op (op_addX) (pe_dget2 (hu_of hr) (pv 2) (pv 4) pe_int ⟨rfl, rfl, rfl, rfl⟩) (pe_dget (hu_of hr) (pv 0) (pv 3) (fun _ _ => rfl))) rfl))))
 (pss_one (ps_frz (ps_ret (pe_callTy (XC.call_dictT rfl (u64 hr)) (by rfl) T.b_dict (by decide +kernel) (pa_cons (pe_lc (own := [("_law_key", 3)]) rfl sc__law_left_out.nd (pi_keys (pv 2)) (blkOk_by (own := [("_law_key", 3)]) (N := N__law_left_out) (sc := defScope s__law_left_out) (by decide +kernel))
 (fun _ _ _ _ _ => (pg_name (i := 3) sc__law_left_out.nd rfl (Or.inl rfl))) (fun _ _ _ _ _ => (pts_one (pt_cmpR (show OpR _ (compareOp .NotEq) (rNeA K) from (op_neA hr.units)) (pe_dget (by exact hu_of hr) (pv 2) (pv 3) (fun _ _ => rfl)) pe_int (nomark _)))) (fun _ _ _ _ _ => (pe_tup (pa_cons (pv 3) (pa_cons (pe_dget (by exact hu_of hr) (pv 2) (pv 3) (fun _ _ => rfl)) pa_nil))))) pa_nil))))))), fn_goD (l := [dD m, .lst (L.map D.int)]) h ?_⟩
  show SD K _ [.dat (dD m), .dat (.lst (L.map D.int)), .un, .un, .un, .un] [] _
  refine sd_then (sd_asg ev_dnewT) ?_
  refine sd_seq (M := fun e w => ∃ x3 x4, e = [.dat (dD m), .dat (.lst (L.map D.int)), .ptr 0, x3, x4, .un] ∧ w = [.dt (dI (acc [] (loM L m)))]) ?_ ?_
  · have hei := ei_kd (K := K) (ks := Pn.ks m) (l := m.map fun (q : List Int × Int) => D.int q.2) (td := tVar 0) (es := [.dat (dD m), .dat (.lst (L.map D.int)), .ptr 0, .un, .un, .un]) (W := [.dt []]) (ev_vd rfl)
    have e1 : (Pn.ks m).map (fun k => En.dat (.key k)) = m.map fun q => En.dat (.key q.1) := by unfold Pn.ks; rw [List.map_map]; rfl
    rw [e1] at hei
    refine sd_for hei (fun i e w => ∃ x3 x4, e = [.dat (dD m), .dat (.lst (L.map D.int)), .ptr 0, x3, x4, .un] ∧ w = [.dt (dI (acc [] (loM L (m.take i))))]) ⟨.un, .un, rfl, rfl⟩ (fun _ _ _ _ => trivial) ?_ ?_
    · rintro i x e w hx ⟨x3, x4, rfl, rfl⟩
      obtain ⟨q, hq, hm, rfl⟩ := mem_map_get hx
      have hk := hab q hm
      have hlen := len_acc (l := loM L (m.take i)) (m := [])
      have hll : (loM L (m.take i)).length ≤ m.length := by simp [loM]; exact Nat.min_le_right _ _
      refine ⟨[3], _, eg_name, ?_⟩
      have hrg := ei_rng1 (K := K) (n := (q.1.length : Int)) (ta := tCons (tCB (rLenA K) (tCons (tVar 3) tNil)) tNil) (es := [.dat (dD m), .dat (.lst (L.map D.int)), .ptr 0, .dat (.key q.1), x4, .un]) (W := [.dt (dI (acc [] (loM L (m.take i))))]) (ea_cons (ev_is (ev_len (l := (q.1.map D.int).map .dat) (ev_vd rfl) rfl) (by simp)) ea_nil) (by have := hk.1; omega)
      rw [show ((q.1.length : Int)).toNat = q.1.length by omega] at hrg
      refine sd_then (sd_asg (e := .dat (.key (Pn.lo L q.1))) (ev_tupleK (l := Pn.lo L q.1) (ev_lcM (m := List.range q.1.length) (f := fun j => .int (if (j : Int) ∈ L then 0 else q.1.getD j 0)) (js := [5]) hrg (by simp; have := hk.1; omega) trivial (by simp) fun j hj => ⟨_, eg_name, ev_if (b := decide ((0 + (j : Int)) ∈ L)) (et_test (ev_inI (ns := L) (ev_vd rfl) (ev_vd rfl) rfl)) (fun hb => ?_) (fun hb => ?_)⟩) (by rw [lo_range]; rfl))) ?_
      · have := of_decide_eq_true hb
        rw [Int.zero_add] at this
        rw [if_pos this]; exact ev_int 0
      · have := of_decide_eq_false hb
        rw [Int.zero_add] at this
        rw [if_neg this]
        exact ev_ix (l := (q.1.map D.int).map .dat) (ev_vd rfl) (ev_vd rfl) rfl (atI_zero (key_at (List.mem_range.mp hj)))
      refine sd_of (sd_dputT (W1 := [.dt (dI (acc [] (loM L (m.take i))))]) (i := 0) (kvs := dI (acc [] (loM L (m.take i)))) (d := .int ((getM (acc [] (loM L (m.take i))) (Pn.lo L q.1)).getD 0 + q.2)) (k := Pn.lo L q.1) ?_ (ev_vp rfl) (ev_vd rfl) rfl ?_) ?_
      · exact ev_addI (ev_is (ev_dget2T (k := Pn.lo L q.1) (d := .int 0) (kvs := dI (acc [] (loM L (m.take i)))) (ev_vp rfl) (ev_vd rfl) (ev_int 0) ⟨_, dicE_ptr rfl⟩ (dicE_ptr rfl)) (by rw [look_get])) (ev_dgetT (k := q.1) (kvs := dI m) (ev_vd rfl) (ev_vd rfl) (dicE_dD m) (look_in nd hm))
      · rw [dF_length]; simp only [List.length_nil] at hlen; omega
      · refine ⟨_, _, rfl, ?_⟩
        show [Cn.dt (putT _ _ _)] = _
        rw [put_dI, take_succ' hq]
        have : loM L (m.take i ++ [q]) = loM L (m.take i) ++ [(Pn.lo L q.1, q.2)] := by simp [loM]
        rw [this, acc_append]; rfl
    · rintro e w ⟨x3, x4, rfl, rfl⟩
      refine ⟨x3, x4, rfl, ?_⟩
      rw [List.length_map, List.take_length]
  · rintro e w ⟨x3, x4, rfl, rfl⟩
    have hlen := len_acc (l := loM L m) (m := [])
    have hll : (loM L m).length = m.length := by simp [loM]
    refine sd_frz (i := 0) (j := 2) (kvs := dI (acc [] (loM L m))) rfl rfl ?_
    rw [kd_dD]
    exact sd_ret (ev_nzdict (i := 2) (v := 3) (ND.acc ND.nil) (by simp only [List.length_nil] at hlen; omega) (fun x => rfl) rfl (fun x => rfl)) rfl
end
end K77
namespace K77
open PySem PySem.Spec PyProof.Rows L2 AS Pn
local macro_rules | `(tactic| walk_at "ev") => `(tactic| first
  | exact ev_vd rfl
  | exact ev_vp rfl
  | exact ev_int _
  | exact ev_non
  | exact ev_bl _
  | exact ev_str _
  | assumption
  | (apply ev_addI <;> walk_at "ev")
  | (apply ev_sub <;> walk_at "ev")
  | (apply ev_neg; walk_at "ev")
  | (apply ev_abs; walk_at "ev")
  | (apply ev_intA; walk_at "ev")
  | (apply ev_lt <;> walk_at "ev")
  | (apply ev_le <;> walk_at "ev")
  | (apply ev_gt <;> walk_at "ev")
  | (apply ev_ge <;> walk_at "ev")
  | (apply ev_eqI <;> walk_at "ev")
  | (apply ev_neI <;> walk_at "ev")
  | (apply ev_isN; walk_at "ev")
  | (apply ev_notN; walk_at "ev")
  | (apply ev_isi (by walk_at "ev") rfl; rfl)
  | skip)
local macro_rules | `(tactic| walk_at "ea") => `(tactic| first
  | exact ea_nil
  | (apply ea_cons; walk_at "ev"; walk_at "ea"))
local macro_rules | `(tactic| walk_at "call") => `(tactic| (first
  | exact (fun vs H Q h => ⟨_, h⟩)
  | exact (fun vs H Q h => ⟨_, _, h⟩)
  | exact (fun vs H Q h => ⟨_, _, _, h⟩)))

theorem keysE (m : M) : (Pn.ks m).map (fun k => En.dat (.key k)) = m.map fun q => En.dat (.key q.1) := by unfold Pn.ks; rw [List.map_map]; rfl
section
variable {P : Program} {w : World} {K : PySem.W.Frag} {mg : Str → Option Value} {base : Heap}
theorem ei_dD {td : TE} {es : List En} {W W1 : List Cn} {m : M} (h : EV K td es W (.dat (dD m)) W1) : EI K (iKeys td) es W (m.map fun q => En.dat (.key q.1)) (fun _ => True) W1 := by
  have z := ei_kd (ks := Pn.ks m) (l := m.map fun (q : List Int × Int) => D.int q.2) h
  rw [keysE] at z
  exact z
def spPT (K : PySem.W.Frag) : Sp := fun vs H Q _ => ∃ (a b : M) (n N1 N2 : Nat) (E1 E2 C1 C2 : Int), PD n E1 C1 N1 a ∧ PD n E2 C2 N2 b ∧ C1 < 2 ^ 59 ∧ C2 < 2 ^ 59 ∧ N1 * N2 ≤ 1000 ∧ n ≤ 1000 ∧ spV K [.dat (dD a), .dat (dD b)] [] (.dat (dD (pm a b))) [] vs H Q
theorem sc__law_poly_times : FnScope N__law_poly_times P__law_poly_times (defScope s__law_poly_times) := ⟨rfl, rfl, rfl, by decide +kernel, rfl, by decide +kernel, by decide +kernel⟩
theorem ok__law_poly_times (T : Tx K mg) : Cal P w K mg base CX0 1 "_law_poly_times" P__law_poly_times (spPT K) := by
  refine T.f__law_poly_times.cal sc__law_poly_times (fun vs H Q E h => by obtain ⟨_, _, _, _, _, _, _, _, _, _, _, _, _, _, _, h⟩ := h; exact h.len) (fun _ _ _ _ _ _ us hl => match us, hl with | [_, _], _ => rfl) fun f cdv A outer s H vs Q E hr h => ?_
  obtain ⟨a, b, n, N1, N2, E1, E2, C1, C2, ha, hb, hC1, hC2, hN, hn, h⟩ := h
  refine ⟨_, (pss_cons (ps_set (i := 2) sc__law_poly_times.nd rfl (Or.inr rfl) pe_dnewT)
 (pss_cons (ps_for PassesOwn.never rfl (pi_keys (pv 0)) (pg_name (i := 3) sc__law_poly_times.nd rfl (Or.inl rfl))
 (pss_one (ps_for PassesOwn.never rfl (pi_keys (pv 1)) (pg_name (i := 4) sc__law_poly_times.nd rfl (Or.inl rfl))
 (pss_cons (ps_set (i := 5) sc__law_poly_times.nd rfl (Or.inl rfl) (pe_callTy call_tuple_of (by rfl) T.b_tuple (by decide +kernel) (pa_cons (pe_lc (own := [("_law_a", 6), ("_law_b", 7)]) rfl sc__law_poly_times.nd (XC.pi_ziX (by rfl) T.b_zip (pa_cons (pv 3) (pa_cons (pv 4) pa_nil))) (blkOk_by (own := [("_law_a", 6), ("_law_b", 7)]) (N := N__law_poly_times) (sc := defScope s__law_poly_times) (by decide +kernel))
 (fun _ _ _ _ _ => (show PG _ _ (gTup K 2 _) from pg_tup rfl (pgs_cons (pg_name (i := 6) sc__law_poly_times.nd rfl (Or.inl rfl)) (pgs_cons (pg_name (i := 7) sc__law_poly_times.nd rfl (Or.inl rfl)) pgs_nil)))) (fun _ _ _ _ _ => pts_nil) (fun _ _ _ _ _ => (pe_op (show OpR _ (binaryOp .Add) (rAddX K) from (op_addX)) (pv 6) (pv 7)))) pa_nil)))
 (pss_one (ps_dput (hu_of hr) (pv 2) (pv 5) (pe_op (op_addX) (pe_dget2 (hu_of hr) (pv 2) (pv 5) pe_int ⟨rfl, rfl, rfl, rfl⟩) (pe_op op_mulX (pe_dget (hu_of hr) (pv 0) (pv 3) (fun _ _ => rfl)) (pe_dget (hu_of hr) (pv 1) (pv 4) (fun _ _ => rfl)))) rfl))))))
 (pss_one (ps_frz (ps_ret (pe_callTy (XC.call_dictT rfl (u64 hr)) (by rfl) T.b_dict (by decide +kernel) (pa_cons (pe_lc (own := [("_law_key", 5)]) rfl sc__law_poly_times.nd (pi_keys (pv 2)) (blkOk_by (own := [("_law_key", 5)]) (N := N__law_poly_times) (sc := defScope s__law_poly_times) (by decide +kernel))
 (fun _ _ _ _ _ => (pg_name (i := 5) sc__law_poly_times.nd rfl (Or.inl rfl))) (fun _ _ _ _ _ => (pts_one (pt_cmpR (show OpR _ (compareOp .NotEq) (rNeA K) from (op_neA hr.units)) (pe_dget (by exact hu_of hr) (pv 2) (pv 5) (fun _ _ => rfl)) pe_int (nomark _)))) (fun _ _ _ _ _ => (pe_tup (pa_cons (pv 5) (pa_cons (pe_dget (by exact hu_of hr) (pv 2) (pv 5) (fun _ _ => rfl)) pa_nil))))) pa_nil))))))), fn_goD (l := [dD a, dD b]) h ?_⟩
  show SD K _ [.dat (dD a), .dat (dD b), .un, .un, .un, .un, .un, .un] [] _
  have hab : (prs a b).length ≤ 1000 := by
    rw [prs_len]
    exact Nat.le_trans (Nat.mul_le_mul ha.len hb.len) hN
  refine sd_then (sd_asg ev_dnewT) ?_
  refine sd_seq (M := fun e w => ∃ x3 x4 x5, e = [.dat (dD a), .dat (dD b), .ptr 0, x3, x4, x5, .un, .un] ∧ w = [.dt (dI (acc [] (prs a b)))]) ?_ ?_
  · refine sd_for (ei_dD (m := a) (ev_vd rfl)) (fun i e w => ∃ x3 x4 x5, e = [.dat (dD a), .dat (dD b), .ptr 0, x3, x4, x5, .un, .un] ∧ w = [.dt (dI (acc [] (prs (a.take i) b)))]) ⟨.un, .un, .un, rfl, rfl⟩ (fun _ _ _ _ => trivial) ?_ ?_
    · rintro i x e w hx ⟨x3, x4, x5, rfl, rfl⟩
      obtain ⟨p, hp, hpm, rfl⟩ := mem_map_get hx
      have hi : i < a.length := (List.getElem?_eq_some_iff.mp hp).1
      refine ⟨[3], _, eg_name, ?_⟩
      have stepE : prs (a.take (i + 1)) b = prs (a.take i) b ++ b.map fun q => (addK p.1 q.1, p.2 * q.2) := by
        rw [take_succ' hp]; simp [prs]
      have lenS : (prs (a.take (i + 1)) b).length ≤ 1000 := by
        rw [prs_len, List.length_take]
        rw [prs_len] at hab
        exact Nat.le_trans (Nat.mul_le_mul_right _ (Nat.min_le_right _ _)) hab
      refine SD.imp (P := ⟨fun e w => ∃ x4 x5, e = [.dat (dD a), .dat (dD b), .ptr 0, .dat (.key p.1), x4, x5, .un, .un] ∧ w = [.dt (dI (acc [] (prs (a.take i) b ++ b.map fun q => (addK p.1 q.1, p.2 * q.2))))], fun _ _ => False, fun _ _ => False, fun _ _ => False⟩) ?_ (fun e w ⟨x4, x5, h1, h2⟩ => ⟨_, x4, x5, h1, by rw [h2, stepE]⟩) (fun _ _ x => x.elim) (fun _ _ x => x.elim) (fun _ _ x => x.elim)
      refine sd_for (ei_dD (m := b) (ev_vd rfl)) (fun j e w => ∃ x4 x5, e = [.dat (dD a), .dat (dD b), .ptr 0, .dat (.key p.1), x4, x5, .un, .un] ∧ w = [.dt (dI (acc [] (prs (a.take i) b ++ (b.take j).map fun q => (addK p.1 q.1, p.2 * q.2))))]) ⟨x4, x5, rfl, by simp⟩ (fun _ _ _ _ => trivial) ?_ ?_
      · rintro j x e w hx ⟨x4, x5, rfl, rfl⟩
        obtain ⟨q, hq, hqm, rfl⟩ := mem_map_get hx
        have hj : j < b.length := (List.getElem?_eq_some_iff.mp hq).1
        have hk1 := ha.ab p hpm
        have hk2 := hb.ab q hqm
        have s1 := Sm.of (ha.co p hpm) hC1
        have s2 := Sm.of (hb.co q hqm) hC2
        generalize hA : prs (a.take i) b ++ (b.take j).map (fun q => (addK p.1 q.1, p.2 * q.2)) = A0
        have hA0 : A0.length ≤ 1000 := by
          rw [← hA, List.length_append, List.length_map, List.length_take]
          rw [stepE, List.length_append, List.length_map] at lenS
          omega
        refine ⟨[4], _, eg_name, ?_⟩
        have hz := ei_ziX (K := K) (l := p.1.map D.int) (m := q.1.map D.int) (d1 := .key p.1) (d2 := .key q.1) (tA := tCons (tVar 3) (tCons (tVar 4) tNil)) (es := [.dat (dD a), .dat (dD b), .ptr 0, .dat (.key p.1), .dat (.key q.1), x5, .un, .un]) (W := [.dt (dI (acc [] A0))]) (ea_cons (ev_vd rfl) (ea_cons (ev_vd rfl) ea_nil)) rfl rfl
        rw [zipE_ints] at hz
        refine sd_then (sd_asg (e := .dat (.key (addK p.1 q.1))) (ev_tupleK (l := addK p.1 q.1) (ev_lcM (m := p.1.zip q.1) (f := fun p => .int (p.1 + p.2)) (js := [6, 7]) hz (by rw [List.length_zip]; have := hk1.1; omega) trivial (by simp) fun y hy => ⟨_, eg_tup2, ev_addI (ev_vd rfl) (ev_vd rfl)⟩) (by rw [zip_add]; rfl))) ?_
        have hlen := len_acc (l := A0) (m := [])
        refine sd_of (sd_dputT (W1 := [.dt (dI (acc [] A0))]) (i := 0) (kvs := dI (acc [] A0)) (d := .int ((getM (acc [] A0) (addK p.1 q.1)).getD 0 + p.2 * q.2)) (k := addK p.1 q.1) ?_ (ev_vp rfl) (ev_vd rfl) rfl ?_) ?_
        · exact ev_addI (ev_is (ev_dget2T (k := addK p.1 q.1) (d := .int 0) (kvs := dI (acc [] A0)) (ev_vp rfl) (ev_vd rfl) (ev_int 0) ⟨_, dicE_ptr rfl⟩ (dicE_ptr rfl)) (by rw [look_get])) (ev_mulI (ev_dgetT (k := p.1) (kvs := dI a) (ev_vd rfl) (ev_vd rfl) (dicE_dD a) (look_in ha.nd hpm)) (ev_dgetT (k := q.1) (kvs := dI b) (ev_vd rfl) (ev_vd rfl) (dicE_dD b) (look_in hb.nd hqm)) (s1.mul s2))
        · rw [dF_length]; simp only [List.length_nil] at hlen; omega
        · refine ⟨_, _, rfl, ?_⟩
          show [Cn.dt (putT _ _ _)] = _
          rw [put_dI, take_succ' hq, List.map_append, ← List.append_assoc, hA, acc_append]; rfl
      · rintro e w ⟨x4, x5, rfl, rfl⟩
        refine ⟨x4, x5, rfl, ?_⟩
        rw [List.length_map, List.take_length]
    · rintro e w ⟨x3, x4, x5, rfl, rfl⟩
      refine ⟨x3, x4, x5, rfl, ?_⟩
      rw [List.length_map, List.take_length]
  · rintro e w ⟨x3, x4, x5, rfl, rfl⟩
    have hlen := len_acc (l := prs a b) (m := [])
    refine sd_frz (i := 0) (j := 2) (kvs := dI (acc [] (prs a b))) rfl rfl ?_
    rw [kd_dD]
    exact sd_ret (ev_nzdict (i := 2) (v := 5) (ND.acc ND.nil) (by simp only [List.length_nil] at hlen; omega) (fun x => rfl) rfl (fun x => rfl)) rfl
def spMd (K : PySem.W.Frag) (mg : Str → Option Value) : Sp := fun vs H Q _ => ∃ (n N : Nat) (B C : Int) (a b : M), Two n N B C (nrm a) (nrm b) ∧ ND a ∧ ND b ∧ AB n B a ∧ AB n B b ∧ a.length < 64 ∧ b.length < 64 ∧
  spV K [.dat (.tup [dD a, dD b]), .dat (.int n)] [] (.dat (quoD mg n (mkQ n (nrm a) (nrm b)).1 (mkQ n (nrm a) (nrm b)).2)) [] vs H Q
theorem sc__law_made : FnScope N__law_made P__law_made (defScope s__law_made) := ⟨rfl, rfl, rfl, by decide +kernel, rfl, by decide +kernel, by decide +kernel⟩
theorem ok__law_made (T : Tx K mg) : Cal P w K mg base CX0 12 "_law_made" P__law_made (spMd K mg) := by
  refine T.f__law_made.cal sc__law_made (fun vs H Q E h => by obtain ⟨_, _, _, _, _, _, _, _, _, _, _, _, _, h⟩ := h; exact h.len) (fun _ _ _ _ _ _ us hl => match us, hl with | [_, _], _ => rfl) fun f cdv A outer s H vs Q E hr h => ?_
  obtain ⟨n, N, B, C, a, b, t, na, nb, aa, ab, la, lb, h⟩ := h
  refine ⟨_, (pss_one (ps_ret (pe_makA (ok_Quotient T) (hr.mono (by decide)) rfl (pa_cons (pe_makA (ok_Poly T) (hr.mono (by decide)) rfl (pa_cons (pv 1) (pa_cons (pe_lc (own := [("_law_key", 2)]) rfl sc__law_made.nd (pi_keys (pe_ix ix_seq (pv 0) pe_int (fun _ _ => rfl))) (blkOk_by (own := [("_law_key", 2)]) (N := N__law_made) (sc := defScope s__law_made) (by decide +kernel))
 (fun _ _ _ _ _ => (pg_name (i := 2) sc__law_made.nd rfl (Or.inl rfl))) (fun _ _ _ _ _ => pts_nil) (fun _ _ _ _ _ => (pe_tup (pa_cons (pv 2) (pa_cons (pe_dget (by exact hu_of hr) (pe_ix (show IxR _ (rIx K) from ix_seq) (pv 0) pe_int (fun _ _ => rfl)) (pv 2) (fun _ _ => rfl)) pa_nil))))) pa_nil))) (pa_cons (pe_makA (ok_Poly T) (hr.mono (by decide)) rfl (pa_cons (pv 1) (pa_cons (pe_lc (own := [("_law_key", 2)]) rfl sc__law_made.nd (pi_keys (pe_ix ix_seq (pv 0) pe_int (fun _ _ => rfl))) (blkOk_by (own := [("_law_key", 2)]) (N := N__law_made) (sc := defScope s__law_made) (by decide +kernel))
 (fun _ _ _ _ _ => (pg_name (i := 2) sc__law_made.nd rfl (Or.inl rfl))) (fun _ _ _ _ _ => pts_nil) (fun _ _ _ _ _ => (pe_tup (pa_cons (pv 2) (pa_cons (pe_dget (by exact hu_of hr) (pe_ix (show IxR _ (rIx K) from ix_seq) (pv 0) pe_int (fun _ _ => rfl)) (pv 2) (fun _ _ => rfl)) pa_nil))))) pa_nil))) pa_nil))))), fn_goD (l := [.tup [dD a, dD b], .int n]) h ?_⟩
  show SD K _ [.dat (.tup [dD a, dD b]), .dat (.int n), .un] [] _
  have one : ∀ {x : M} {i : Int}, ND x → AB n B x → x.length < 64 → (∀ {es : List En}, es[0]? = some (.dat (.tup [dD a, dD b])) → EV K (tOp (rIx K) (tVar 0) (tC (.int i))) es [] (.dat (dD x)) []) →
      EV K (tMake (CP mg) (spPI K (CP mg)) [] E0 (tCons (tVar 1) (tCons (tLc (iKeys (tOp (rIx K) (tVar 0) (tC (.int i)))) (gName 2) tYes (tTup (tCons (tVar 2) (tCons (tDGet (tOp (rIx K) (tVar 0) (tC (.int i))) (tVar 2)) tNil))) [2]) tNil))) [.dat (.tup [dD a, dD b]), .dat (.int n), .un] [] (.dat (polyD mg n (nrm x))) [] := fun {x i} nx ax lx hx =>
    ev_poly (n := n) (B := B) (g := tmI) (ea_cons (ev_vd rfl) (ea_cons (ev_lcM (m := x) (f := tmI) (js := [2]) (ei_dD (hx rfl)) (by omega) trivial (by simp) fun q hq => ⟨_, eg_name, ev_tup (l := [.key q.1, .int q.2]) (ea_cons (ev_vd rfl) (ea_cons (ev_dgetT (k := q.1) (kvs := dI x) (hx rfl) (ev_vd rfl) (dicE_dD x) (look_in nx hq)) ea_nil)) (by simp)⟩) ea_nil)) t.n1 t.n2 lx ax t.hB (Wv_tmI _)
  exact sd_ret (ev_quo (N := N) (B := B) (C := C) (ea_cons (one (i := 0) na aa la fun {es} h0 => ev_ix (l := [.dat (dD a), .dat (dD b)]) (ev_vd h0) (ev_int 0) rfl rfl) (ea_cons (one (i := 1) nb ab lb fun {es} h0 => ev_ix (l := [.dat (dD a), .dat (dD b)]) (ev_vd h0) (ev_int 1) rfl rfl) ea_nil)) t) rfl
def spTP (K : PySem.W.Frag) (mg : Str → Option Value) : Sp := fun vs H Q _ => ∃ (n : Nat) (B : Int) (l : M), ND l ∧ AB n B l ∧ l.length ≤ 1000 ∧ n ≤ 1000 ∧ (∀ q ∈ l, Sm q.2) ∧ spV K [.dat (polyD mg n l), .dat (.int n)] [] (.dat (.tup [dD l, .int 1])) [] vs H Q
theorem sc__law_told_poly : FnScope N__law_told_poly P__law_told_poly (defScope s__law_told_poly) := ⟨rfl, rfl, rfl, by decide +kernel, rfl, by decide +kernel, by decide +kernel⟩
theorem ok__law_told_poly (T : Tx K mg) : Cal P w K mg base CX0 3 "_law_told_poly" P__law_told_poly (spTP K mg) := by
  refine T.f__law_told_poly.cal sc__law_told_poly (fun vs H Q E h => by obtain ⟨_, _, _, _, _, _, _, _, h⟩ := h; exact h.len) (fun _ _ _ _ _ _ us hl => match us, hl with | [_, _], _ => rfl) fun f cdv A outer s H vs Q E hr h => ?_
  obtain ⟨n, B, l, nd, hab, hl, hn, hsm, h⟩ := h
  refine ⟨_, (pss_cons (ps_if (PW.pt (pw_or (pt_not (pt_truth (pe_callB call_isi (by rfl) T.b_isinstance (by decide +kernel) (pa_cons (pv 0) (pa_cons (pe_glob (v := .ref (CP mg)) (by rfl) T.cP.g rfl) pa_nil))) (by intro _; rfl))) (pw_or (pt_cmpR (op_neA hr.units) (pe_fld (pv 0) rfl) (pv 1) (nomark _)) (pw_or1 (pt_not (pt_truth (pe_callB call_isi (by rfl) T.b_isinstance (by decide +kernel) (pa_cons (pe_fld (pv 0) rfl) (pa_cons (pe_bltn (v := .ty "tuple") (u := .type "tuple") (by rfl) T.b_tuple (by decide +kernel) rfl) pa_nil))) (by intro _; rfl)))))))
 (pss_one (ps_ret pe_non))
 pss_nil)
 (pss_cons (ps_par (i := 3) (j := 4) (by rfl) sc__law_told_poly.nd rfl rfl (by decide) rfl rfl (pa_cons pe_dnewT (pa_cons pe_int pa_nil)) (by rfl))
 (pss_cons (ps_for PassesOwn.never rfl (pi_seq (pi_list (pe_fld (pv 0) rfl)) (pi_tup (pe_fld (pv 0) rfl))) (pg_name (i := 2) sc__law_told_poly.nd rfl (Or.inl rfl))
 (pss_cons (ps_if (PW.pt (pw_or (pt_not (pt_truth (pe_callB call_isi (by rfl) T.b_isinstance (by decide +kernel) (pa_cons (pv 2) (pa_cons (pe_bltn (v := .ty "tuple") (u := .type "tuple") (by rfl) T.b_tuple (by decide +kernel) rfl) pa_nil))) (by intro _; rfl))) (pw_or (pt_cmpR (op_neA hr.units) (pe_callB call_lenA (by rfl) T.b_len (by decide +kernel) (pa_cons (pv 2) pa_nil)) pe_int (nomark _)) (pw_or1 (pt_not (pt_truth (pe_cal (ok__law_is_matrix T) (hr.mono (by decide)) rfl (pa_cons (pe_tup (pa_cons (pe_ix ix_seq (pv 2) pe_int (fun _ _ => rfl)) pa_nil)) (pa_cons pe_int (pa_cons (pv 1) pa_nil)))) (by intro _; rfl)))))))
 (pss_one (ps_ret pe_non))
 pss_nil)
 (pss_cons (ps_if (pt_not (pt_truth (pe_cal (ok__law_is_ratio T) (hr.mono (by decide)) rfl (pa_cons (pe_ix ix_seq (pv 2) pe_int (fun _ _ => rfl)) pa_nil)) (by intro _; rfl)))
 (pss_one (ps_ret pe_non))
 pss_nil)
 (pss_one (ps_set (i := 4) sc__law_told_poly.nd rfl (Or.inl rfl) (pe_op op_fdivA (pe_op op_mulX (pv 4) (pe_ix ix_seq (pe_ix ix_seq (pv 2) pe_int (fun _ _ => rfl)) pe_int (fun _ _ => rfl))) (pe_cal (ok__law_gcd T) (hr.mono (by decide)) rfl (pa_cons (pv 4) (pa_cons (pe_ix ix_seq (pe_ix ix_seq (pv 2) pe_int (fun _ _ => rfl)) pe_int (fun _ _ => rfl)) pa_nil)))))))))
 (pss_cons (ps_for PassesOwn.never rfl (pi_seq (pi_list (pe_fld (pv 0) rfl)) (pi_tup (pe_fld (pv 0) rfl))) (pg_tup rfl (pgs_cons (pg_name (i := 5) sc__law_told_poly.nd rfl (Or.inl rfl)) (pgs_cons (pg_name (i := 6) sc__law_told_poly.nd rfl (Or.inl rfl)) pgs_nil)))
 (pss_one (ps_dput (hu_of hr) (pv 3) (pv 5) (pe_op op_mulX (pe_ix ix_seq (pv 6) pe_int (fun _ _ => rfl)) (pe_op op_fdivA (pv 4) (pe_ix ix_seq (pv 6) pe_int (fun _ _ => rfl)))) rfl)))
 (pss_one (ps_frz (ps_ret (pe_tup (pa_cons (pv 3) (pa_cons (pv 4) pa_nil)))))))))), fn_goD (l := [polyD mg n l, .int n]) h ?_⟩
  show SD K _ [.dat (polyD mg n l), .dat (.int n), .un, .un, .un, .un, .un] [] _
  refine sd_seq (M := fun e w => e = [.dat (polyD mg n l), .dat (.int n), .un, .un, .un, .un, .un] ∧ w = []) (sd_if (b := false) (et_is (et_or (a := false) (b := false) (et_is (et_not (et_truB (ev_isiC (C := CP mg) (ev_vd rfl) T.cP.ins))) rfl) fun _ => et_or (a := false) (b := false) (et_is (et_test (ev_neI (ev_psize T (n := n) (l := l) (ev_vd rfl)) (ev_vd rfl))) (by simp)) fun _ => et_is (et_not (et_truB (ev_isTuple (ev_terms T (n := n) (l := l) (ev_vd rfl)) rfl))) rfl) rfl) (fun hb => by cases hb) (fun _ => sd_next ⟨rfl, rfl⟩)) ?_
  rintro e w ⟨rfl, rfl⟩
  refine sd_then (sd_par (e1 := .ptr 0) (e2 := .dat (.int 1)) (ea_cons ev_dnewT (ea_cons (ev_int 1) ea_nil))) ?_
  show SD K _ [.dat (polyD mg n l), .dat (.int n), .un, .ptr 0, .dat (.int 1), .un, .un] [.dt []] _
  have g1 : Int.gcd 1 1 = 1 := by decide
  refine sd_seq (M := fun e w => ∃ x2, e = [.dat (polyD mg n l), .dat (.int n), x2, .ptr 0, .dat (.int 1), .un, .un] ∧ w = [.dt []]) ?_ ?_
  · refine sd_for (ei_tup (l := l.map tm) (ev_terms T (n := n) (l := l) (ev_vd rfl))) (fun i e w => ∃ x2, e = [.dat (polyD mg n l), .dat (.int n), x2, .ptr 0, .dat (.int 1), .un, .un] ∧ w = [.dt []]) ⟨.un, rfl, rfl⟩ (fun _ _ _ _ => trivial) ?_ ?_
    · rintro i x e w hx ⟨x2, rfl, rfl⟩
      rw [List.map_map] at hx
      obtain ⟨q, hq, hm, rfl⟩ := mem_map_get hx
      have hk := hab q hm
      refine ⟨[2], _, eg_name, ?_⟩
      have i0 : EV K (tOp (rIx K) (tVar 2) (tC (.int 0))) [.dat (polyD mg n l), .dat (.int n), .dat (tm q), .ptr 0, .dat (.int 1), .un, .un] [.dt []] (.dat (.key q.1)) [.dt []] := ev_ix (l := [.dat (.key q.1), .dat (rt q.2)]) (ev_vd (d := tm q) rfl) (ev_int 0) rfl rfl
      have i1 : EV K (tOp (rIx K) (tVar 2) (tC (.int 1))) [.dat (polyD mg n l), .dat (.int n), .dat (tm q), .ptr 0, .dat (.int 1), .un, .un] [.dt []] (.dat (rt q.2)) [.dt []] := ev_ix (l := [.dat (.key q.1), .dat (rt q.2)]) (ev_vd (d := tm q) rfl) (ev_int 1) rfl rfl
      refine sd_seq (M := fun e w => e = [.dat (polyD mg n l), .dat (.int n), .dat (tm q), .ptr 0, .dat (.int 1), .un, .un] ∧ w = [.dt []]) (sd_if (b := false) (et_is (et_or (a := false) (b := false) (et_is (et_not (et_truB (ev_isTuple (ev_vd (d := tm q) rfl) rfl))) rfl) fun _ => et_or (a := false) (b := false) (et_test (ev_is (ev_neI (ev_len (l := [.dat (.key q.1), .dat (rt q.2)]) (ev_vd (d := tm q) rfl) rfl) (ev_int 2)) rfl)) fun _ => et_is (et_not (et_truB (ev_callD (d := .bl true) (l := [.tup [.key q.1], .int 1, .int n]) (ea_cons (ev_tup (l := [.key q.1]) (ea_cons i0 ea_nil) (by simp)) (ea_cons (ev_int 1) (ea_cons (ev_vd rfl) ea_nil))) (fun vs H Q h => ⟨q.1, n, hk.1, hn, h⟩)))) rfl) rfl) (fun hb => by cases hb) (fun _ => sd_next ⟨rfl, rfl⟩)) ?_
      rintro e w ⟨rfl, rfl⟩
      refine sd_seq (M := fun e w => e = [.dat (polyD mg n l), .dat (.int n), .dat (tm q), .ptr 0, .dat (.int 1), .un, .un] ∧ w = [.dt []]) (sd_if (b := false) (et_is (et_not (et_truB (ev_callD (d := .bl true) (l := [rt q.2]) (ea_cons i1 ea_nil) (fun vs H Q h => ⟨q.2, h⟩)))) rfl) (fun hb => by cases hb) (fun _ => sd_next ⟨rfl, rfl⟩)) ?_
      rintro e w ⟨rfl, rfl⟩
      refine sd_of (sd_asg (e := .dat (.int 1)) (ev_is (ev_fdiv (ev_mulI (ev_vd rfl) (ev_r1 (n := q.2) i1) (Sm.one.mul Sm.one)) (ev_is (ev_callD (d := .int (Int.gcd 1 1)) (l := [.int 1, .int 1]) (ea_cons (ev_vd rfl) (ea_cons (ev_r1 (n := q.2) i1) ea_nil)) (fun vs H Q h => ⟨1, 1, Nat.one_lt_two_pow (by decide), h⟩)) (by rw [g1]; try rfl)) ⟨by decide, by decide⟩) rfl)) ⟨_, rfl, rfl⟩
    · rintro e w ⟨x2, rfl, rfl⟩
      exact ⟨x2, rfl, rfl⟩
  rintro e w ⟨x2, rfl, rfl⟩
  refine sd_seq (M := fun e w => ∃ x5 x6, e = [.dat (polyD mg n l), .dat (.int n), x2, .ptr 0, .dat (.int 1), x5, x6] ∧ w = [.dt (dI l)]) ?_ ?_
  · refine sd_for (ei_tup (l := l.map tm) (ev_terms T (n := n) (l := l) (ev_vd rfl))) (fun i e w => ∃ x5 x6, e = [.dat (polyD mg n l), .dat (.int n), x2, .ptr 0, .dat (.int 1), x5, x6] ∧ w = [.dt (dI (l.take i))]) ⟨.un, .un, rfl, rfl⟩ (fun _ _ _ _ => trivial) ?_ ?_
    · rintro i x e w hx ⟨x5, x6, rfl, rfl⟩
      rw [List.map_map] at hx
      obtain ⟨q, hq, hm, rfl⟩ := mem_map_get hx
      have hi : i < l.length := (List.getElem?_eq_some_iff.mp hq).1
      refine ⟨[5, 6], _, eg_tup2 (x := .key q.1) (y := rt q.2), ?_⟩
      have hnew : q.1 ∉ Pn.ks (l.take i) := fun z => by
        have e1 : l = l.take i ++ q :: l.drop (i + 1) := by
          have := List.drop_eq_getElem_cons hi
          rw [(List.getElem?_eq_some_iff.mp hq).2] at this
          rw [← this, List.take_append_drop]
        have nd' := nd
        rw [e1] at nd'
        unfold ND Pn.ks at nd'
        rw [List.map_append, List.nodup_append] at nd'
        exact nd'.2.2 _ z q.1 (by simp) rfl
      refine sd_of (sd_dputT (W1 := [.dt (dI (l.take i))]) (i := 0) (kvs := dI (l.take i)) (d := .int q.2) (k := q.1) (ev_is (ev_mulI (ev_r0 (n := q.2) (ev_vd rfl)) (ev_fdiv (ev_vd rfl) (ev_r1 (n := q.2) (ev_vd rfl)) ⟨by decide, by decide⟩) (by rw [show Int.fdiv 1 1 = 1 by decide]; exact (hsm q hm).mul Sm.one)) (by rw [show Int.fdiv 1 1 = 1 by decide, Int.mul_one])) (ev_vp rfl) (ev_vd rfl) rfl (by rw [dF_length, List.length_take]; omega)) ⟨_, _, rfl, ?_⟩
      show [Cn.dt (putT _ _ _)] = _
      rw [put_dI, putM_new hnew, take_succ' hq]
    · rintro e w ⟨x5, x6, rfl, rfl⟩
      refine ⟨x5, x6, rfl, ?_⟩
      rw [List.length_map, List.length_map, List.take_length]
  · rintro e w ⟨x5, x6, rfl, rfl⟩
    refine sd_frz (i := 0) (j := 3) (kvs := dI l) rfl rfl ?_
    rw [kd_dD]
    exact sd_ret (ev_tup (l := [dD l, .int 1]) (ea_cons (ev_vd rfl) (ea_cons (ev_vd rfl) ea_nil)) (by simp)) rfl
def spTQ (K : PySem.W.Frag) (mg : Str → Option Value) : Sp := fun vs H Q _ => ∃ (n : Nat) (B : Int) (p q : M), ND p ∧ ND q ∧ AB n B p ∧ AB n B q ∧ p.length ≤ 1000 ∧ q.length ≤ 1000 ∧ n ≤ 1000 ∧ (∀ x ∈ p, Sm x.2) ∧ (∀ x ∈ q, Sm x.2) ∧ q ≠ [] ∧
  spV K [.dat (quoD mg n p q), .dat (.int n)] [] (.dat (.tup [dD p, dD q])) [] vs H Q
theorem sc__law_told_quotient : FnScope N__law_told_quotient P__law_told_quotient (defScope s__law_told_quotient) := ⟨rfl, rfl, rfl, by decide +kernel, rfl, by decide +kernel, by decide +kernel⟩
theorem ok__law_told_quotient (T : Tx K mg) : Cal P w K mg base CX0 4 "_law_told_quotient" P__law_told_quotient (spTQ K mg) := by
  refine T.f__law_told_quotient.cal sc__law_told_quotient (fun vs H Q E h => by obtain ⟨_, _, _, _, _, _, _, _, _, _, _, _, _, _, h⟩ := h; exact h.len) (fun _ _ _ _ _ _ us hl => match us, hl with | [_, _], _ => rfl) fun f cdv A outer s H vs Q E hr h => ?_
  obtain ⟨n, B, p, q, np, nq, ap, aq, lp, lq, hn, sp, sq, hne, h⟩ := h
  refine ⟨_, (pss_cons (ps_if (PW.pt (pw_or (pt_not (pt_truth (pe_callB call_isi (by rfl) T.b_isinstance (by decide +kernel) (pa_cons (pv 0) (pa_cons (pe_glob (v := .ref (CQ mg)) (by rfl) T.cQ.g rfl) pa_nil))) (by intro _; rfl))) (pw_or1 (pt_cmpR (op_neA hr.units) (pe_fld (pv 0) rfl) (pv 1) (nomark _)))))
 (pss_one (ps_ret pe_non))
 pss_nil)
 (pss_cons (ps_asg (pe_tup (pa_cons (pe_cal (ok__law_told_poly T) (hr.mono (by decide)) rfl (pa_cons (pe_fld (pv 0) rfl) (pa_cons (pv 1) pa_nil))) (pa_cons (pe_cal (ok__law_told_poly T) (hr.mono (by decide)) rfl (pa_cons (pe_fld (pv 0) rfl) (pa_cons (pv 1) pa_nil))) pa_nil))) (pg_tup rfl (pgs_cons (pg_name (i := 2) sc__law_told_quotient.nd rfl (Or.inr rfl)) (pgs_cons (pg_name (i := 3) sc__law_told_quotient.nd rfl (Or.inr rfl)) pgs_nil))))
 (pss_cons (ps_if (PW.pt (pw_or (pt_cmpR op_isN (pv 2) pe_non (nomark _)) (pw_or (pt_cmpR op_isN (pv 3) pe_non (nomark _)) (pw_or1 (pt_cmpR (XC.op_eqEm (u64 hr)) (pe_ix ix_seq (pv 3) pe_int (fun _ _ => rfl)) pe_dnewT (nomark _))))))
 (pss_one (ps_ret pe_non))
 pss_nil)
 (pss_one (ps_ret (pe_tup (pa_cons (pe_callTy (XC.call_dictT rfl (u64 hr)) (by rfl) T.b_dict (by decide +kernel) (pa_cons (pe_lc (own := [("_law_key", 4)]) rfl sc__law_told_quotient.nd (pi_keys (pe_ix ix_seq (pv 2) pe_int (fun _ _ => rfl))) (blkOk_by (own := [("_law_key", 4)]) (N := N__law_told_quotient) (sc := defScope s__law_told_quotient) (by decide +kernel))
 (fun _ _ _ _ _ => (pg_name (i := 4) sc__law_told_quotient.nd rfl (Or.inl rfl))) (fun _ _ _ _ _ => pts_nil) (fun _ _ _ _ _ => (pe_tup (pa_cons (pv 4) (pa_cons (pe_op (show OpR _ (binaryOp .Mult) (rMulX K) from op_mulX) (pe_dget (by exact hu_of hr) (pe_ix (show IxR _ (rIx K) from ix_seq) (pv 2) pe_int (fun _ _ => rfl)) (pv 4) (fun _ _ => rfl)) (pe_ix (show IxR _ (rIx K) from ix_seq) (pv 3) pe_int (fun _ _ => rfl))) pa_nil))))) pa_nil)) (pa_cons (pe_callTy (XC.call_dictT rfl (u64 hr)) (by rfl) T.b_dict (by decide +kernel) (pa_cons (pe_lc (own := [("_law_key", 4)]) rfl sc__law_told_quotient.nd (pi_keys (pe_ix ix_seq (pv 3) pe_int (fun _ _ => rfl))) (blkOk_by (own := [("_law_key", 4)]) (N := N__law_told_quotient) (sc := defScope s__law_told_quotient) (by decide +kernel))
 (fun _ _ _ _ _ => (pg_name (i := 4) sc__law_told_quotient.nd rfl (Or.inl rfl))) (fun _ _ _ _ _ => pts_nil) (fun _ _ _ _ _ => (pe_tup (pa_cons (pv 4) (pa_cons (pe_op (show OpR _ (binaryOp .Mult) (rMulX K) from op_mulX) (pe_dget (by exact hu_of hr) (pe_ix (show IxR _ (rIx K) from ix_seq) (pv 3) pe_int (fun _ _ => rfl)) (pv 4) (fun _ _ => rfl)) (pe_ix (show IxR _ (rIx K) from ix_seq) (pv 2) pe_int (fun _ _ => rfl))) pa_nil))))) pa_nil)) pa_nil)))))))), fn_goD (l := [quoD mg n p q, .int n]) h ?_⟩
  show SD K _ [.dat (quoD mg n p q), .dat (.int n), .un, .un, .un] [] _
  refine sd_seq (M := fun e w => e = [.dat (quoD mg n p q), .dat (.int n), .un, .un, .un] ∧ w = []) (sd_if (b := false) (et_is (et_or (a := false) (b := false) (et_is (et_not (et_truB (ev_isiC (C := CQ mg) (ev_vd rfl) T.cQ.ins))) rfl) fun _ => et_is (et_test (ev_neI (ev_qsize T (n := n) (p := p) (q := q) (ev_vd rfl)) (ev_vd rfl))) (by simp)) rfl) (fun hb => by cases hb) (fun _ => sd_next ⟨rfl, rfl⟩)) ?_
  rintro e w ⟨rfl, rfl⟩
  refine sd_then (sd_asgG (ev_tup (l := [.tup [dD p, .int 1], .tup [dD q, .int 1]]) (ea_cons (ev_callD (l := [polyD mg n p, .int n]) (ea_cons (ev_qtop T (n := n) (p := p) (q := q) (ev_vd rfl)) (ea_cons (ev_vd rfl) ea_nil)) (fun vs H Q h => ⟨n, B, p, np, ap, lp, hn, sp, h⟩)) (ea_cons (ev_callD (l := [polyD mg n q, .int n]) (ea_cons (ev_qbot T (n := n) (p := p) (q := q) (ev_vd rfl)) (ea_cons (ev_vd rfl) ea_nil)) (fun vs H Q h => ⟨n, B, q, nq, aq, lq, hn, sq, h⟩)) ea_nil)) (by simp)) eg_tup2) ?_
  show SD K _ [.dat (quoD mg n p q), .dat (.int n), .dat (.tup [dD p, .int 1]), .dat (.tup [dD q, .int 1]), .un] [] _
  have hqe : (dI q).isEmpty = false := by cases q with
    | nil => exact absurd rfl hne
    | cons x r => rfl
  refine sd_seq (M := fun e w => e = [.dat (quoD mg n p q), .dat (.int n), .dat (.tup [dD p, .int 1]), .dat (.tup [dD q, .int 1]), .un] ∧ w = [.dt []]) (sd_if (b := false) (et_orF (et_test (ev_isN (d := .tup [dD p, .int 1]) (ev_vd rfl))) (et_orF (et_test (ev_isN (d := .tup [dD q, .int 1]) (ev_vd rfl))) (et_test (ev_is (ev_emT (kvs := dI q) (ev_ix (l := [.dat (dD q), .dat (.int 1)]) (e := .dat (dD q)) (ev_vd rfl) (ev_int 0) rfl rfl) (dicE_dD q)) (by rw [hqe]))))) (fun hb => by cases hb) (fun _ => sd_next ⟨rfl, rfl⟩)) ?_
  rintro e w ⟨rfl, rfl⟩
  have one : ∀ {x : M} {i j : Nat}, ND x → x.length ≤ 1000 → (∀ y ∈ x, Sm y.2) → (∀ z, ([.dat (quoD mg n p q), .dat (.int n), .dat (.tup [dD p, .int 1]), .dat (.tup [dD q, .int 1]), z] : List En)[i]? = some (.dat (.tup [dD x, .int 1]))) → (∃ y, ∀ z, ([.dat (quoD mg n p q), .dat (.int n), .dat (.tup [dD p, .int 1]), .dat (.tup [dD q, .int 1]), z] : List En)[j]? = some (.dat (.tup [dD y, .int 1]))) →
      EV K (tCB (XC.rDictT K) (tCons (tLc (iKeys (tOp (rIx K) (tVar i) (tC (.int 0)))) (gName 4) tYes (tTup (tCons (tVar 4) (tCons (tOp (rMulX K) (tDGet (tOp (rIx K) (tVar i) (tC (.int 0))) (tVar 4)) (tOp (rIx K) (tVar j) (tC (.int 1)))) tNil))) [4]) tNil)) [.dat (quoD mg n p q), .dat (.int n), .dat (.tup [dD p, .int 1]), .dat (.tup [dD q, .int 1]), .un] [.dt []] (.dat (dD x)) [.dt []] := fun {x i j} nx lx sx hi hj => by
    obtain ⟨y, hj⟩ := hj
    refine ev_is (ev_dictT (l := dI x) (e1 := .dat (.lst (x.map tmI))) (ev_lcM (m := x) (f := tmI) (js := [4]) (ei_dD (m := x) (ev_ix (l := [.dat (dD x), .dat (.int 1)]) (ev_vd (hi _)) (ev_int 0) rfl rfl)) (by omega) trivial (by simp) fun r hr => ⟨_, eg_name, ?_⟩) (tmI_pairs _)) (by rw [merge_nd nx, kd_dD])
    exact ev_tup (l := [.key r.1, .int r.2]) (ea_cons (ev_vd rfl) (ea_cons (ev_is (ev_mulI (ev_dgetT (k := r.1) (kvs := dI x) (ev_ix (l := [.dat (dD x), .dat (.int 1)]) (ev_vd (hi _)) (ev_int 0) rfl rfl) (ev_vd rfl) (dicE_dD x) (look_in nx hr)) (ev_ix (l := [.dat (dD y), .dat (.int 1)]) (e := .dat (.int 1)) (ev_vd (hj _)) (ev_int 1) rfl rfl) ((sx r hr).mul Sm.one)) (by rw [Int.mul_one])) ea_nil)) (by simp)
  exact sd_ret (ev_tup (l := [dD p, dD q]) (ea_cons (one (i := 2) (j := 3) np lp sp (fun z => rfl) ⟨q, fun z => rfl⟩) (ea_cons (one (i := 3) (j := 2) nq lq sq (fun z => rfl) ⟨p, fun z => rfl⟩) ea_nil)) (by simp)) rfl
end
end K77
namespace K77
open PySem PySem.Spec PyProof.Rows L2 AS Pn
local macro_rules | `(tactic| walk_at "ev") => `(tactic| first
  | exact ev_vd rfl
  | exact ev_vp rfl
  | exact ev_int _
  | exact ev_non
  | exact ev_bl _
  | exact ev_str _
  | assumption
  | (apply ev_addI <;> walk_at "ev")
  | (apply ev_sub <;> walk_at "ev")
  | (apply ev_neg; walk_at "ev")
  | (apply ev_abs; walk_at "ev")
  | (apply ev_intA; walk_at "ev")
  | (apply ev_lt <;> walk_at "ev")
  | (apply ev_le <;> walk_at "ev")
  | (apply ev_gt <;> walk_at "ev")
  | (apply ev_ge <;> walk_at "ev")
  | (apply ev_eqI <;> walk_at "ev")
  | (apply ev_neI <;> walk_at "ev")
  | (apply ev_isN; walk_at "ev")
  | (apply ev_notN; walk_at "ev")
  | (apply ev_isi (by walk_at "ev") rfl; rfl)
  | skip)
local macro_rules | `(tactic| walk_at "ea") => `(tactic| first
  | exact ea_nil
  | (apply ea_cons; walk_at "ev"; walk_at "ea"))
local macro_rules | `(tactic| walk_at "call") => `(tactic| (first
  | exact (fun vs H Q h => ⟨_, h⟩)
  | exact (fun vs H Q h => ⟨_, _, h⟩)
  | exact (fun vs H Q h => ⟨_, _, _, h⟩)))

theorem PD.mono {n N N' : Nat} {E E' C C' : Int} {a : M} (h : PD n E C N a) (hE : E ≤ E') (hC : C ≤ C') (hN : N ≤ N') : PD n E' C' N' a :=
  ⟨h.nd, h.nz, fun q hq => ⟨(h.ab q hq).1, fun x hx => by have := (h.ab q hq).2 x hx; omega⟩, fun q hq => by have := h.co q hq; omega, Nat.le_trans h.len hN⟩
theorem ks_mem {m : M} {k : List Int} (h : k ∈ Pn.ks m) : ∃ q ∈ m, q.1 = k := by
  obtain ⟨q, hq, e⟩ := List.mem_map.mp h
  exact ⟨q, hq, e⟩
/-- one entry more -/
theorem PD.put {n N : Nat} {E C : Int} {a : M} {k : List Int} {c : Int} (h : PD n E C N a) (hk : BK n E k) (hc : c ≠ 0) (hC : c.natAbs ≤ C) : PD n E C (N + 1) (putM a k c) ∧ putM a k c ≠ [] := by
  have mem : ∀ q ∈ putM a k c, (q.1 = k ∧ q.2 = c) ∨ q ∈ a := fun q hq => by
    by_cases hin : k ∈ Pn.ks a
    · rw [putM_old hin] at hq
      obtain ⟨r, hr, e⟩ := List.mem_map.mp hq
      by_cases he : r.1 = k
      · rw [if_pos he] at e; subst e; exact .inl ⟨he, rfl⟩
      · rw [if_neg he] at e; subst e; exact .inr hr
    · rw [putM_new hin] at hq
      rcases List.mem_append.mp hq with z | z
      · exact .inr z
      · simp at z; subst z; exact .inl ⟨rfl, rfl⟩
  refine ⟨⟨h.nd.put, fun q hq => ?_, fun q hq => ?_, fun q hq => ?_, ?_⟩, fun e => ?_⟩
  · rcases mem q hq with ⟨_, z⟩ | z
    · rw [z]; exact hc
    · exact h.nz q z
  · rcases mem q hq with ⟨z, _⟩ | z
    · rw [z]; exact hk
    · exact h.ab q z
  · rcases mem q hq with ⟨_, z⟩ | z
    · rw [z]; exact hC
    · exact h.co q z
  · have := len_put (m := a) (k := k) (v := c)
    have := h.len
    omega
  · have h1 := cf_put (m := a) (k := k) (k' := k) (v := c) h.nd
    rw [e, if_pos rfl] at h1
    exact hc h1.symm
theorem PD.nil (n : Nat) (E C : Int) : PD n E C 0 [] := ⟨ND.nil, fun q hq => by simp at hq, fun q hq => by simp at hq, fun q hq => by simp at hq, Nat.le_refl _⟩
def boxN : Nat → List (List Int)
  | 0 => [[]]
  | n + 1 => (boxN n).flatMap fun row => (List.range 4).map fun (o : Nat) => row ++ [(o : Int)]
theorem boxN_len (n : Nat) : (boxN n).length = 4 ^ n := by
  induction n with
  | zero => rfl
  | succ n ih =>
    show ((boxN n).flatMap _).length = _
    rw [List.length_flatMap]
    have : (List.map (fun a => (List.map (fun (o : Nat) => a ++ [(o : Int)]) (List.range 4)).length) (boxN n)) = (boxN n).map fun _ => 4 := List.map_congr_left fun a _ => by simp
    rw [this, List.map_const', List.sum_replicate_nat, ih, Nat.pow_succ]
theorem boxN_bk : ∀ n, ∀ k ∈ boxN n, BK n 4 k
  | 0, k, h => by simp [boxN] at h; subst h; exact ⟨rfl, fun x hx => by simp at hx⟩
  | n + 1, k, h => by
    obtain ⟨row, hr, h⟩ := List.mem_flatMap.mp h
    obtain ⟨o, ho, rfl⟩ := List.mem_map.mp h
    have ih := boxN_bk n row hr
    have ho := List.mem_range.mp ho
    refine ⟨by simp [ih.1], fun x hx => ?_⟩
    rcases List.mem_append.mp hx with z | z
    · exact ih.2 x z
    · simp at z; omega
theorem boxN_all : ∀ n (k : List Int), BK n 4 k → k ∈ boxN n
  | 0, k, h => by have := List.length_eq_zero_iff.mp h.1; subst this; simp [boxN]
  | n + 1, k, h => by
    have hne : k ≠ [] := fun e => by subst e; have := h.1; simp at this
    have e := List.dropLast_concat_getLast hne
    have hl := h.2 (k.getLast hne) (List.getLast_mem hne)
    refine List.mem_flatMap.mpr ⟨k.dropLast, boxN_all n _ ⟨by rw [List.length_dropLast, h.1]; rfl, fun x hx => h.2 x ((List.dropLast_sublist k).subset hx)⟩, List.mem_map.mpr ⟨(k.getLast hne).toNat, List.mem_range.mpr (by omega), ?_⟩⟩
    rw [show (((k.getLast hne).toNat : Nat) : Int) = k.getLast hne by omega]
    exact e
section
variable {P : Program} {w : World} {K : PySem.W.Frag} {mg : Str → Option Value} {base : Heap}
/-- a pick, told by what holds of it -/
theorem evp_pick {E : XK} {tA : TA} {es : List En} {W R : List Cn} {n : Nat} {p : Pen} {l : List D} (ha : EA K tA es W [.ptr 0, .dat (.lst l)] (p.cn :: R)) (hp : PenOk n p) (hn : n < 2 ^ 40) (h0 : 0 < l.length) (h1 : l.length < 2 ^ 40) :
    EVp K (tCall (spPick K) [] E tA) es W fun e w => ∃ d ∈ l, e = .dat d ∧ ∃ q : Pen, w = q.cn :: R ∧ PenOk (n + 1) q := by
  obtain ⟨d, h2, h3⟩ := pick_get (p := p) (l := l) h0
  exact EV.q (ev_pick ha hp hn h0 h1 h2) ⟨d, h3, rfl, _, rfl, hp.draw (by omega)⟩
def spBox (K : PySem.W.Frag) : Sp := fun vs H Q _ => ∃ n : Nat, n ≤ 3 ∧ spV K [.dat (.int n), .dat (.int 3)] [] (.dat (.lst ((boxN n).map D.key))) [] vs H Q
theorem sc__law_box : FnScope N__law_box P__law_box (defScope s__law_box) := ⟨rfl, rfl, rfl, by decide +kernel, rfl, by decide +kernel, by decide +kernel⟩
theorem ok__law_box (T : Tx K mg) : Cal P w K mg base CX0 1 "_law_box" P__law_box (spBox K) := by
  refine T.f__law_box.cal sc__law_box (fun vs H Q E h => by obtain ⟨_, _, h⟩ := h; exact h.len) (fun _ _ _ _ _ _ us hl => match us, hl with | [_, _], _ => rfl) fun f cdv A outer s H vs Q E hr h => ?_
  obtain ⟨n, hn, h⟩ := h
  refine ⟨_, (pss_cons (ps_set (i := 2) sc__law_box.nd rfl (Or.inl rfl) (pe_lst (pa_cons (pe_tup pa_nil) pa_nil)))
 (pss_cons (ps_for PassesOwn.never rfl (pi_range1 rfl T.b_range (pa_cons (pv 0) pa_nil)) (pg_name (i := 3) sc__law_box.nd rfl (Or.inl rfl))
 (pss_cons (ps_set (i := 4) sc__law_box.nd rfl (Or.inl rfl) (pe_lst pa_nil))
 (pss_cons (ps_for PassesOwn.never rfl (pi_seq (pi_list (pv 2)) (pi_tup (pv 2))) (pg_name (i := 5) sc__law_box.nd rfl (Or.inr rfl))
 (pss_one (ps_set (i := 4) sc__law_box.nd rfl (Or.inl rfl) (pe_op (op_addX) (pv 4) (pe_lc (own := [("_law_one", 6)]) rfl sc__law_box.nd (pi_range1 rfl T.b_range (pa_cons (pe_op (op_addX) (pv 1) pe_int) pa_nil)) (blkOk_by (own := [("_law_one", 6)]) (N := N__law_box) (sc := defScope s__law_box) (by decide +kernel))
 (fun _ _ _ _ _ => (pg_name (i := 6) sc__law_box.nd rfl (Or.inl rfl))) (fun _ _ _ _ _ => pts_nil) (fun _ _ _ _ _ => (pe_op (show OpR _ (binaryOp .Add) (rAddX K) from (op_addX)) (pv 5) (pe_tup (pa_cons (pv 6) pa_nil)))))))))
 (pss_one (ps_set (i := 2) sc__law_box.nd rfl (Or.inl rfl) (pv 4))))))
 (pss_one (ps_ret (pv 2))))), fn_goD (l := [.int n, .int 3]) h ?_⟩
  show SD K _ [.dat (.int n), .dat (.int 3), .un, .un, .un, .un, .un] [] _
  refine sd_then (sd_asg (ev_lst (l := [.key []]) (ea_cons (ev_tupK (l := []) ea_nil (by simp)) ea_nil) (by simp))) ?_
  have hrg := ei_rng1 (K := K) (n := (n : Int)) (ta := tCons (tVar 0) tNil) (es := [.dat (.int n), .dat (.int 3), .dat (.lst [.key []]), .un, .un, .un, .un]) (W := []) (ea_cons (ev_vd rfl) ea_nil) (by omega)
  have blen : ∀ j, j ≤ 3 → (boxN j).length ≤ 64 := fun j hj => by
    rw [boxN_len]
    exact Nat.le_trans (Nat.pow_le_pow_right (by decide) hj) (by decide)
  refine sd_seq (M := fun e w => ∃ x3 x4 x5, e = [.dat (.int n), .dat (.int 3), .dat (.lst ((boxN n).map D.key)), x3, x4, x5, .un] ∧ w = []) ?_ ?_
  · refine sd_for hrg (fun i e w => ∃ x3 x4 x5, e = [.dat (.int n), .dat (.int 3), .dat (.lst ((boxN i).map D.key)), x3, x4, x5, .un] ∧ w = []) ⟨.un, .un, .un, rfl, rfl⟩ (fun _ _ _ _ => trivial) ?_ ?_
    · rintro i x e w hx ⟨x3, x4, x5, rfl, rfl⟩
      obtain ⟨hi, rfl⟩ := rngE_of hx
      have hi : i < n := by omega
      have hbl := blen i (by omega)
      refine ⟨[3], _, eg_name, ?_⟩
      refine sd_then (sd_asg (ev_lst (l := []) ea_nil (by simp))) ?_
      refine sd_seq (M := fun e w => ∃ x5, e = [.dat (.int n), .dat (.int 3), .dat (.lst ((boxN i).map D.key)), .dat (.int (0 + (i : Int))), .dat (.lst ((boxN (i + 1)).map D.key)), x5, .un] ∧ w = []) ?_ ?_
      · refine sd_for (ei_lst (l := (boxN i).map D.key) (ev_vd rfl)) (fun j e w => ∃ x5, e = [.dat (.int n), .dat (.int 3), .dat (.lst ((boxN i).map D.key)), .dat (.int (0 + (i : Int))), .dat (.lst ((((boxN i).take j).flatMap fun row => (List.range 4).map fun (o : Nat) => row ++ [(o : Int)]).map D.key)), x5, .un] ∧ w = []) ⟨x5, rfl, rfl⟩ (fun _ _ _ _ => trivial) ?_ ?_
        · rintro j x e w hx ⟨x5, rfl, rfl⟩
          rw [List.map_map] at hx
          obtain ⟨k, hk, hkm, rfl⟩ := mem_map_get hx
          have hkb := boxN_bk i k hkm
          refine ⟨[5], _, eg_name, ?_⟩
          generalize hA : ((boxN i).take j).flatMap (fun row => (List.range 4).map fun (o : Nat) => row ++ [(o : Int)]) = A0
          have hA0 : A0.length ≤ 4 * 64 := by
            rw [← hA, List.length_flatMap]
            have : (List.map (fun a => (List.map (fun (o : Nat) => a ++ [(o : Int)]) (List.range 4)).length) ((boxN i).take j)) = ((boxN i).take j).map fun _ => 4 := List.map_congr_left fun a _ => by simp
            rw [this, List.map_const', List.sum_replicate_nat, List.length_take]
            omega
          have hr4 := ei_rng1 (K := K) (n := (4 : Int)) (ta := tCons (tOp (rAddX K) (tVar 1) (tC (.int 1))) tNil) (es := [.dat (.int n), .dat (.int 3), .dat (.lst ((boxN i).map D.key)), .dat (.int (0 + (i : Int))), .dat (.lst (A0.map D.key)), .dat (.key k), .un]) (W := []) (ea_cons (ev_is (ev_addI (a := 3) (b := 1) (ev_vd rfl) (ev_int 1)) rfl) ea_nil) (by decide)
          refine sd_of (sd_asg (e := .dat (.lst (A0.map D.key ++ ((List.range 4).map fun (o : Nat) => D.key (k ++ [(o : Int)]))))) (ev_cat (l := A0.map D.key) (m := (List.range 4).map fun (o : Nat) => D.key (k ++ [(o : Int)])) (ev_vd rfl) (ev_lcM (m := List.range 4) (f := fun (o : Nat) => D.key (k ++ [(o : Int)])) (js := [6]) hr4 (by simp) trivial (by simp) fun o ho => ⟨_, eg_name, ev_is (ev_catK (l := k) (m := [0 + (o : Int)]) (ev_vd rfl) (ev_tupK (l := [0 + (o : Int)]) (ea_cons (ev_vd rfl) ea_nil) (by simp)) (by have := hkb.1; simp; omega)) (by rw [Int.zero_add])⟩) rfl rfl (by simp; omega))) ⟨.dat (.key k), ?_, rfl⟩
          rw [take_succ' hk, List.flatMap_append, hA]
          simp
        · rintro e w ⟨x5, rfl, rfl⟩
          refine ⟨x5, ?_, rfl⟩
          rw [List.length_map, List.length_map, List.take_length]; rfl
      · rintro e w ⟨x5, rfl, rfl⟩
        exact sd_of (sd_asg (ev_vd (i := 4) rfl)) ⟨_, _, _, rfl, rfl⟩
    · rintro e w ⟨x3, x4, x5, rfl, rfl⟩
      refine ⟨x3, x4, x5, ?_, rfl⟩
      rw [rngE_length, show ((n : Int)).toNat = n by omega]
  · rintro e w ⟨x3, x4, x5, rfl, rfl⟩
    exact sd_ret (ev_vd rfl) rfl
def spPDr (K : PySem.W.Frag) : Sp := fun vs H Q _ => ∃ (n0 : Nat) (p : Pen) (n many most : Nat), PenOk n0 p ∧ n0 < 2 ^ 39 ∧ n ≤ 3 ∧ 1 ≤ many ∧ many ≤ 3 ∧ 1 ≤ most ∧ most ≤ 2 ∧
  spP K [.ptr 0, .dat (.int n), .dat (.int many), .dat (.int most)] [p.cn] (fun e w => ∃ (m : M) (q : Pen), e = .dat (dD m) ∧ w = [q.cn] ∧ PenOk (n0 + 40) q ∧ PD n 3 50 many m ∧ m ≠ []) vs H Q
theorem sc__law_poly_drawn : FnScope N__law_poly_drawn P__law_poly_drawn (defScope s__law_poly_drawn) := ⟨rfl, rfl, rfl, by decide +kernel, rfl, by decide +kernel, by decide +kernel⟩
theorem ok__law_poly_drawn (T : Tx K mg) : Cal P w K mg base CX0 3 "_law_poly_drawn" P__law_poly_drawn (spPDr K) := by
  refine T.f__law_poly_drawn.cal sc__law_poly_drawn (fun vs H Q E h => by obtain ⟨_, _, _, _, _, _, _, _, _, _, _, _, h⟩ := h; exact h.len) (fun _ _ _ _ _ _ us hl => match us, hl with | [_, _, _, _], _ => rfl) fun f cdv A outer s H vs Q E hr h => ?_
  obtain ⟨n0, p, n, many, most, hp, hn0, hn, hm1, hm2, ho1, ho2, h⟩ := h
  refine ⟨_, (pss_cons (ps_set (i := 4) sc__law_poly_drawn.nd rfl (Or.inl rfl) pe_dnewT)
 (pss_cons (ps_for PassesOwn.never rfl (pi_range1 rfl T.b_range (pa_cons (pe_op (op_addX) pe_int (pe_cal (ok__law_draw T) (hr.mono (by decide)) rfl (pa_cons (pv 0) (pa_cons (pv 2) pa_nil)))) pa_nil)) (pg_name (i := 5) sc__law_poly_drawn.nd rfl (Or.inl rfl))
 (pss_cons (ps_set (i := 6) sc__law_poly_drawn.nd rfl (Or.inl rfl) (pe_callTy call_tuple_of (by rfl) T.b_tuple (by decide +kernel) (pa_cons (pe_lc (own := [("_law_j", 7)]) rfl sc__law_poly_drawn.nd (pi_range1 rfl T.b_range (pa_cons (pv 1) pa_nil)) (blkOk_by (own := [("_law_j", 7)]) (N := N__law_poly_drawn) (sc := defScope s__law_poly_drawn) (by decide +kernel))
 (fun _ _ _ _ _ => (pg_name (i := 7) sc__law_poly_drawn.nd rfl (Or.inl rfl))) (fun _ _ _ _ _ => pts_nil) (fun _ _ _ _ _ => (pe_cal (ok__law_pick T) (hr.mono (by decide)) rfl (pa_cons (pv 0) (pa_cons (pe_lst (pa_cons pe_int (pa_cons pe_int (pa_cons pe_int (pa_cons (pe_cal (ok__law_draw T) (hr.mono (by decide)) rfl (pa_cons (pv 0) (pa_cons (pe_op (show OpR _ (binaryOp .Add) (rAddX K) from (op_addX)) (pv 3) pe_int) pa_nil))) pa_nil))))) pa_nil))))) pa_nil)))
 (pss_one (ps_dput (hu_of hr) (pv 4) (pv 6) (pe_cal (ok__law_pick T) (hr.mono (by decide)) rfl (pa_cons (pv 0) (pa_cons (pe_lst (pa_cons pe_int (pa_cons pe_int (pa_cons (pe_un un_neg pe_int) (pa_cons pe_int (pa_cons (pe_un un_neg pe_int) (pa_cons (pe_op (op_addX) pe_int (pe_cal (ok__law_draw T) (hr.mono (by decide)) rfl (pa_cons (pv 0) (pa_cons pe_int pa_nil)))) pa_nil))))))) pa_nil))) rfl))))
 (pss_one (ps_frz (ps_ret (pv 4)))))), fn_goP h (fun r w ⟨m, q, h1, h2, _⟩ => by subst h1 h2; exact ⟨trivial, rfl, fun c hc => by simp at hc; subst hc; exact Pen.cl _ _⟩) ?_⟩
  show SD K _ [.ptr 0, .dat (.int n), .dat (.int many), .dat (.int most), .un, .un, .un, .un] [p.cn] _
  refine sd_then (sd_asg ev_dnewT) ?_
  show SD K _ [.ptr 0, .dat (.int n), .dat (.int many), .dat (.int most), .ptr 1, .un, .un, .un] [p.cn, .dt []] _
  have hdr := draw_range p (m := (many : Int)) (by omega)
  have hp1 := hp.draw (m := (many : Int)) (by omega)
  have hrg := ei_rng1 (K := K) (n := 1 + (draw p many).1) (ta := tCons (tOp (rAddX K) (tC (.int 1)) (tCall (spDraw K) [] E0 (tCons (tVar 0) (tCons (tVar 2) tNil)))) tNil) (es := [.ptr 0, .dat (.int n), .dat (.int many), .dat (.int most), .ptr 1, .un, .un, .un]) (W := [p.cn, .dt []]) (W1 := [(draw p many).2.cn, .dt []]) (ea_cons (ev_addI (ev_int 1) (ev_draw (R := [.dt []]) (ea_cons (ev_vp rfl) (ea_cons (ev_vd rfl) ea_nil)) hp (by omega) (by omega) (by omega))) ea_nil) (by omega)
  have hlen : (rngE 0 (1 + (draw p many).1).toNat).length = (1 + (draw p many).1).toNat := rngE_length _ _
  refine sd_seq (M := fun e w => ∃ x5 x6 m q, e = [.ptr 0, .dat (.int n), .dat (.int many), .dat (.int most), .ptr 1, x5, x6, .un] ∧ w = [q.cn, .dt (dI m)] ∧ PenOk (n0 + 40) q ∧ PD n 3 50 many m ∧ m ≠ []) ?_ ?_
  · refine sd_for hrg (fun i e w => ∃ x5 x6 m q, e = [.ptr 0, .dat (.int n), .dat (.int many), .dat (.int most), .ptr 1, x5, x6, .un] ∧ w = [q.cn, .dt (dI m)] ∧ PenOk (n0 + 1 + i * 10) q ∧ PD n 3 50 i m ∧ (0 < i → m ≠ [])) ⟨.un, .un, [], _, rfl, rfl, by simpa using hp1, PD.nil _ _ _, fun hi => absurd hi (by omega)⟩ (fun _ _ _ _ => trivial) ?_ ?_
    · rintro i x e w hx ⟨x5, x6, m, q, rfl, rfl, hq, hm, _⟩
      obtain ⟨hi, rfl⟩ := rngE_of hx
      have hi : i < 3 := by omega
      refine ⟨[5], _, eg_name, ?_⟩
      have hrn := ei_rng1 (K := K) (n := (n : Int)) (ta := tCons (tVar 1) tNil) (es := [.ptr 0, .dat (.int n), .dat (.int many), .dat (.int most), .ptr 1, .dat (.int (0 + (i : Int))), x6, .un]) (W := [q.cn, .dt (dI m)]) (ea_cons (ev_vd rfl) ea_nil) (by omega)
      rw [show ((n : Int)).toNat = n by omega] at hrn
      refine sd_asgP (evp_tupleK (Rl := fun l w => ∃ q' : Pen, w = [q'.cn, .dt (dI m)] ∧ PenOk (n0 + 1 + i * 10 + 2 * n) q' ∧ BK n 3 l) (EVp.imp (evp_lc (te := tCall (spPick K) [] E0 (tCons (tVar 0) (tCons (tLst (tCons (tC (.int 0)) (tCons (tC (.int 0)) (tCons (tC (.int 1)) (tCons (tCall (spDraw K) [] E0 (tCons (tVar 0) (tCons (tOp (rAddX K) (tVar 3) (tC (.int 1))) tNil))) tNil))))) tNil))) (vs := [7]) (js := [7]) hrn (fun j w acc => ∃ (l : List Int) (q' : Pen), acc = l.map D.int ∧ w = [q'.cn, .dt (dI m)] ∧ PenOk (n0 + 1 + i * 10 + 2 * j) q' ∧ BK j 3 l) ⟨[], q, rfl, rfl, by simpa using hq, ⟨rfl, fun x hx => by simp at hx⟩⟩ (by rw [rngE_length]; omega) (fun _ _ _ _ => trivial) (by simp) ?_) (fun e w ⟨acc, he, l, q', h1, h2, h3, h4⟩ => ⟨l, by rw [he, h1], q', h2, by rw [rngE_length] at h3; exact h3, by rw [rngE_length] at h4; exact h4⟩))) ?_
      · rintro j x w acc hx ⟨l, q', rfl, rfl, hq', hl⟩
        obtain ⟨hj, rfl⟩ := rngE_of hx
        have hd1 := draw_range q' (m := (most : Int) + 1) (by omega)
        refine ⟨_, _, eg_name, et_yes, EVp.imp (evp_pick (R := [.dt (dI m)]) (n := n0 + 1 + i * 10 + 2 * j + 1) (p := (draw q' ((most : Int) + 1)).2) (l := [.int 0, .int 0, .int 1, .int (draw q' ((most : Int) + 1)).1]) (ea_cons (ev_vp rfl) (ea_cons (ev_lst (l := [.int 0, .int 0, .int 1, .int (draw q' ((most : Int) + 1)).1]) (ea_cons (ev_int 0) (ea_cons (ev_int 0) (ea_cons (ev_int 1) (ea_cons (ev_draw (R := [.dt (dI m)]) (ea_cons (ev_vp rfl) (ea_cons (ev_addI (ev_vd rfl) (ev_int 1)) ea_nil)) hq' (by omega) (by omega) (by omega)) ea_nil)))) (by simp)) ea_nil)) (hq'.draw (by omega)) (by omega) (by simp) (by simp)) ?_⟩
        rintro e w ⟨d, hd, rfl, q2, rfl, hq2⟩
        have : ∃ z : Int, d = .int z ∧ 0 ≤ z ∧ z < 3 := by
          simp at hd
          rcases hd with rfl | rfl | rfl
          · exact ⟨0, rfl, by decide, by decide⟩
          · exact ⟨1, rfl, by decide, by decide⟩
          · exact ⟨_, rfl, by omega, by omega⟩
        obtain ⟨z, rfl, hz⟩ := this
        refine ⟨_, rfl, l ++ [z], q2, by simp, rfl, hq2.mono (by omega), ⟨by simp [hl.1], fun x hx => ?_⟩⟩
        rcases List.mem_append.mp hx with y | y
        · exact hl.2 x y
        · simp at y; subst y; exact hz
      · rintro e w ⟨k, rfl, q', rfl, hq', hk⟩
        have hd1 := draw_range q' (m := 50) (by decide)
        have hp3 := hq'.draw (m := 50) (by decide)
        obtain ⟨d, h2, h3⟩ := pick_get (p := (draw q' 50).2) (l := [.int 1, .int 1, .int (-1), .int 2, .int (-3), .int (1 + (draw q' 50).1)]) (by simp)
        have : ∃ z : Int, d = .int z ∧ z ≠ 0 ∧ (z.natAbs : Int) ≤ 50 := by
          simp at h3
          rcases h3 with rfl | rfl | rfl | rfl | rfl
          · exact ⟨1, rfl, by decide, by decide⟩
          · exact ⟨-1, rfl, by decide, by decide⟩
          · exact ⟨2, rfl, by decide, by decide⟩
          · exact ⟨-3, rfl, by decide, by decide⟩
          · exact ⟨_, rfl, by omega, by omega⟩
        obtain ⟨z, rfl, hz0, hz1⟩ := this
        obtain ⟨hput, hne⟩ := PD.put hm hk hz0 hz1
        refine sd_of (sd_dputT (i := 1) (kvs := dI m) (d := .int z) (k := k) (W1 := [(draw (draw q' 50).2 6).2.cn, .dt (dI m)]) (ev_pick (R := [.dt (dI m)]) (l := [.int 1, .int 1, .int (-1), .int 2, .int (-3), .int (1 + (draw q' 50).1)]) (ea_cons (ev_vp rfl) (ea_cons (ev_lst (l := [.int 1, .int 1, .int (-1), .int 2, .int (-3), .int (1 + (draw q' 50).1)]) (ea_cons (ev_int 1) (ea_cons (ev_int 1) (ea_cons (ev_neg (ev_int 1)) (ea_cons (ev_int 2) (ea_cons (ev_neg (ev_int 3)) (ea_cons (ev_addI (ev_int 1) (ev_draw (R := [.dt (dI m)]) (ea_cons (ev_vp rfl) (ea_cons (ev_int 50) ea_nil)) hq' (by omega) (by decide) (by decide))) ea_nil)))))) (by simp)) ea_nil)) hp3 (by omega) (by simp) (by simp) h2) (ev_vp rfl) (ev_vd rfl) rfl (by have := hm.len; rw [dF_length]; omega)) ⟨_, _, putM m k z, _, rfl, ?_, (hp3.draw (m := 6) (by decide)).mono (by omega), hput, fun _ => hne⟩
        show [_, Cn.dt (putT _ _ _)] = _
        rw [put_dI]
    · rintro e w ⟨x5, x6, m, q, rfl, rfl, hq, hm, hne⟩
      rw [hlen] at hq hm hne
      exact ⟨x5, x6, m, q, rfl, rfl, hq.mono (by omega), PD.mono hm (by decide) (by decide) (by omega), hne (by omega)⟩
  · rintro e w ⟨x5, x6, m, q, rfl, rfl, hq, hm, hne⟩
    refine sd_frz (i := 1) (j := 4) (kvs := dI m) rfl rfl ?_
    rw [kd_dD]
    exact sd_ret (ev_vd rfl) ⟨m, q, rfl, rfl, hq, hm, hne⟩
end
end K77
namespace K77
open PySem PySem.Spec PyProof.Rows L2 AS Pn
local macro_rules | `(tactic| walk_at "ev") => `(tactic| first
  | exact ev_vd rfl
  | exact ev_vp rfl
  | exact ev_int _
  | exact ev_non
  | exact ev_bl _
  | exact ev_str _
  | assumption
  | (apply ev_addI <;> walk_at "ev")
  | (apply ev_sub <;> walk_at "ev")
  | (apply ev_neg; walk_at "ev")
  | (apply ev_abs; walk_at "ev")
  | (apply ev_intA; walk_at "ev")
  | (apply ev_lt <;> walk_at "ev")
  | (apply ev_le <;> walk_at "ev")
  | (apply ev_gt <;> walk_at "ev")
  | (apply ev_ge <;> walk_at "ev")
  | (apply ev_eqI <;> walk_at "ev")
  | (apply ev_neI <;> walk_at "ev")
  | (apply ev_isN; walk_at "ev")
  | (apply ev_notN; walk_at "ev")
  | (apply ev_isi (by walk_at "ev") rfl; rfl)
  | skip)
local macro_rules | `(tactic| walk_at "ea") => `(tactic| first
  | exact ea_nil
  | (apply ea_cons; walk_at "ev"; walk_at "ea"))
local macro_rules | `(tactic| walk_at "call") => `(tactic| (first
  | exact (fun vs H Q h => ⟨_, h⟩)
  | exact (fun vs H Q h => ⟨_, _, h⟩)
  | exact (fun vs H Q h => ⟨_, _, _, h⟩)))

theorem pys_ints : ∀ a : List Int, D.pys (a.map D.int) = some (a.map PyData.int)
  | [] => rfl
  | x :: a => by
    show D.pys (.int x :: a.map D.int) = _
    unfold D.pys
    rw [pys_ints a]; rfl
theorem eqv_ints : ∀ a b : List Int, PyData.eqvAll (a.map PyData.int) (b.map PyData.int) = decide (a = b)
  | [], [] => rfl
  | [], _ :: _ => by simp [PyData.eqvAll]
  | _ :: _, [] => by simp [PyData.eqvAll]
  | x :: a, y :: b => by
    show (PyData.eqv (.int x) (.int y) && PyData.eqvAll (a.map PyData.int) (b.map PyData.int)) = _
    rw [eqv_ints a b]
    have : PyData.eqv (.int x) (.int y) = (x == y) := by simp [PyData.eqv]
    rw [this]
    by_cases h : x = y
    · subst h; simp
    · simp [h]
theorem ev_eqLI {K : PySem.W.Frag} {es : List En} {W W1 W2 : List Cn} {ta tb : TE} {e1 e2 : En} {a b : List Int} (ha : EV K ta es W e1 W1) (hb : EV K tb es W1 e2 W2) (h1 : LstE W2 e1 = some ((a.map D.int).map .dat)) (h2 : LstE W2 e2 = some ((b.map D.int).map .dat)) :
    EV K (tOp (rEqA K) ta tb) es W (.dat (.bl (decide (a = b)))) W2 := by
  have fl : ∀ x : List Int, (x.map D.int).all (D.flat 9) = true := fun x => by simp [D.flat]
  obtain ⟨p, p1, p2⟩ := flat_list (fl a)
  obtain ⟨q, q1, q2⟩ := flat_list (fl b)
  have e := pys_ints a
  have e' := pys_ints b
  rw [p1] at e; rw [q1] at e'
  cases e; cases e'
  exact ev_is (ev_eqL ha hb h1 h2 p1 q1 p2 q2) (by rw [eqv_ints])
def wsD (rows : List (List Int)) : D := .lst (rows.map fun r => .lst (r.map D.int))
def WsOk (rows : List (List Int)) : Prop := rows.length ≤ 2 ∧ ∀ r ∈ rows, r.length ≤ 3 ∧ ∀ x ∈ r, Sm x
section
variable {P : Program} {w : World} {K : PySem.W.Frag} {mg : Str → Option Value} {base : Heap}
def spWs (K : PySem.W.Frag) : Sp := fun vs H Q _ => ∃ (n0 : Nat) (p : Pen) (n : Nat), PenOk n0 p ∧ n0 < 2 ^ 39 ∧ n ≤ 3 ∧
  spP K [.ptr 0, .dat (.int n)] [p.cn] (fun e w => ∃ (rows : List (List Int)) (q : Pen), e = .dat (wsD rows) ∧ w = [q.cn] ∧ PenOk (n0 + 10) q ∧ WsOk rows) vs H Q
theorem sc__law_weights : FnScope N__law_weights P__law_weights (defScope s__law_weights) := ⟨rfl, rfl, rfl, by decide +kernel, rfl, by decide +kernel, by decide +kernel⟩
theorem ok__law_weights (T : Tx K mg) : Cal P w K mg base CX0 3 "_law_weights" P__law_weights (spWs K) := by
  refine T.f__law_weights.cal sc__law_weights (fun vs H Q E h => by obtain ⟨_, _, _, _, _, _, h⟩ := h; exact h.len) (fun _ _ _ _ _ _ us hl => match us, hl with | [_, _], _ => rfl) fun f cdv A outer s H vs Q E hr h => ?_
  obtain ⟨n0, p, n, hp, hn0, hn, h⟩ := h
  refine ⟨_, (pss_one (ps_ret (pe_lc (own := [("_law_lap", 2)]) rfl sc__law_weights.nd (pi_range1 rfl T.b_range (pa_cons (pe_cal (ok__law_pick T) (hr.mono (by decide)) rfl (pa_cons (pv 0) (pa_cons (pe_lst (pa_cons pe_int (pa_cons pe_int (pa_cons pe_int (pa_cons pe_int pa_nil))))) pa_nil))) pa_nil)) (blkOk_by (own := [("_law_lap", 2)]) (N := N__law_weights) (sc := defScope s__law_weights) (by decide +kernel))
 (fun _ _ _ _ _ => (pg_name (i := 2) sc__law_weights.nd rfl (Or.inl rfl))) (fun _ _ _ _ _ => pts_nil) (fun _ _ _ _ _ => (pe_lc (own := [("_law_j", 3)]) rfl sc__law_weights.nd (pi_range1 rfl T.b_range (pa_cons (pv 1) pa_nil)) (blkOk_by (own := [("_law_j", 3)]) (N := N__law_weights) (sc := { kind := .function, names := [(".0", .local), ("_law_lap", .local), ("range", .globalImplicit), ("_law_pen_here", .cell), ("_law_size", .cell)], isGenerator := false, isCoroutine := false }) (by decide +kernel))
 (fun _ _ _ _ _ => (pg_name (i := 3) sc__law_weights.nd rfl (Or.inl rfl))) (fun _ _ _ _ _ => pts_nil) (fun _ _ _ _ _ => (pe_op op_sub (pe_cal (ok__law_draw T) (hr.mono (by decide)) rfl (pa_cons (pv 0) (pa_cons pe_int pa_nil))) pe_int))))))), fn_goP h (fun r w ⟨m, q, h1, h2, _⟩ => by subst h1 h2; exact ⟨trivial, rfl, fun c hc => by simp at hc; subst hc; exact Pen.cl _ _⟩) ?_⟩
  show SD K _ [.ptr 0, .dat (.int n), .un, .un] [p.cn] _
  obtain ⟨d, h2, h3⟩ := pick_get (p := p) (l := [.int 0, .int 1, .int 1, .int 2]) (by simp)
  have hp1 := hp.draw (m := 4) (by decide)
  have hd : ∃ k : Nat, d = .int k ∧ k ≤ 2 := by
    simp at h3
    rcases h3 with rfl | rfl | rfl
    · exact ⟨0, rfl, by decide⟩
    · exact ⟨1, rfl, by decide⟩
    · exact ⟨2, rfl, by decide⟩
  obtain ⟨k, rfl, hk⟩ := hd
  have hrg := ei_rng1 (K := K) (n := (k : Int)) (ta := tCons (tCall (spPick K) [] E0 (tCons (tVar 0) (tCons (tLst (tCons (tC (.int 0)) (tCons (tC (.int 1)) (tCons (tC (.int 1)) (tCons (tC (.int 2)) tNil))))) tNil))) tNil) (es := [.ptr 0, .dat (.int n), .un, .un]) (W := [p.cn]) (W1 := [(draw p 4).2.cn]) (ea_cons (ev_pick (R := []) (ea_cons (ev_vp rfl) (ea_cons (ev_lst (l := [.int 0, .int 1, .int 1, .int 2]) (ea_cons (ev_int 0) (ea_cons (ev_int 1) (ea_cons (ev_int 1) (ea_cons (ev_int 2) ea_nil)))) (by simp)) ea_nil)) hp (by omega) (by simp) (by simp) h2) ea_nil) (by omega)
  rw [show ((k : Int)).toNat = k by omega] at hrg
  refine sd_retP (evp_lc (vs := [2]) (js := [2]) hrg (fun i w acc => ∃ (rows : List (List Int)) (q : Pen), acc = rows.map (fun r => .lst (r.map D.int)) ∧ w = [q.cn] ∧ PenOk (n0 + 1 + 3 * i) q ∧ rows.length = i ∧ ∀ r ∈ rows, r.length ≤ 3 ∧ ∀ x ∈ r, Sm x) ⟨[], _, rfl, rfl, by simpa using hp1, rfl, fun r hr => by simp at hr⟩ (by rw [rngE_length]; omega) (fun _ _ _ _ => trivial) (by simp) ?_) ?_
  · rintro i x w acc hx ⟨rows, q, rfl, rfl, hq, hl, hrs⟩
    obtain ⟨hi, rfl⟩ := rngE_of hx
    have hrn := ei_rng1 (K := K) (n := (n : Int)) (ta := tCons (tVar 1) tNil) (es := [.ptr 0, .dat (.int n), .dat (.int (0 + (i : Int))), .un]) (W := [q.cn]) (ea_cons (ev_vd rfl) ea_nil) (by omega)
    rw [show ((n : Int)).toNat = n by omega] at hrn
    refine ⟨_, _, eg_name, et_yes, EVp.imp (evp_lc (vs := [3]) (js := [3]) hrn (fun j w acc => ∃ (xs : List Int) (q' : Pen), acc = xs.map D.int ∧ w = [q'.cn] ∧ PenOk (n0 + 1 + 3 * i + j) q' ∧ xs.length = j ∧ ∀ x ∈ xs, Sm x) ⟨[], q, rfl, rfl, by simpa using hq, rfl, fun x hx => by simp at hx⟩ (by rw [rngE_length]; omega) (fun _ _ _ _ => trivial) (by simp) ?_) ?_⟩
    · rintro j x w acc hx ⟨xs, q', rfl, rfl, hq', hxl, hxs⟩
      obtain ⟨hj, rfl⟩ := rngE_of hx
      have hd1 := draw_range q' (m := 5) (by decide)
      refine ⟨_, _, eg_name, et_yes, EV.q (ev_sub (ev_draw (R := []) (ea_cons (ev_vp rfl) (ea_cons (ev_int 5) ea_nil)) hq' (by omega) (by decide) (by decide)) (ev_int 2)) ⟨_, rfl, xs ++ [(draw q' 5).1 - 2], _, by simp, rfl, hq'.draw (by decide), by simp [hxl], fun x hx => ?_⟩⟩
      rcases List.mem_append.mp hx with y | y
      · exact hxs x y
      · simp at y; subst y
        exact Sm.of (C := 10) (by omega) (by decide)
    · rintro e w ⟨acc, rfl, xs, q', rfl, rfl, hq', hxl, hxs⟩
      rw [rngE_length] at hq' hxl
      refine ⟨_, rfl, rows ++ [xs], q', by simp, rfl, hq'.mono (by omega), by simp [hl], fun r hr => ?_⟩
      rcases List.mem_append.mp hr with y | y
      · exact hrs r y
      · simp at y; subst y; exact ⟨by omega, hxs⟩
  · rintro e w ⟨acc, rfl, rows, q, rfl, rfl, hq, hl, hrs⟩
    rw [rngE_length] at hq hl
    exact ⟨rows, q, rfl, rfl, hq.mono (by omega), by omega, hrs⟩
def spLk (K : PySem.W.Frag) : Sp := fun vs H Q _ => ∃ (n0 : Nat) (p : Pen) (n many : Nat) (rows : List (List Int)), PenOk n0 p ∧ n0 < 2 ^ 39 ∧ n ≤ 3 ∧ 1 ≤ many ∧ many ≤ 3 ∧ WsOk rows ∧
  spP K [.ptr 0, .dat (.int n), .dat (wsD rows), .dat (.int many)] [p.cn] (fun e w => ∃ (m : M) (q : Pen), e = .dat (dD m) ∧ w = [q.cn] ∧ PenOk (n0 + 40) q ∧ PD n 4 5 many m ∧ m ≠ []) vs H Q
theorem BK.sm {n : Nat} {E : Int} {k : List Int} (h : BK n E k) (hE : E ≤ 1000) : ∀ x ∈ k, Sm x := fun x hx => Sm.of (C := 1000) (by have := h.2 x hx; omega) (by decide)
theorem sc__law_like : FnScope N__law_like P__law_like (defScope s__law_like) := ⟨rfl, rfl, rfl, by decide +kernel, rfl, by decide +kernel, by decide +kernel⟩
theorem ok__law_like (T : Tx K mg) : Cal P w K mg base CX0 3 "_law_like" P__law_like (spLk K) := by
  refine T.f__law_like.cal sc__law_like (fun vs H Q E h => by obtain ⟨_, _, _, _, _, _, _, _, _, _, _, h⟩ := h; exact h.len) (fun _ _ _ _ _ _ us hl => match us, hl with | [_, _, _, _], _ => rfl) fun f cdv A outer s H vs Q E hr h => ?_
  obtain ⟨n0, p, n, many, rows, hp, hn0, hn, hm1, hm2, hw, h⟩ := h
  refine ⟨_, (pss_cons (ps_set (i := 4) sc__law_like.nd rfl (Or.inr rfl) (pe_callTy call_tuple_of (by rfl) T.b_tuple (by decide +kernel) (pa_cons (pe_lc (own := [("_law_j", 11)]) rfl sc__law_like.nd (pi_range1 rfl T.b_range (pa_cons (pv 1) pa_nil)) (blkOk_by (own := [("_law_j", 11)]) (N := N__law_like) (sc := defScope s__law_like) (by decide +kernel))
 (fun _ _ _ _ _ => (pg_name (i := 11) sc__law_like.nd rfl (Or.inl rfl))) (fun _ _ _ _ _ => pts_nil) (fun _ _ _ _ _ => (pe_cal (ok__law_draw T) (hr.mono (by decide)) rfl (pa_cons (pv 0) (pa_cons pe_int pa_nil))))) pa_nil)))
 (pss_cons (ps_set (i := 5) sc__law_like.nd rfl (Or.inr rfl) (pe_lc (own := [("_law_row", 9)]) rfl sc__law_like.nd (pi_seq (pi_list (pv 2)) (pi_tup (pv 2))) (blkOk_by (own := [("_law_row", 9)]) (N := N__law_like) (sc := defScope s__law_like) (by decide +kernel))
 (fun _ _ _ _ _ => (pg_name (i := 9) sc__law_like.nd rfl (Or.inl rfl))) (fun _ _ _ _ _ => pts_nil) (fun _ _ _ _ _ => (pe_cal (ok__law_inner T) (hr.mono (by decide)) rfl (pa_cons (pv 9) (pa_cons (pv 4) pa_nil))))))
 (pss_cons (ps_setLc (i := 6) (own := [("_law_key", 10)]) rfl sc__law_like.nd rfl rfl (sw_true rfl rfl rfl (by decide +kernel)) (pi_seq (pi_list (pe_cal (ok__law_box T) (hr.mono (by decide)) rfl (pa_cons (pv 1) (pa_cons pe_int pa_nil)))) (pi_tup (pe_cal (ok__law_box T) (hr.mono (by decide)) rfl (pa_cons (pv 1) (pa_cons pe_int pa_nil))))) (blkOk_by (own := [("_law_key", 10)]) (N := N__law_like) (sc := defScope s__law_like) (by decide +kernel))
 (fun _ _ _ _ _ => (pg_name (i := 10) sc__law_like.nd rfl (Or.inr rfl))) (fun _ _ _ _ _ => (pts_one (pt_cmpR (show OpR _ (compareOp .Eq) (rEqA K) from (op_eqA hr.units)) (pe_lc (own := [("_law_row", 9)]) rfl sc__law_like.nd (show PI _ _ _ (iSeq K _) from (pi_seq (pi_list (pv 2)) (pi_tup (pv 2)))) (blkOk_by (own := [("_law_row", 9)]) (N := N__law_like) (sc := { kind := .function, names := [(".0", .local), ("_law_key", .cell), ("_law_due", .cell), ("_law_weights_here", .cell)], isGenerator := false, isCoroutine := false }) (by decide +kernel))
 (fun _ _ _ _ _ => (pg_name (i := 9) sc__law_like.nd rfl (Or.inl rfl))) (fun _ _ _ _ _ => pts_nil) (fun _ _ _ _ _ => (pe_cal (ok__law_inner T) (hr.mono (by decide)) rfl (pa_cons (pv 9) (pa_cons (pv 10) pa_nil))))) (pv 5) (nomark _)))) (fun _ _ _ _ _ => (pv 10)))
 (pss_cons (ps_set (i := 7) sc__law_like.nd rfl (Or.inl rfl) (XC.pe_dispT (u64 hr) (pps_cons (pv 4) (pe_cal (ok__law_pick T) (hr.mono (by decide)) rfl (pa_cons (pv 0) (pa_cons (pe_lst (pa_cons pe_int (pa_cons (pe_un un_neg pe_int) (pa_cons pe_int (pa_cons pe_int pa_nil))))) pa_nil))) pps_nil) (by rfl) (by rfl) (fun z => by cases z) (by decide)))
 (pss_cons (ps_for PassesOwn.never rfl (pi_range1 rfl T.b_range (pa_cons (pe_cal (ok__law_draw T) (hr.mono (by decide)) rfl (pa_cons (pv 0) (pa_cons (pv 3) pa_nil))) pa_nil)) (pg_name (i := 8) sc__law_like.nd rfl (Or.inl rfl))
 (pss_one (ps_dput (hu_of hr) (pv 7) (pe_cal (ok__law_pick T) (hr.mono (by decide)) rfl (pa_cons (pv 0) (pa_cons (pv 6) pa_nil))) (pe_cal (ok__law_pick T) (hr.mono (by decide)) rfl (pa_cons (pv 0) (pa_cons (pe_lst (pa_cons pe_int (pa_cons (pe_un un_neg pe_int) (pa_cons pe_int (pa_cons (pe_un un_neg pe_int) pa_nil))))) pa_nil))) rfl)))
 (pss_one (ps_frz (ps_ret (pv 7))))))))), fn_goP h (fun r w ⟨m, q, h1, h2, _⟩ => by subst h1 h2; exact ⟨trivial, rfl, fun c hc => by simp at hc; subst hc; exact Pen.cl _ _⟩) ?_⟩
  show SD K _ [.ptr 0, .dat (.int n), .dat (wsD rows), .dat (.int many), .un, .un, .un, .un, .un, .un, .un, .un] [p.cn] _
  have hrn := ei_rng1 (K := K) (n := (n : Int)) (ta := tCons (tVar 1) tNil) (es := [.ptr 0, .dat (.int n), .dat (wsD rows), .dat (.int many), .un, .un, .un, .un, .un, .un, .un, .un]) (W := [p.cn]) (ea_cons (ev_vd rfl) ea_nil) (by omega)
  rw [show ((n : Int)).toNat = n by omega] at hrn
  refine sd_asgP (evp_tupleK (Rl := fun l w => ∃ q' : Pen, w = [q'.cn] ∧ PenOk (n0 + n) q' ∧ BK n 3 l) (EVp.imp (evp_lc (te := tCall (spDraw K) [] E0 (tCons (tVar 0) (tCons (tC (.int 3)) tNil))) (vs := [11]) (js := [11]) hrn (fun j w acc => ∃ (l : List Int) (q' : Pen), acc = l.map D.int ∧ w = [q'.cn] ∧ PenOk (n0 + j) q' ∧ BK j 3 l) ⟨[], p, rfl, rfl, by simpa using hp, ⟨rfl, fun x hx => by simp at hx⟩⟩ (by rw [rngE_length]; omega) (fun _ _ _ _ => trivial) (by simp) ?_) (fun e w ⟨acc, he, l, q', h1, h2, h3, h4⟩ => ⟨l, by rw [he, h1], q', h2, by rw [rngE_length] at h3; exact h3, by rw [rngE_length] at h4; exact h4⟩))) ?_
  · rintro j x w acc hx ⟨l, q', rfl, rfl, hq', hl⟩
    obtain ⟨hj, rfl⟩ := rngE_of hx
    have hd1 := draw_range q' (m := 3) (by decide)
    refine ⟨_, _, eg_name, et_yes, EV.q (ev_draw (R := []) (ea_cons (ev_vp rfl) (ea_cons (ev_int 3) ea_nil)) hq' (by omega) (by decide) (by decide)) ⟨_, rfl, l ++ [(draw q' 3).1], _, by simp, rfl, hq'.draw (by decide), ⟨by simp [hl.1], fun x hx => ?_⟩⟩⟩
    rcases List.mem_append.mp hx with y | y
    · exact hl.2 x y
    · simp at y; subst y; exact hd1
  rintro e w ⟨k0, rfl, q1, rfl, hq1, hk0⟩
  have hk4 : BK n 4 k0 := ⟨hk0.1, fun x hx => by have := hk0.2 x hx; omega⟩
  obtain ⟨hwl, hws⟩ := hw
  obtain ⟨due, hdue⟩ : ∃ due : List Int → List Int, due = fun k => rows.map fun r => inn r k := ⟨_, rfl⟩
  have hinn : ∀ {es : List En} {W : List Cn} {i j : Nat} {r k : List Int} {B : Int}, r ∈ rows → BK n B k → B ≤ 1000 → es[i]? = some (.dat (.lst (r.map D.int))) → es[j]? = some (.dat (.key k)) → EV K (tCall (spLI K) [] E0 (tCons (tVar i) (tCons (tVar j) tNil))) es W (.dat (.int (inn r k))) W := fun {es W i j r k B} hr hk hB h1 h2 =>
    ev_callD (l := [.lst (r.map D.int), .key k]) (ea_cons (ev_vd h1) (ea_cons (ev_vd h2) ea_nil)) (fun vs H Q h => ⟨_, _, r, k, rfl, rfl, (hws r hr).2, BK.sm hk hB, by have := (hws r hr).1; omega, h⟩)
  have hwr : ∀ {es : List En} {W : List Cn}, es[2]? = some (.dat (wsD rows)) → EI K (iSeq K (tVar 2)) es W (rows.map fun r => En.dat (.lst (r.map D.int))) (fun _ => True) W := fun {es W} h2 => by
    have z := ei_lst (K := K) (l := rows.map fun (r : List Int) => D.lst (r.map D.int)) (tl := tVar 2) (es := es) (W := W) (ev_vd h2)
    rw [List.map_map] at z
    exact z
  refine sd_then (sd_asg (e := .dat (.lst ((due k0).map D.int))) (ev_is (ev_lcM (m := rows) (f := fun r => .int (inn r k0)) (js := [9]) (hwr rfl) (by omega) trivial (by simp) fun r hr => ⟨_, eg_name, hinn hr hk0 (by decide) rfl rfl⟩) (by rw [hdue]; show En.dat (.lst (rows.map _)) = .dat (.lst ((rows.map _).map D.int)); rw [List.map_map]; rfl))) ?_
  have hbx := ei_lst (K := K) (l := (boxN n).map D.key) (tl := tCall (spBox K) [] E0 (tCons (tVar 1) (tCons (tC (.int 3)) tNil))) (es := [.ptr 0, .dat (.int n), .dat (wsD rows), .dat (.int many), .dat (.key k0), .dat (.lst ((due k0).map D.int)), .un, .un, .un, .un, .un, .un]) (W := [q1.cn]) (ev_callD (l := [.int n, .int 3]) (ea_cons (ev_vd rfl) (ea_cons (ev_int 3) ea_nil)) (fun vs H Q h => ⟨n, hn, h⟩))
  rw [List.map_map] at hbx
  have blen : (boxN n).length ≤ 64 := by rw [boxN_len]; exact Nat.le_trans (Nat.pow_le_pow_right (by decide) hn) (by decide)
  refine sd_then (sd_asg (e := .dat (.lst ((boxN n).filterMap fun k => if due k = due k0 then some (.key k) else none))) (ev_lcF (m := boxN n) (f := fun k => if due k = due k0 then some (.key k) else none) (js := [10]) hbx (by omega) trivial (by simp) fun k hk => ?_)) ?_
  · have hkb := boxN_bk n k hk
    have htest : ET K (tTest (tOp (rEqA K) (tLc (iSeq K (tVar 2)) (gName 9) tYes (tCall (spLI K) [] E0 (tCons (tVar 9) (tCons (tVar 10) tNil))) [9]) (tVar 5))) [.ptr 0, .dat (.int n), .dat (wsD rows), .dat (.int many), .dat (.key k0), .dat (.lst ((due k0).map D.int)), .un, .un, .un, .un, .dat (.key k), .un] [q1.cn] (decide (due k = due k0)) [q1.cn] :=
      et_test (ev_eqLI (e1 := .dat (.lst ((due k).map D.int))) (a := due k) (b := due k0) (ev_is (ev_lcM (m := rows) (f := fun r => .int (inn r k)) (js := [9]) (hwr rfl) (by omega) trivial (by simp) fun r hr => ⟨_, eg_name, hinn hr hkb (by decide) rfl rfl⟩) (by rw [hdue]; show En.dat (.lst (rows.map _)) = .dat (.lst ((rows.map _).map D.int)); rw [List.map_map]; rfl)) (ev_vd rfl) rfl rfl)
    refine ⟨_, eg_name, ?_⟩
    by_cases he : due k = due k0
    · exact .inl ⟨_, if_pos he, et_is htest (by simp [he]), ev_vd rfl⟩
    · exact .inr ⟨if_neg he, et_is htest (by simp [he])⟩
  generalize hks : (boxN n).filterMap (fun k => if due k = due k0 then some (D.key k) else none) = keys
  have kmem : ∀ d ∈ keys, ∃ k, d = .key k ∧ BK n 4 k := fun d hd => by
    rw [← hks] at hd
    obtain ⟨k, hk, e⟩ := List.mem_filterMap.mp hd
    split at e
    · cases e; exact ⟨k, rfl, boxN_bk n k hk⟩
    · cases e
  have kpos : 0 < keys.length := by
    have : D.key k0 ∈ keys := by
      rw [← hks]
      exact List.mem_filterMap.mpr ⟨k0, boxN_all n k0 hk4, if_pos rfl⟩
    exact List.length_pos_of_mem this
  have klen : keys.length ≤ 64 := by rw [← hks]; exact Nat.le_trans (List.length_filterMap_le _ _) blen
  obtain ⟨d1, g1, g2⟩ := pick_get (p := q1) (l := [.int 1, .int (-1), .int 2, .int 3]) (by simp)
  have hd1 : ∃ z : Int, d1 = .int z ∧ z ≠ 0 ∧ (z.natAbs : Int) ≤ 5 := by
    simp at g2
    rcases g2 with rfl | rfl | rfl | rfl
    · exact ⟨1, rfl, by decide, by decide⟩
    · exact ⟨-1, rfl, by decide, by decide⟩
    · exact ⟨2, rfl, by decide, by decide⟩
    · exact ⟨3, rfl, by decide, by decide⟩
  obtain ⟨z1, rfl, hz1, hz2⟩ := hd1
  have hq2 := hq1.draw (m := 4) (by decide)
  refine sd_then (sd_asg (ev_dispT (l := [(k0, .int z1)]) (W1 := [(draw q1 4).2.cn]) (ept_cons (ev_vd rfl) (ev_pick (R := []) (l := [.int 1, .int (-1), .int 2, .int 3]) (ea_cons (ev_vp rfl) (ea_cons (ev_lst (l := [.int 1, .int (-1), .int 2, .int 3]) (ea_cons (ev_int 1) (ea_cons (ev_neg (ev_int 1)) (ea_cons (ev_int 2) (ea_cons (ev_int 3) ea_nil)))) (by simp)) ea_nil)) hq1 (by omega) (by simp) (by simp) g1) ept_nil) (by simp))) ?_
  show SD K _ [.ptr 0, .dat (.int n), .dat (wsD rows), .dat (.int many), .dat (.key k0), .dat (.lst ((due k0).map D.int)), .dat (.lst keys), .ptr 1, .un, .un, .un, .un] [(draw q1 4).2.cn, .dt (dI [(k0, z1)])] _
  generalize hq : (draw q1 4).2 = q at hq2
  have hdr := draw_range q (m := (many : Int)) (by omega)
  have hq3 := hq2.draw (m := (many : Int)) (by omega)
  have hrg := ei_rng1 (K := K) (n := (draw q many).1) (ta := tCons (tCall (spDraw K) [] E0 (tCons (tVar 0) (tCons (tVar 3) tNil))) tNil) (es := [.ptr 0, .dat (.int n), .dat (wsD rows), .dat (.int many), .dat (.key k0), .dat (.lst ((due k0).map D.int)), .dat (.lst keys), .ptr 1, .un, .un, .un, .un]) (W := [q.cn, .dt (dI [(k0, z1)])]) (W1 := [(draw q many).2.cn, .dt (dI [(k0, z1)])]) (ea_cons (ev_draw (R := [.dt (dI [(k0, z1)])]) (ea_cons (ev_vp rfl) (ea_cons (ev_vd rfl) ea_nil)) hq2 (by omega) (by omega) (by omega)) ea_nil) (by omega)
  have pd0 := PD.put (PD.nil n 4 5) hk4 hz1 hz2
  refine sd_seq (M := fun e w => ∃ x8 m q, e = [.ptr 0, .dat (.int n), .dat (wsD rows), .dat (.int many), .dat (.key k0), .dat (.lst ((due k0).map D.int)), .dat (.lst keys), .ptr 1, x8, .un, .un, .un] ∧ w = [q.cn, .dt (dI m)] ∧ PenOk (n0 + 40) q ∧ PD n 4 5 many m ∧ m ≠ []) ?_ ?_
  · refine sd_for hrg (fun i e w => ∃ x8 m q, e = [.ptr 0, .dat (.int n), .dat (wsD rows), .dat (.int many), .dat (.key k0), .dat (.lst ((due k0).map D.int)), .dat (.lst keys), .ptr 1, x8, .un, .un, .un] ∧ w = [q.cn, .dt (dI m)] ∧ PenOk (n0 + n + 1 + 1 + 2 * i) q ∧ PD n 4 5 (i + 1) m ∧ m ≠ []) ⟨.un, [(k0, z1)], _, rfl, rfl, hq3.mono (by omega), PD.mono pd0.1 (by decide) (by decide) (by omega), by simp⟩ (fun _ _ _ _ => trivial) ?_ ?_
    · rintro i x e w hx ⟨x8, m, q', rfl, rfl, hq', hm, _⟩
      obtain ⟨hi, rfl⟩ := rngE_of hx
      have hi : i < 3 := by omega
      refine ⟨[8], _, eg_name, ?_⟩
      obtain ⟨d2, g3, g4⟩ := pick_get (p := q') (l := [.int 1, .int (-1), .int 2, .int (-5)]) (by simp)
      have hd2 : ∃ z : Int, d2 = .int z ∧ z ≠ 0 ∧ (z.natAbs : Int) ≤ 5 := by
        simp at g4
        rcases g4 with rfl | rfl | rfl | rfl
        · exact ⟨1, rfl, by decide, by decide⟩
        · exact ⟨-1, rfl, by decide, by decide⟩
        · exact ⟨2, rfl, by decide, by decide⟩
        · exact ⟨-5, rfl, by decide, by decide⟩
      obtain ⟨z, rfl, hz0, hz5⟩ := hd2
      have hq5 := hq'.draw (m := 4) (by decide)
      obtain ⟨d3, g5, g6⟩ := pick_get (p := (draw q' 4).2) (l := keys) kpos
      obtain ⟨k, rfl, hk⟩ := kmem d3 g6
      obtain ⟨hput, hne⟩ := PD.put hm hk hz0 hz5
      refine sd_of (sd_dputT (i := 1) (kvs := dI m) (d := .int z) (k := k) (W1 := [(draw q' 4).2.cn, .dt (dI m)]) (W3 := [(draw (draw q' 4).2 keys.length).2.cn, .dt (dI m)]) (ev_pick (R := [.dt (dI m)]) (l := [.int 1, .int (-1), .int 2, .int (-5)]) (ea_cons (ev_vp rfl) (ea_cons (ev_lst (l := [.int 1, .int (-1), .int 2, .int (-5)]) (ea_cons (ev_int 1) (ea_cons (ev_neg (ev_int 1)) (ea_cons (ev_int 2) (ea_cons (ev_neg (ev_int 5)) ea_nil)))) (by simp)) ea_nil)) hq' (by omega) (by simp) (by simp) g3) (ev_vp rfl) (ev_pick (R := [.dt (dI m)]) (l := keys) (ea_cons (ev_vp rfl) (ea_cons (ev_vd rfl) ea_nil)) hq5 (by omega) kpos (by omega) g5) rfl (by have := hm.len; rw [dF_length]; omega)) ⟨_, putM m k z, _, rfl, ?_, (hq5.draw (m := (keys.length : Int)) (by omega)).mono (by omega), hput, hne⟩
      show [_, Cn.dt (putT _ _ _)] = _
      rw [put_dI]
    · rintro e w ⟨x8, m, q', rfl, rfl, hq', hm, hne⟩
      rw [rngE_length] at hq' hm
      exact ⟨x8, m, q', rfl, rfl, hq'.mono (by omega), PD.mono hm (by decide) (by decide) (by omega), hne⟩
  · rintro e w ⟨x8, m, q', rfl, rfl, hq', hm, hne⟩
    refine sd_frz (i := 1) (j := 7) (kvs := dI m) rfl rfl ?_
    rw [kd_dD]
    exact sd_ret (ev_vd rfl) ⟨m, q', rfl, rfl, hq', hm, hne⟩
end
end K77
namespace K77
open PySem PySem.Spec PyProof.Rows L2 AS Pn
local macro_rules | `(tactic| walk_at "ev") => `(tactic| first
  | exact ev_vd rfl
  | exact ev_vp rfl
  | exact ev_int _
  | exact ev_non
  | exact ev_bl _
  | exact ev_str _
  | assumption
  | (apply ev_addI <;> walk_at "ev")
  | (apply ev_sub <;> walk_at "ev")
  | (apply ev_neg; walk_at "ev")
  | (apply ev_abs; walk_at "ev")
  | (apply ev_intA; walk_at "ev")
  | (apply ev_lt <;> walk_at "ev")
  | (apply ev_le <;> walk_at "ev")
  | (apply ev_gt <;> walk_at "ev")
  | (apply ev_ge <;> walk_at "ev")
  | (apply ev_eqI <;> walk_at "ev")
  | (apply ev_neI <;> walk_at "ev")
  | (apply ev_isN; walk_at "ev")
  | (apply ev_notN; walk_at "ev")
  | (apply ev_isi (by walk_at "ev") rfl; rfl)
  | skip)
local macro_rules | `(tactic| walk_at "ea") => `(tactic| first
  | exact ea_nil
  | (apply ea_cons; walk_at "ev"; walk_at "ea"))
local macro_rules | `(tactic| walk_at "call") => `(tactic| (first
  | exact (fun vs H Q h => ⟨_, h⟩)
  | exact (fun vs H Q h => ⟨_, _, h⟩)
  | exact (fun vs H Q h => ⟨_, _, _, h⟩)))

structure QOk (n : Nat) (a b : M) : Prop where
  pa : PD n 7 1500 6 a
  pb : PD n 7 1500 6 b
  na : a ≠ []
  nb : b ≠ []
section
variable {P : Program} {w : World} {K : PySem.W.Frag} {mg : Str → Option Value} {base : Heap} {E : XK} {tA : TA} {es : List En} {W R : List Cn} {n0 n : Nat} {p : Pen}
theorem pen_args {l : List D} : ∀ e ∈ (En.ptr 0 :: l.map En.dat), ClE [p.cn].length e := fun e he => by
  rcases List.mem_cons.mp he with rfl | he
  · exact (by decide : 0 < 1)
  · obtain ⟨d, _, rfl⟩ := List.mem_map.mp he; trivial
theorem pen_cl : ∀ c ∈ [p.cn], ClC [p.cn].length c := fun c hc => by simp at hc; subst hc; exact Pen.cl _ _
theorem evp_ws (ha : EA K tA es W [.ptr 0, .dat (.int n)] (p.cn :: R)) (hp : PenOk n0 p) (hn0 : n0 < 2 ^ 39) (hn : n ≤ 3) :
    EVp K (tCall (spWs K) [] E tA) es W fun e w => ∃ (rows : List (List Int)) (q : Pen), e = .dat (wsD rows) ∧ w = q.cn :: R ∧ PenOk (n0 + 10) q ∧ WsOk rows :=
  EVp.imp (evp_call (cW := [p.cn]) (R := R) (post := fun e w => ∃ (rows : List (List Int)) (q : Pen), e = .dat (wsD rows) ∧ w = [q.cn] ∧ PenOk (n0 + 10) q ∧ WsOk rows) ha (fun vs H Q h => ⟨n0, p, n, hp, hn0, hn, h⟩) (fun r w ⟨_, _, _, h, _⟩ => by rw [h]; rfl) (pen_args (l := [.int n])) pen_cl) fun e w ⟨w', ⟨rows, q, h1, h2, h3, h4⟩, h5⟩ => ⟨rows, q, h1, by rw [h5, h2]; rfl, h3, h4⟩
theorem evp_pd {many most : Nat} (ha : EA K tA es W [.ptr 0, .dat (.int n), .dat (.int many), .dat (.int most)] (p.cn :: R)) (hp : PenOk n0 p) (hn0 : n0 < 2 ^ 39) (hn : n ≤ 3) (h1 : 1 ≤ many) (h2 : many ≤ 3) (h3 : 1 ≤ most) (h4 : most ≤ 2) :
    EVp K (tCall (spPDr K) [] E tA) es W fun e w => ∃ (m : M) (q : Pen), e = .dat (dD m) ∧ w = q.cn :: R ∧ PenOk (n0 + 40) q ∧ PD n 3 50 many m ∧ m ≠ [] :=
  EVp.imp (evp_call (cW := [p.cn]) (R := R) (post := fun e w => ∃ (m : M) (q : Pen), e = .dat (dD m) ∧ w = [q.cn] ∧ PenOk (n0 + 40) q ∧ PD n 3 50 many m ∧ m ≠ []) ha (fun vs H Q h => ⟨n0, p, n, many, most, hp, hn0, hn, h1, h2, h3, h4, h⟩) (fun r w ⟨_, _, _, h, _⟩ => by rw [h]; rfl) (pen_args (l := [.int n, .int many, .int most])) pen_cl) fun e w ⟨w', ⟨m, q, g1, g2, g3⟩, h5⟩ => ⟨m, q, g1, by rw [h5, g2]; rfl, g3⟩
theorem evp_lk {many : Nat} {rows : List (List Int)} (ha : EA K tA es W [.ptr 0, .dat (.int n), .dat (wsD rows), .dat (.int many)] (p.cn :: R)) (hp : PenOk n0 p) (hn0 : n0 < 2 ^ 39) (hn : n ≤ 3) (h1 : 1 ≤ many) (h2 : many ≤ 3) (hw : WsOk rows) :
    EVp K (tCall (spLk K) [] E tA) es W fun e w => ∃ (m : M) (q : Pen), e = .dat (dD m) ∧ w = q.cn :: R ∧ PenOk (n0 + 40) q ∧ PD n 4 5 many m ∧ m ≠ [] :=
  EVp.imp (evp_call (cW := [p.cn]) (R := R) (post := fun e w => ∃ (m : M) (q : Pen), e = .dat (dD m) ∧ w = [q.cn] ∧ PenOk (n0 + 40) q ∧ PD n 4 5 many m ∧ m ≠ []) ha (fun vs H Q h => ⟨n0, p, n, many, rows, hp, hn0, hn, h1, h2, hw, h⟩) (fun r w ⟨_, _, _, h, _⟩ => by rw [h]; rfl) (pen_args (l := [.int n, wsD rows, .int many])) pen_cl) fun e w ⟨w', ⟨m, q, g1, g2, g3⟩, h5⟩ => ⟨m, q, g1, by rw [h5, g2]; rfl, g3⟩
def spQu (K : PySem.W.Frag) : Sp := fun vs H Q _ => ∃ (n0 : Nat) (p : Pen) (n : Nat), PenOk n0 p ∧ n0 < 2 ^ 38 ∧ 1 ≤ n ∧ n ≤ 3 ∧
  spP K [.ptr 0, .dat (.int n)] [p.cn] (fun e w => ∃ (a b : M) (x : D) (q : Pen), e = .dat (.tup [.tup [dD a, dD b], x]) ∧ w = [q.cn] ∧ PenOk (n0 + 200) q ∧ QOk n a b) vs H Q
theorem sc__law_quotient : FnScope N__law_quotient P__law_quotient (defScope s__law_quotient) := ⟨rfl, rfl, rfl, by decide +kernel, rfl, by decide +kernel, by decide +kernel⟩
theorem ok__law_quotient (T : Tx K mg) : Cal P w K mg base CX0 4 "_law_quotient" P__law_quotient (spQu K) := by
  refine T.f__law_quotient.cal sc__law_quotient (fun vs H Q E h => by obtain ⟨_, _, _, _, _, _, _, h⟩ := h; exact h.len) (fun _ _ _ _ _ _ us hl => match us, hl with | [_, _], _ => rfl) fun f cdv A outer s H vs Q E hr h => ?_
  obtain ⟨n0, p, n, hp, hn0, hn1, hn, h⟩ := h
  refine ⟨_, (pss_cons (ps_par (i := 2) (j := 3) (by rfl) sc__law_quotient.nd rfl rfl (by decide) rfl rfl (pa_cons (pe_cal (ok__law_draw T) (hr.mono (by decide)) rfl (pa_cons (pv 0) (pa_cons pe_int pa_nil))) (pa_cons (pe_cal (ok__law_weights T) (hr.mono (by decide)) rfl (pa_cons (pv 0) (pa_cons (pv 1) pa_nil))) pa_nil)) (by rfl))
 (pss_cons (ps_if (pt_cmpR (op_eqA hr.units) (pv 2) pe_int (nomark _))
 (pss_one (ps_ret (pe_tup (pa_cons (pe_tup (pa_cons (pe_cal (ok__law_poly_drawn T) (hr.mono (by decide)) rfl (pa_cons (pv 0) (pa_cons (pv 1) (pa_cons pe_int (pa_cons pe_int pa_nil))))) (pa_cons (pe_cal (ok__law_poly_drawn T) (hr.mono (by decide)) rfl (pa_cons (pv 0) (pa_cons (pv 1) (pa_cons pe_int (pa_cons pe_int pa_nil))))) pa_nil))) (pa_cons (pe_lst pa_nil) pa_nil)))))
 pss_nil)
 (pss_cons (ps_par (i := 4) (j := 5) (by rfl) sc__law_quotient.nd rfl rfl (by decide) rfl rfl (pa_cons (pe_cal (ok__law_like T) (hr.mono (by decide)) rfl (pa_cons (pv 0) (pa_cons (pv 1) (pa_cons (pv 3) (pa_cons pe_int pa_nil))))) (pa_cons (pe_cal (ok__law_like T) (hr.mono (by decide)) rfl (pa_cons (pv 0) (pa_cons (pv 1) (pa_cons (pv 3) (pa_cons pe_int pa_nil))))) pa_nil)) (by rfl))
 (pss_cons (ps_if (pt_cmpR op_gt (pv 2) pe_int (nomark _))
 (pss_cons (ps_set (i := 6) sc__law_quotient.nd rfl (Or.inl rfl) (pe_cal (ok__law_poly_drawn T) (hr.mono (by decide)) rfl (pa_cons (pv 0) (pa_cons (pv 1) (pa_cons pe_int (pa_cons pe_int pa_nil))))))
 (pss_one (ps_par (i := 4) (j := 5) (by rfl) sc__law_quotient.nd rfl rfl (by decide) rfl rfl (pa_cons (pe_cal (ok__law_poly_times T) (hr.mono (by decide)) rfl (pa_cons (pv 4) (pa_cons (pv 6) pa_nil))) (pa_cons (pe_cal (ok__law_poly_times T) (hr.mono (by decide)) rfl (pa_cons (pv 5) (pa_cons (pv 6) pa_nil))) pa_nil)) (by rfl))))
 pss_nil)
 (pss_one (ps_ret (pe_tup (pa_cons (pe_tup (pa_cons (pv 4) (pa_cons (pv 5) pa_nil))) (pa_cons (pv 3) pa_nil))))))))), fn_goP h (fun r w ⟨_, _, _, q, h1, h2, _⟩ => by subst h1 h2; exact ⟨trivial, rfl, fun c hc => by simp at hc; subst hc; exact Pen.cl _ _⟩) ?_⟩
  show SD K _ [.ptr 0, .dat (.int n), .un, .un, .un, .un, .un] [p.cn] _
  have hp1 := hp.draw (m := 6) (by decide)
  refine sd_parP (p := fun l w => ∃ rows q, l = [.dat (.int (draw p 6).1), .dat (wsD rows)] ∧ w = [q.cn] ∧ PenOk (n0 + 11) q ∧ WsOk rows) (eap_consV (ev_draw (R := []) (ea_cons (ev_vp rfl) (ea_cons (ev_int 6) ea_nil)) hp (by omega) (by decide) (by decide)) (eap_cons (evp_ws (R := []) (n0 := n0 + 1) (ea_cons (ev_vp rfl) (ea_cons (ev_vd rfl) ea_nil)) hp1 (by omega) hn) fun e w ⟨rows, q, h1, h2, h3, h4⟩ => eap_nil ⟨rows, q, by rw [h1], h2, h3.mono (by omega), h4⟩)) ?_
  rintro l w ⟨rows, q, rfl, rfl, hq, hw⟩
  refine ⟨_, _, rfl, ?_⟩
  show SD K _ [.ptr 0, .dat (.int n), .dat (.int (draw p 6).1), .dat (wsD rows), .un, .un, .un] [q.cn] _
  refine sd_seq (M := fun e w => e = [.ptr 0, .dat (.int n), .dat (.int (draw p 6).1), .dat (wsD rows), .un, .un, .un] ∧ w = [q.cn]) (sd_if (et_test (ev_eqI (ev_vd rfl) (ev_int 0))) (fun hb => ?_) (fun hb => sd_next ⟨rfl, rfl⟩)) ?_
  · refine sd_retP (post := fun e w => ∃ (a b : M) (x : D) (q : Pen), e = .dat (.tup [.tup [dD a, dD b], x]) ∧ w = [q.cn] ∧ PenOk (n0 + 200) q ∧ QOk n a b) (evp_tup (eap_cons (evp_tup (post := fun e w => ∃ (a b : M) (q : Pen), e = .dat (.tup [dD a, dD b]) ∧ w = [q.cn] ∧ PenOk (n0 + 200) q ∧ QOk n a b) (eap_cons (evp_pd (R := []) (many := 3) (most := 2) (ea_cons (ev_vp rfl) (ea_cons (ev_vd rfl) (ea_cons (ev_int 3) (ea_cons (ev_int 2) ea_nil)))) hq (by omega) hn (by decide) (by decide) (by decide) (by decide)) ?_)) ?_)) ?_
    · rintro e w ⟨a, q2, rfl, rfl, hq2, ha, hna⟩
      refine eap_cons (evp_pd (R := []) (many := 3) (most := 2) (ea_cons (ev_vp rfl) (ea_cons (ev_vd rfl) (ea_cons (ev_int 3) (ea_cons (ev_int 2) ea_nil)))) hq2 (by omega) hn (by decide) (by decide) (by decide) (by decide)) ?_
      rintro e w ⟨b, q3, rfl, rfl, hq3, hb, hnb⟩
      exact eap_nil ⟨by simp, [dD a, dD b], rfl, a, b, q3, rfl, rfl, hq3.mono (by omega), PD.mono ha (by decide) (by decide) (by decide), PD.mono hb (by decide) (by decide) (by decide), hna, hnb⟩
    · rintro e w ⟨a, b, q4, rfl, rfl, hq4, hok⟩
      exact eap_consV (ev_lst (l := []) ea_nil (by simp)) (eap_nil ⟨by simp, [.tup [dD a, dD b], .lst []], rfl, a, b, .lst [], q4, rfl, rfl, hq4, hok⟩)
    · rintro e w ⟨a, b, x, q5, rfl, rfl, hq5, hok⟩
      exact ⟨a, b, x, q5, rfl, rfl, hq5, hok⟩
  · rintro e w ⟨rfl, rfl⟩
    refine sd_parP (p := fun l w => ∃ a b q2, l = [.dat (dD a), .dat (dD b)] ∧ w = [q2.cn] ∧ PenOk (n0 + 91) q2 ∧ PD n 4 5 3 a ∧ PD n 4 5 2 b ∧ a ≠ [] ∧ b ≠ []) (eap_cons (evp_lk (R := []) (many := 3) (ea_cons (ev_vp rfl) (ea_cons (ev_vd rfl) (ea_cons (ev_vd rfl) (ea_cons (ev_int 3) ea_nil)))) hq (by omega) hn (by decide) (by decide) hw) ?_) ?_
    · rintro e w ⟨a, q2, rfl, rfl, hq2, ha, hna⟩
      refine eap_cons (evp_lk (R := []) (many := 2) (ea_cons (ev_vp rfl) (ea_cons (ev_vd rfl) (ea_cons (ev_vd rfl) (ea_cons (ev_int 2) ea_nil)))) hq2 (by omega) hn (by decide) (by decide) hw) ?_
      rintro e w ⟨b, q3, rfl, rfl, hq3, hb, hnb⟩
      exact eap_nil ⟨a, b, q3, rfl, rfl, hq3.mono (by omega), ha, hb, hna, hnb⟩
    · rintro l w ⟨a, b, q2, rfl, rfl, hq2, ha, hb, hna, hnb⟩
      refine ⟨_, _, rfl, ?_⟩
      show SD K _ [.ptr 0, .dat (.int n), .dat (.int (draw p 6).1), .dat (wsD rows), .dat (dD a), .dat (dD b), .un] [q2.cn] _
      refine sd_seq (M := fun e w => ∃ a b x6 q, e = [.ptr 0, .dat (.int n), .dat (.int (draw p 6).1), .dat (wsD rows), .dat (dD a), .dat (dD b), x6] ∧ w = [q.cn] ∧ PenOk (n0 + 200) q ∧ QOk n a b) (sd_if (et_test (ev_gt (ev_vd rfl) (ev_int 2))) (fun hb' => ?_) (fun hb' => sd_next ⟨a, b, .un, q2, rfl, rfl, hq2.mono (by omega), PD.mono ha (by decide) (by decide) (by decide), PD.mono hb (by decide) (by decide) (by decide), hna, hnb⟩)) ?_
      · refine sd_asgP (evp_pd (R := []) (many := 2) (most := 1) (ea_cons (ev_vp rfl) (ea_cons (ev_vd rfl) (ea_cons (ev_int 2) (ea_cons (ev_int 1) ea_nil)))) hq2 (by omega) hn (by decide) (by decide) (by decide) (by decide)) ?_
        rintro e w ⟨m, q3, rfl, rfl, hq3, hm, hnm⟩
        refine sd_of (sd_par (e1 := .dat (dD (pm a m))) (e2 := .dat (dD (pm b m))) (ea_cons (ev_callD (l := [dD a, dD m]) (ea_cons (ev_vd rfl) (ea_cons (ev_vd rfl) ea_nil)) (fun vs H Q h => ⟨a, m, n, _, _, _, _, _, _, ha, hm, by decide, by decide, by decide, by omega, h⟩)) (ea_cons (ev_callD (l := [dD b, dD m]) (ea_cons (ev_vd rfl) (ea_cons (ev_vd rfl) ea_nil)) (fun vs H Q h => ⟨b, m, n, _, _, _, _, _, _, hb, hm, by decide, by decide, by decide, by omega, h⟩)) ea_nil))) ⟨pm a m, pm b m, _, q3, rfl, rfl, hq3.mono (by omega), PD.mono (pm_PD ha hm (by decide) (by decide)) (by decide) (by decide) (by decide), PD.mono (pm_PD hb hm (by decide) (by decide)) (by decide) (by decide) (by decide), pm_ne ha hm (by decide) (by decide) hna hnm, pm_ne hb hm (by decide) (by decide) hnb hnm⟩
      · rintro e w ⟨a, b, x6, q3, rfl, rfl, hq3, hok⟩
        exact sd_ret (ev_tup (l := [.tup [dD a, dD b], wsD rows]) (ea_cons (ev_tup (l := [dD a, dD b]) (ea_cons (ev_vd rfl) (ea_cons (ev_vd rfl) ea_nil)) (by simp)) (ea_cons (ev_vd rfl) ea_nil)) (by simp)) ⟨a, b, _, q3, rfl, rfl, hq3, hok⟩
end
end K77
namespace K77
open PySem PySem.Spec PyProof.Rows L2 AS Pn
local macro_rules | `(tactic| walk_at "ev") => `(tactic| first
  | exact ev_vd rfl
  | exact ev_vp rfl
  | exact ev_int _
  | exact ev_non
  | exact ev_bl _
  | exact ev_str _
  | assumption
  | (apply ev_addI <;> walk_at "ev")
  | (apply ev_sub <;> walk_at "ev")
  | (apply ev_neg; walk_at "ev")
  | (apply ev_abs; walk_at "ev")
  | (apply ev_intA; walk_at "ev")
  | (apply ev_lt <;> walk_at "ev")
  | (apply ev_le <;> walk_at "ev")
  | (apply ev_gt <;> walk_at "ev")
  | (apply ev_ge <;> walk_at "ev")
  | (apply ev_eqI <;> walk_at "ev")
  | (apply ev_neI <;> walk_at "ev")
  | (apply ev_isN; walk_at "ev")
  | (apply ev_notN; walk_at "ev")
  | (apply ev_isi (by walk_at "ev") rfl; rfl)
  | skip)
local macro_rules | `(tactic| walk_at "ea") => `(tactic| first
  | exact ea_nil
  | (apply ea_cons; walk_at "ev"; walk_at "ea"))
local macro_rules | `(tactic| walk_at "call") => `(tactic| (first
  | exact (fun vs H Q h => ⟨_, h⟩)
  | exact (fun vs H Q h => ⟨_, _, h⟩)
  | exact (fun vs H Q h => ⟨_, _, _, h⟩)))

section
variable {P : Program} {w : World} {K : PySem.W.Frag} {mg : Str → Option Value} {base : Heap}
theorem sc_ByZero___init__ : FnScope N_ByZero___init__ P_ByZero___init__ (defScope s_ByZero___init__) := ⟨rfl, rfl, rfl, by decide +kernel, rfl, by decide +kernel, by decide +kernel⟩
theorem ok_zinit (B : Zer K mg (CZ mg) "ByZero" "place" "ByZero.__init__" s_ByZero___init__) {f : Addr} {fd : FuncData} (F : Fun K "__init__" "ByZero.__init__" s_ByZero___init__ f fd) : FnOk P w K mg base CX0 1 f fd P_ByZero___init__ (spInit1 (CZ mg) "place") ∧ Binds K fd P_ByZero___init__ [] := by
  refine ⟨F.ok sc_ByZero___init__ (fun vs H Q E h => by obtain ⟨_, _, rfl, _⟩ := h; rfl) fun cdv A outer s H vs Q E hr h => ?_, F.binds (fun _ _ _ _ _ _ us hl => match us, hl with | [_, _], _ => rfl)⟩
  exact ⟨_, pss_one (ps_ost (pv 0) (pv 1)), init1_reads B rfl h⟩
abbrev errZ : List (Str × D) := [("place", .int 0)]
/-- __init__ of a quotient whose bottom is 0 -/
def spQX (K : PySem.W.Frag) (mg : Str → Option Value) : Sp := fun vs H _ E => ∃ (n : Nat) (a : M), spXW K (CZ mg) errZ ([.ptr 0, .dat (polyD mg n a), .dat (polyD mg n [])]) [.ins (CQ mg) []] vs H E
theorem ok_QuotientX (T : Tx K mg) : MakA P w K mg base (L2.CX P w) 9 "Quotient" (CQ mg) P_Quotient___init__ (spQX K mg) := by
  refine T.cQ.makX sc_Quotient___init__ (fun vs H Q E h => by obtain ⟨_, _, h⟩ := h; exact h.len) (fun _ _ _ _ _ _ us hl => match us, hl with | [_, _, _], _ => rfl) fun f cdv A outer s H vs Q E hr h => ?_
  obtain ⟨n, a, h⟩ := h
  refine ⟨_, (pss_cons (ps_if (pt_cmpR (op_eqA hr.units) (pe_fld (pv 2) rfl) (pe_tup pa_nil) (nomark _))
 (pss_one (ps_err1 T.zer (fun g fd F => ok_zinit T.zer F) (hr.mono (by decide)) rfl (takes_of rfl rfl rfl rfl) rfl (pa_cons pe_int pa_nil)))
 pss_nil)
 pss_dead), fn_goXW h fun F Hb A => ?_⟩
  show XS K F Hb _ [.ptr 0, .dat (polyD mg n a), .dat (polyD mg n []), .un, .un, .un] [.ins (CQ mg) []]
  exact xs_first (xs_if (b := true) (et_test (ev_is (ev_eqNilT (l := ([] : M).map tm) (ev_terms T (n := n) (l := []) (ev_vd rfl)) (tm_flat [])) rfl)) (fun _ => xs_raise1 A (ea_cons (ev_int 0) ea_nil)) (fun hb => by cases hb))
def spCX (K : PySem.W.Frag) (mg : Str → Option Value) : Sp := fun vs H _ E => ∃ (n N : Nat) (B C : Int) (p q : M) (L : List Int) (d : D), CoOk n N B C p q L ∧ Lt L d ∧ nrm (loM L q) = [] ∧ spX K (CZ mg) errZ [.dat (quoD mg n p q), .dat d] vs H E
theorem ok_called_oneX (T : Tx K mg) : Cal P w K mg base (L2.CX P w) 12 "called_one" P_called_one (spCX K mg) := by
  refine T.f_called_one.calX sc_called_one (fun vs H Q E h => by obtain ⟨_, _, _, _, _, _, _, _, _, _, _, h⟩ := h; exact h.len) (fun _ _ _ _ _ _ us hl => match us, hl with | [_, _], _ => rfl) fun f cdv A outer s H vs Q E hr h => ?_
  obtain ⟨n, N, B, C, p, q, L, d, hc, hd, hq, h⟩ := h
  refine ⟨_, (pss_cons (ps_set (i := 2) sc_called_one.nd rfl (Or.inr rfl) (pe_cal (ok_told_letters T) (hr.mono (by decide)) rfl (pa_cons (pv 1) (pa_cons (pe_fld (pv 0) rfl) pa_nil))))
 (pss_cons (ps_set (i := 3) sc_called_one.nd rfl (Or.inl rfl) (pe_lst pa_nil))
 (pss_cons (ps_for (passes_of rfl) rfl (pi_seq (pi_list (pe_tup (pa_cons (pe_fld (pv 0) rfl) (pa_cons (pe_fld (pv 0) rfl) pa_nil)))) (pi_tup (pe_tup (pa_cons (pe_fld (pv 0) rfl) (pa_cons (pe_fld (pv 0) rfl) pa_nil))))) (pg_name (i := 4) sc_called_one.nd rfl (Or.inl rfl))
 (pss_cons (ps_set (i := 5) sc_called_one.nd rfl (Or.inl rfl) (pe_lst pa_nil))
 (pss_cons (ps_for (passes_of rfl) rfl (pi_seq (pi_list (pe_fld (pv 4) rfl)) (pi_tup (pe_fld (pv 4) rfl))) (pg_tup rfl (pgs_cons (pg_name (i := 6) sc_called_one.nd rfl (Or.inl rfl)) (pgs_cons (pg_name (i := 7) sc_called_one.nd rfl (Or.inl rfl)) pgs_nil)))
 (pss_one (ps_expr (pe_bm PySem.F.plainAttrs_list PySem.F.slot_list_append PySem.F.type_list_append mt_append (pv 5) (pa_cons (pe_tup (pa_cons (pe_callTy call_tuple_of (by rfl) T.b_tuple (by decide +kernel) (pa_cons (pe_lc (own := [("j", 8), ("one", 9)]) rfl sc_called_one.nd (XC.pi_enX (by rfl) T.b_enumerate (pa_cons (pv 6) pa_nil)) (blkOk_by (own := [("j", 8), ("one", 9)]) (N := N_called_one) (sc := defScope s_called_one) (by decide +kernel))
 (fun _ _ _ _ _ => (show PG _ _ (gTup K 2 _) from pg_tup rfl (pgs_cons (pg_name (i := 8) sc_called_one.nd rfl (Or.inl rfl)) (pgs_cons (pg_name (i := 9) sc_called_one.nd rfl (Or.inl rfl)) pgs_nil)))) (fun _ _ _ _ _ => pts_nil) (fun _ _ _ _ _ => (pe_ifExp (pt_cmpR (show OpR _ (compareOp .In) (rInA K) from (op_inA (u65 hr))) (pv 8) (pv 2) (by rfl)) pe_int (pv 9)))) pa_nil)) (pa_cons (pv 7) pa_nil))) pa_nil)))))
 (pss_one (ps_expr (pe_bm PySem.F.plainAttrs_list PySem.F.slot_list_append PySem.F.type_list_append mt_append (pv 3) (pa_cons (pe_makA (ok_Poly T) (hr.mono (by decide)) rfl (pa_cons (pe_fld (pv 0) rfl) (pa_cons (pv 5) pa_nil))) pa_nil)))))))
 (pss_one (ps_ret (pe_makX (ok_QuotientX T) passes_def (hr.mono (by decide)) rfl (pa_cons (pe_ix ix_seq (pv 3) pe_int (fun _ _ => rfl)) (pa_cons (pe_ix ix_seq (pv 3) pe_int (fun _ _ => rfl)) pa_nil)))))))), fn_goX h fun F Hb A => ?_⟩
  show XS K F Hb _ [.dat (quoD mg n p q), .dat d, .un, .un, .un, .un, .un, .un, .un, .un] []
  refine xs_then (sd_asg (ev_callD (l := [d, .int n]) (ea_cons (ev_vd rfl) (ea_cons (ev_qsize T (n := n) (p := p) (q := q) (ev_vd rfl)) ea_nil)) (fun vs H Q h => ⟨d, L, n, hd, hc.hL, h⟩))) ?_
  refine xs_then (sd_asg (ev_lstO (l := []) ea_nil (by simp))) ?_
  refine xs_seqP (co_loop T hc) ?_
  rintro e w ⟨x4, x5, x6, x7, R, rfl, rfl⟩
  rw [hq]
  exact xs_ret (xv_make (args := [polyD mg n (nrm (loM L p)), polyD mg n []]) A (ea_cons (ev_ix (l := [.dat (polyD mg n (nrm (loM L p))), .dat (polyD mg n [])]) (ev_vp rfl) (ev_int 0) (seqE_ptr rfl) rfl) (ea_cons (ev_ix (l := [.dat (polyD mg n (nrm (loM L p))), .dat (polyD mg n [])]) (ev_vp rfl) (ev_int 1) (seqE_ptr rfl) rfl) ea_nil)) (fun vs H Q h => ⟨n, _, h⟩))
end
end K77
namespace K77
open PySem PySem.Spec PyProof.Rows L2 AS Pn LamX XC
local macro_rules | `(tactic| walk_at "ev") => `(tactic| first
  | exact ev_vd rfl
  | exact ev_vp rfl
  | exact ev_int _
  | exact ev_non
  | exact ev_bl _
  | exact ev_str _
  | assumption
  | (apply ev_addI <;> walk_at "ev")
  | (apply ev_sub <;> walk_at "ev")
  | (apply ev_neg; walk_at "ev")
  | (apply ev_abs; walk_at "ev")
  | (apply ev_intA; walk_at "ev")
  | (apply ev_lt <;> walk_at "ev")
  | (apply ev_le <;> walk_at "ev")
  | (apply ev_gt <;> walk_at "ev")
  | (apply ev_ge <;> walk_at "ev")
  | (apply ev_eqI <;> walk_at "ev")
  | (apply ev_neI <;> walk_at "ev")
  | (apply ev_isN; walk_at "ev")
  | (apply ev_notN; walk_at "ev")
  | (apply ev_isi (by walk_at "ev") rfl; rfl)
  | skip)
local macro_rules | `(tactic| walk_at "ea") => `(tactic| first
  | exact ea_nil
  | (apply ea_cons; walk_at "ev"; walk_at "ea"))
local macro_rules | `(tactic| walk_at "call") => `(tactic| (first
  | exact (fun vs H Q h => ⟨_, h⟩)
  | exact (fun vs H Q h => ⟨_, _, h⟩)
  | exact (fun vs H Q h => ⟨_, _, _, h⟩)))

theorem sc__law_error : FnScope N__law_error P__law_error (defScope s__law_error) := ⟨rfl, rfl, rfl, by decide +kernel, rfl, by decide +kernel, by decide +kernel⟩
theorem err_gives {X : Cx} (T : Tx X.K X.mg) {g : Addr} {cdg : Value} {q : Str} : GivesTo X N__law_error "_law_error" (defScope s__law_error) g cdg (defBody s__law_error) "_law_call" q (TTz (CZ X.mg)) := by
  intro f c' s H Q tl act hc h
  refine ⟨_, pss_cons (ps_clauses (X := (cxOf C8.CX0 X.prog X.w X.K X.mg X.base N__law_error "_law_error" (defScope s__law_error) g cdg X.A X.stack s H C8.E0).nox) (i := 1) (n := "error") rfl rfl (show N__law_error.Nodup by decide) rfl (show List.lookup (Str.ofString "error") (defScope s__law_error).names = some NameKind.local by decide +kernel)
    (tb := fun W D σ H => ∃ Ech : XK, (∀ cls d σ' H', Ech cls d H' → σ'.length = N__law_error.length → W cls d σ' H') ∧ σ[0]? = some (some (.ref f)) ∧ H c' = some (CodeO c' q) ∧ tl Ech H fun _ _ => False)
    (fun W pn xe tk _ => ?_)
    (.cons ⟨rfl, by decide, .inl T.gM⟩ (fun ea ob cls d qs _ _ => pss_dead) (.cons ⟨rfl, by decide, .inl T.gN⟩ (fun ea ob cls d qs _ _ => pss_dead) (.cons ⟨rfl, by decide, .inl T.zer.g⟩ (fun ea ob cls d qs hz hf => pss_one (ps_ret (pe_lst (pa_cons pe_str (pa_cons (pe_xf T.zer.xfc T.zer.noF hz hf (pv 1)) pa_nil))))) .nil))))
    (pss_one (ps_ret (pe_lst pa_nil))), ?_⟩
  · refine ⟨fun pins s' σ H' D I h' => ?_⟩
    obtain ⟨Ech, hW, h1, h2, h3⟩ := h'
    refine wpAny_mono (PSs.run (D := { nx := fun _ _ => False, rt := fun _ _ => False, bk := fun _ _ => False, ct := fun _ _ => False }) (pss_one (ps_expr (act _ pn xe Ech _ _ (takes_len tk) (fun cls d σ' H' => hW cls d σ' H')))) pins s' σ H' I ⟨h1, h2, h3⟩) (fun fl t res => ?_) (fun _ _ z => z)
    match fl, res with
    | .next, ⟨_, _, _, q⟩ => exact q.elim
    | .brk, ⟨_, _, _, q⟩ => exact q.elim
    | .cont, ⟨_, _, _, q⟩ => exact q.elim
    | .ret _, ⟨_, _, _, _, _, q⟩ => exact q.elim
  · refine ⟨_, fun cls d σ' H' e hl => ?_, rfl, hc, h⟩
    obtain ⟨rfl, dx, fs, rfl, h1, h2, h3⟩ := e
    refine ⟨false, T.xM, (fun z => by cases z), fun _ => ⟨false, T.xN, (fun z => by cases z), fun _ => ⟨true, T.zer.own, fun _ ea hea => ?_, fun z => by cases z⟩⟩⟩
    have el : σ'.length = 2 := hl
    refine ⟨.ref ea, ?_, rfl, rfl, dx, fs, .int 0, rfl, h1, h2, ?_⟩
    · exact List.getElem?_set_self (by rw [el]; decide)
    · exact ⟨by show 2 ≤ sizeLine; decide, h3⟩
end K77
namespace AS
open PySem PySem.Spec PyProof.Rows L2 XC
theorem DtA.rev {K : PySem.W.Frag} {H : Hp} : ∀ {vs : List V} {ds : List D}, DtA K H vs ds → DtA K H vs.reverse ds.reverse
  | _, _, .nil => .nil
  | _, _, .cons h t => by
    rw [List.reverse_cons, List.reverse_cons]
    exact (DtA.rev t).append (.cons h .nil)
theorem ev_revL {K : PySem.W.Frag} {te : TE} {es : List En} {W W1 : List Cn} {e1 : En} {l : List D} (ha : EV K te es W e1 W1) (hs : LstE W1 e1 = some (l.map .dat)) : EV K (tRevL K te) es W (.dat (.lst l.reverse)) W1 := fun F Hb H σ as S Q k =>
  ha F Hb H σ as S _ fun v Hb1 H1 as1 g1 s1 S1 r1 => by
    obtain ⟨a, xs, rfl, hq, hp⟩ := S1.lstE hs r1
    exact ⟨a, xs, rfl, hq, fun p hp' => (k.on g1 s1).fresh S1 hp' fun Hb2 s2 e2 => .lst e2 (DtA.mono s2 _ _ (DtA.of_dat (xs := xs) hp).rev)⟩
end AS
namespace K77
open PySem PySem.Spec PyProof.Rows L2 AS Pn
/-! ### the plain law -/
/-- the parts of the quotient before the package sees it -/
structure Raw (n : Nat) (a b : M) : Prop where
  n1 : 1 ≤ n
  n2 : n ≤ 3
  pa : PD n 9 18000 12 a
  pb : PD n 9 18000 12 b
  nb : b ≠ []
section
variable {n : Nat} {a b : M} {L : List Int}
theorem pd_poly {a : M} (h : PD n 9 18000 12 a) : Pn.Poly n 9 216000 12 (nrm a) :=
  nrm_poly (N := 12) (C := 18000) (by decide) h.ab h.co (by decide) h.len
theorem Raw.nnb (h : Raw n a b) : nrm b ≠ [] := fun e => by
  have z := (nrm_nil (n := n) (E := 9) (by decide) h.pb.ab).mp e
  cases hb : b with
  | nil => exact h.nb hb
  | cons q r =>
    have hm : q ∈ b := by rw [hb]; exact List.mem_cons_self
    have h1 := cf_in h.pb.nd hm
    have h2 := h.pb.nz q hm
    rw [z q.1] at h1
    exact h2 h1.symm
theorem Raw.two (h : Raw n a b) : Two n 12 9 216000 (nrm a) (nrm b) := ⟨pd_poly h.pa, pd_poly h.pb, h.nnb, by decide, by decide, by decide, h.n1, by have := h.n2; omega⟩
abbrev mp (n : Nat) (a b : M) : M := (mkQ n (nrm a) (nrm b)).1
abbrev mq (n : Nat) (a b : M) : M := (mkQ n (nrm a) (nrm b)).2
theorem Raw.can (h : Raw n a b) : Can n 9 216000 12 (mp n a b) (mq n a b) := mkQ_can (pd_poly h.pa) (pd_poly h.pb) h.nnb (by decide) (by decide) (by decide) (by decide)
theorem Raw.co (h : Raw n a b) (hL : LOk n L) : CoOk n 12 9 216000 (mp n a b) (mq n a b) L := ⟨h.can.tp, h.can.bt, by decide, by decide, by decide, by decide, by decide, h.n1, by have := h.n2; omega, hL⟩
/-- what is left of a part -/
abbrev due (L : List Int) (p : M) : M := nz (acc [] (loM L p))
theorem due_ab {p : M} (h : Pn.Poly n 9 216000 12 p) : AB n 9 (due L p) := fun q hq => by
  have h1 : q.1 ∈ Pn.ks (acc [] (loM L p)) := List.mem_map.mpr ⟨q, nz_sub q hq, rfl⟩
  rcases ks_acc.mp h1 with h2 | h2
  · cases h2
  · obtain ⟨r, hr, e⟩ := List.mem_map.mp h2
    rw [← e]
    exact h.ab.lo (by decide) r hr
theorem due_nd {p : M} : ND (due L p) := ND.nz (ND.acc ND.nil)
theorem due_len {p : M} (h : Pn.Poly n 9 216000 12 p) : (due L p).length ≤ 12 := by
  have h1 : (due L p).length ≤ (acc [] (loM L p)).length := List.length_filter_le _ _
  have h2 := len_acc (l := loM L p) (m := [])
  have h3 : (loM L p).length = p.length := by simp [loM]
  have h4 := h.len
  simp only [List.length_nil] at h2
  omega
/-- it is the same polynomial -/
theorem due_nrm {p : M} (h : Pn.Poly n 9 216000 12 p) : nrm (due L p) = nrm (loM L p) := nrm_same (n := n) (E := 9) (by decide) (due_ab h) (h.ab.lo (by decide)) fun k => cf_nz_acc _ k
theorem due_nil {p : M} (h : Pn.Poly n 9 216000 12 p) : due L p = [] ↔ nrm (loM L p) = [] := by
  rw [nz_acc_nil, nrm_nil (n := n) (E := 9) (by decide) (h.ab.lo (by decide))]
theorem Raw.dueTwo (h : Raw n a b) (hL : LOk n L) (hq : nrm (loM L (mq n a b)) ≠ []) : Two n 12 9 2592000 (nrm (due L (mp n a b))) (nrm (due L (mq n a b))) := by
  rw [due_nrm h.can.tp, due_nrm h.can.bt]
  have hc := h.co hL
  exact ⟨hc.lop hc.pp, hc.lop hc.pq, hq, by decide, by decide, by decide, h.n1, by have := h.n2; omega⟩
/-- with no letters it is the quotient itself -/
theorem Raw.none (h : Raw n a b) : mkQ n (nrm (loM [] (mp n a b))) (nrm (loM [] (mq n a b))) = (mp n a b, mq n a b) := by
  rw [loM_nil, loM_nil, nrm_id (n := n) (E := 9) (by decide) h.can.tp.ab h.can.tp.nr, nrm_id (n := n) (E := 9) (by decide) h.can.bt.ab h.can.bt.nr]
  exact h.can.again
theorem LOk.rev (h : LOk n L) : LOk n L.reverse := ⟨(List.reverse_perm L).nodup_iff.mpr h.nd, fun x hx => h.rg x (List.mem_reverse.mp hx), by rw [List.length_reverse]; exact h.ln⟩
theorem lo_rev (L : List Int) (l : M) : loM L.reverse l = loM L l := by
  unfold loM
  exact List.map_congr_left fun q _ => by rw [lo_same (L := L.reverse) (L' := L) fun x => List.mem_reverse]
end
theorem py_lst {l : List D} {p : List PyData} (h : D.pys l = some p) : (D.lst l).py = some (.list p) := by simp [D.py, h]
theorem ev_neLI {K : PySem.W.Frag} {es : List En} {W W1 W2 : List Cn} {ta tb : TE} {a b : List Int} (ha : EV K ta es W (.dat (.lst (a.map D.int))) W1) (hb : EV K tb es W1 (.dat (.lst (b.map D.int))) W2) :
    EV K (tOp (rNeA K) ta tb) es W (.dat (.bl (!decide (a = b)))) W2 := by
  have fl : ∀ x : List Int, (x.map D.int).all (D.flat 9) = true := fun x => by simp [D.flat]
  obtain ⟨p, p1, p2⟩ := flat_list (fl a)
  obtain ⟨q, q1, q2⟩ := flat_list (fl b)
  have e := pys_ints a
  have e' := pys_ints b
  rw [p1] at e; rw [q1] at e'
  cases e; cases e'
  exact ev_is (ev_neD ha hb (py_lst p1) (py_lst q1) p2 q2) (by rw [show PyData.eqv (.list (a.map PyData.int)) (.list (b.map PyData.int)) = PyData.eqvAll (a.map PyData.int) (b.map PyData.int) from rfl, eqv_ints])
/-- a unit of exponents -/
def oneK (n : Nat) (z : Int) : List Int := (List.range n).map fun (j : Nat) => if (j : Int) = z then 1 else 0
def facM (n : Nat) (z : Int) : M := [(oneK n z, 1), (List.replicate n 0, -1)]
theorem one_ne {n : Nat} {z : Int} (h : 0 ≤ z ∧ z < n) : oneK n z ≠ List.replicate n 0 := fun e => by
  have h1 : (1 : Int) ∈ oneK n z := List.mem_map.mpr ⟨z.toNat, List.mem_range.mpr (by omega), if_pos (by omega)⟩
  rw [e] at h1
  have := List.eq_of_mem_replicate h1
  omega
theorem fac_PD {n : Nat} {z : Int} (h : 0 ≤ z ∧ z < n) : PD n 2 1 2 (facM n z) where
  nd := by
    unfold ND Pn.ks facM
    simp only [List.map_cons, List.map_nil, List.nodup_cons, List.mem_singleton, List.not_mem_nil, not_false_eq_true, List.nodup_nil, and_true]
    exact one_ne h
  nz := fun q hq => by
    unfold facM at hq
    simp at hq
    rcases hq with rfl | rfl
    · exact (by decide : (1 : Int) ≠ 0)
    · exact (by decide : (-1 : Int) ≠ 0)
  ab := fun q hq => by
    unfold facM at hq
    simp at hq
    rcases hq with rfl | rfl
    · refine ⟨by simp [oneK], fun x hx => ?_⟩
      obtain ⟨j, _, rfl⟩ := List.mem_map.mp hx
      split <;> decide
    · refine ⟨by simp, fun x hx => ?_⟩
      have := List.eq_of_mem_replicate hx
      omega
  co := fun q hq => by
    unfold facM at hq
    simp at hq
    rcases hq with rfl | rfl
    · exact (by decide : ((1 : Int).natAbs : Int) ≤ 1)
    · exact (by decide : ((-1 : Int).natAbs : Int) ≤ 1)
  len := Nat.le_refl 2
theorem QOk.raw {n : Nat} {a b : M} (h : QOk n a b) (n1 : 1 ≤ n) (n2 : n ≤ 3) : Raw n a b := ⟨n1, n2, PD.mono h.pa (by decide) (by decide) (by decide), PD.mono h.pb (by decide) (by decide) (by decide), h.nb⟩
theorem QOk.rawF {n : Nat} {a b : M} {z : Int} (h : QOk n a b) (n1 : 1 ≤ n) (n2 : n ≤ 3) (hz : 0 ≤ z ∧ z < n) : Raw n a (pm b (facM n z)) :=
  ⟨n1, n2, PD.mono h.pa (by decide) (by decide) (by decide), PD.mono (pm_PD h.pb (fac_PD hz) (by decide) (by decide)) (by decide) (by decide) (by decide), pm_ne h.pb (fac_PD hz) (by decide) (by decide) h.nb (by unfold facM; simp)⟩
section
variable {K : PySem.W.Frag} {mg : Str → Option Value} {E : XK} {tA : TA} {es : List En} {W W1 R : List Cn} {n0 n : Nat} {p : Pen} {a b : M} {L : List Int} {d : D}
theorem evp_qu (ha : EA K tA es W [.ptr 0, .dat (.int n)] (p.cn :: R)) (hp : PenOk n0 p) (hn0 : n0 < 2 ^ 38) (h1 : 1 ≤ n) (hn : n ≤ 3) :
    EVp K (tCall (spQu K) [] E tA) es W fun e w => ∃ (a b : M) (x : D) (q : Pen), e = .dat (.tup [.tup [dD a, dD b], x]) ∧ w = q.cn :: R ∧ PenOk (n0 + 200) q ∧ QOk n a b :=
  EVp.imp (evp_call (cW := [p.cn]) (R := R) (post := fun e w => ∃ (a b : M) (x : D) (q : Pen), e = .dat (.tup [.tup [dD a, dD b], x]) ∧ w = [q.cn] ∧ PenOk (n0 + 200) q ∧ QOk n a b) ha (fun vs H Q h => ⟨n0, p, n, hp, hn0, h1, hn, h⟩) (fun r w ⟨_, _, _, _, _, h, _⟩ => by rw [h]; rfl) (pen_args (l := [.int n])) pen_cl) fun e w ⟨w', ⟨a, b, x, q, g1, g2, g3⟩, h5⟩ => ⟨a, b, x, q, g1, by rw [h5, g2]; rfl, g3⟩
theorem ev_made (ha : EA K tA es W [.dat (.tup [dD a, dD b]), .dat (.int n)] W1) (h : Raw n a b) : EV K (tCall (spMd K mg) [] E tA) es W (.dat (quoD mg n (mp n a b) (mq n a b))) W1 :=
  ev_callD (l := [.tup [dD a, dD b], .int n]) ha fun vs H Q z => ⟨n, 12, 9, 216000, a, b, h.two, h.pa.nd, h.pb.nd, h.pa.ab, h.pb.ab, Nat.lt_of_le_of_lt h.pa.len (by decide), Nat.lt_of_le_of_lt h.pb.len (by decide), z⟩
theorem ev_own (ha : EA K tA es W [.dat (quoD mg n (mp n a b) (mq n a b)), .dat (.int n)] W1) (h : Raw n a b) : EV K (tCall (spTQ K mg) [] E tA) es W (.dat (.tup [dD (mp n a b), dD (mq n a b)])) W1 :=
  ev_callD (l := [quoD mg n (mp n a b) (mq n a b), .int n]) ha fun vs H Q z => ⟨n, 9, _, _, h.can.tp.nr.nd, h.can.bt.nr.nd, h.can.tp.ab, h.can.bt.ab, Nat.le_trans h.can.tp.len (by decide), Nat.le_trans h.can.bt.len (by decide), by have := h.n2; omega,
    fun x hx => Sm.of (h.can.tp.co x hx) (by decide), fun x hx => Sm.of (h.can.bt.co x hx) (by decide), h.can.nq, z⟩
theorem ev_left {m : M} (ha : EA K tA es W [.dat (dD m), .dat (.lst (L.map D.int))] W1) (h : Pn.Poly n 9 216000 12 m) (hn : n ≤ 3) : EV K (tCall (spLLO K) [] E tA) es W (.dat (dD (due L m))) W1 :=
  ev_callD (l := [dD m, .lst (L.map D.int)]) ha fun vs H Q z => ⟨m, L, n, 9, h.nr.nd, Nat.le_trans h.len (by decide), h.ab, by omega, z⟩
theorem ev_told (ha : EA K tA es W [.dat (quoD mg n (mp n a b) (mq n a b)), .dat d] W1) (h : Raw n a b) (hL : LOk n L) (hd : d = .lst (L.map D.int) ∨ d = .tup (L.reverse.map D.int)) (hq : nrm (loM L (mq n a b)) ≠ []) :
    EV K (tCall (spCO K mg) [] E tA) es W (.dat (quoD mg n (mkQ n (nrm (loM L (mp n a b))) (nrm (loM L (mq n a b)))).1 (mkQ n (nrm (loM L (mp n a b))) (nrm (loM L (mq n a b)))).2)) W1 :=
  ev_callD (l := [quoD mg n (mp n a b) (mq n a b), d]) ha fun vs H Q z => by
    rcases hd with rfl | rfl
    · exact ⟨n, 12, 9, 216000, mp n a b, mq n a b, L, _, h.co hL, .inl rfl, hq, z⟩
    · refine ⟨n, 12, 9, 216000, mp n a b, mq n a b, L.reverse, _, h.co hL.rev, .inr rfl, by rw [lo_rev]; exact hq, ?_⟩
      rw [lo_rev, lo_rev]
      exact z
theorem told_zero (h : Raw n a b) (hL : LOk n L) (hd : d = .lst (L.map D.int) ∨ d = .tup (L.reverse.map D.int)) (hq : nrm (loM L (mq n a b)) = []) (vs : List V) (H : Hp) (Q : VK) (E : XK) (z : spX K (CZ mg) errZ ([quoD mg n (mp n a b) (mq n a b), d].map .dat) vs H E) : spCX K mg vs H Q E := by
  rcases hd with rfl | rfl
  · exact ⟨n, 12, 9, 216000, mp n a b, mq n a b, L, _, h.co hL, .inl rfl, hq, z⟩
  · exact ⟨n, 12, 9, 216000, mp n a b, mq n a b, L.reverse, _, h.co hL.rev, .inr rfl, by rw [lo_rev]; exact hq, z⟩
theorem ev_dueM (ha : EA K tA es W [.dat (.tup [dD (due L (mp n a b)), dD (due L (mq n a b))]), .dat (.int n)] W1) (h : Raw n a b) (hL : LOk n L) (hq : nrm (loM L (mq n a b)) ≠ []) :
    EV K (tCall (spMd K mg) [] E tA) es W (.dat (quoD mg n (mkQ n (nrm (loM L (mp n a b))) (nrm (loM L (mq n a b)))).1 (mkQ n (nrm (loM L (mp n a b))) (nrm (loM L (mq n a b)))).2)) W1 :=
  ev_callD (l := [.tup [dD (due L (mp n a b)), dD (due L (mq n a b))], .int n]) ha fun vs H Q z => by
    refine ⟨n, 12, 9, 2592000, _, _, h.dueTwo hL hq, due_nd, due_nd, due_ab h.can.tp, due_ab h.can.bt, Nat.lt_of_le_of_lt (due_len h.can.tp) (by decide), Nat.lt_of_le_of_lt (due_len h.can.bt) (by decide), ?_⟩
    rw [due_nrm h.can.tp, due_nrm h.can.bt]
    exact z
end
end K77
namespace K77
open PySem PySem.Spec PyProof.Rows L2 AS Pn LamX XC
local macro_rules | `(tactic| walk_at "ev") => `(tactic| first
  | exact ev_vd rfl
  | exact ev_vp rfl
  | exact ev_int _
  | exact ev_non
  | exact ev_bl _
  | exact ev_str _
  | assumption
  | (apply ev_addI <;> walk_at "ev")
  | (apply ev_sub <;> walk_at "ev")
  | (apply ev_neg; walk_at "ev")
  | (apply ev_abs; walk_at "ev")
  | (apply ev_intA; walk_at "ev")
  | (apply ev_lt <;> walk_at "ev")
  | (apply ev_le <;> walk_at "ev")
  | (apply ev_gt <;> walk_at "ev")
  | (apply ev_ge <;> walk_at "ev")
  | (apply ev_eqI <;> walk_at "ev")
  | (apply ev_neI <;> walk_at "ev")
  | (apply ev_isN; walk_at "ev")
  | (apply ev_notN; walk_at "ev")
  | (apply ev_isi (by walk_at "ev") rfl; rfl)
  | skip)
local macro_rules | `(tactic| walk_at "ea") => `(tactic| first
  | exact ea_nil
  | (apply ea_cons; walk_at "ev"; walk_at "ea"))
local macro_rules | `(tactic| walk_at "call") => `(tactic| (first
  | exact (fun vs H Q h => ⟨_, h⟩)
  | exact (fun vs H Q h => ⟨_, _, h⟩)
  | exact (fun vs H Q h => ⟨_, _, _, h⟩)))

/-- what the lambda's callee raises goes on to the def that called the lambda -/
theorem passLam {X : Cx} {A : Around} {outer : List Env} {s : Shared} {H : Hp} {E : XK} {scope : Scope} {f c' : Addr} : Passes (L2.CX X.prog X.w) (lamCx X A outer s H E scope f c') E :=
  passes_call (X := lamCx X A outer s H E scope f c') (takes_of rfl rfl rfl rfl) fun _ _ _ _ h => h
theorem pe_lamco {X : Cx} (T : Tx X.K X.mg) {A : Around} {outer : List Env} {s : Shared} {H : Hp} {E : XK} {scope : Scope} {f c' : Addr} {e : Expr} {es : List Expr} {t : TA} {p pos : Pos} (hr : Room 12 (A.deeper (lamEnv X scope s.heap.objs.size f c'))) (hl : List.lookup (Str.ofString "called_one") scope.names = some NameKind.globalImplicit)
    (ha : PA (lamCx X A outer s H E scope f c') (e :: es) t) (he : starEach (e :: es) (lamCx X A outer s H E scope f c').env = (false, eval e (lamCx X A outer s H E scope f c').env) :: starEach es (lamCx X A outer s H E scope f c').env := by rfl) (hpl : (backTo pos (starEach es (lamCx X A outer s H E scope f c').env)).any (·.1) = false := by rfl) :
    PE (lamCx X A outer s H E scope f c') (.Call (.Name "called_one" p) (e :: es) [] pos) (tCall (spCX X.K X.mg) [] E t) :=
  pe_calX (X := lamCx X A outer s H E scope f c') (ok_called_oneX (P := X.prog) (w := X.w) (base := X.base) T) (passLam (X := X) (A := A) (outer := outer) (s := s) (H := H) (E := E) (scope := scope) (f := f) (c' := c')) hr hl ha (by decide) he hpl
theorem pe_lamerr {X : Cx} (T : Tx X.K X.mg) {c Pt : Addr} {body : Expr} {params : Arguments} {scope : Scope} {k : Nat} {t : XK → TE} {p lpos pos : Pos} (TB : TabB X.base X.mg c Pt) (hcode : X.env.code = .ref c) (hr : Room (k + 2) X.A) (hg : Gl X "_law_error") (L : LamS X.env.scope scope)
    (hbody : ∀ (A : Around) (outer : List Env) (s : Shared) (H : Hp) (E : XK) (f c' : Addr), Room k (A.deeper (lamEnv X scope s.heap.objs.size f c')) → PE (lamCx X A outer s H E scope f c') body (t E))
    (hdef : defaultsOf params X.env = ([], []) := by rfl) (hbind : ∀ (q : Str) (cl : List (Str × Addr)) (pm cv ctv : Value), bindArgs (PySem.W.kla_fn "<lambda>" q params body scope cl pm cv ctv) ⟨[], []⟩ = pure [] := by intros; rfl) :
    PE X (.Call (.Name "_law_error" p) [.Lambda params body scope lpos] [] pos) (tLam [(Pt, X.env.qual ++ "<lambda>")] (TTz (CZ X.mg)) t) := by
  obtain ⟨g, fd, F, hm⟩ := T.f__law_error
  obtain ⟨oc, od, kV, doc, pm, an, cdv, ct, osl, rfl, lk, hcd⟩ := F.ex
  exact pe_lamcall hg hm F.kp lk hcd (Fun.binds F (fun _ _ _ _ _ _ us hl => match us, hl with | [_], _ => rfl)) sc__law_error rfl (.inl (by decide +kernel)) (err_gives T) TB hcode (by simp) (fun p hp _ => by simp at hp; rw [hp]) hr L hdef hbind hbody
section
variable {P : Program} {w : World} {K : PySem.W.Frag} {mg : Str → Option Value} {base : Heap}
abbrev sv (ns : List Int) (x2 x3 x4 x5 x6 x7 x8 x9 x10 x11 x12 x13 : En) : List En := [.dat (.rl (ns.map .int)), .ptr 0, x2, x3, x4, x5, x6, x7, x8, x9, x10, x11, x12, x13]
theorem _root_.AS.SDT.start {Pt : Addr} {q : Str} {t : TS} {es : List En} {F Hb H : Hp} {σ : L2.St} {Q : VK} (hb : SDT K Pt q t es [] ⟨fun _ _ => False, fun e _ => e = .dat (.bl true), fun _ _ => False, fun _ _ => False⟩) (fr : Fr Pt q F) (S : ST K F Hb H σ es [] []) (h : ∀ H', Q (.bl true) H') : t { nx := fun _ H' => Q .non H', rt := Q } σ H :=
  hb F Hb H σ [] _ fr S ⟨fun _ _ _ _ _ _ _ x => x.elim, fun v F Hb H σ as es W e h1 _ _ r => by subst h1; cases r; exact h _, fun _ _ _ _ _ _ _ x => x.elim, fun _ _ _ _ _ _ _ x => x.elim⟩
def spLaw (K : PySem.W.Frag) (Pt : Addr) : Sp := fun vs H Q _ => ∃ (a : Addr) (ns : List Int), vs = [.ref a] ∧ H Pt = some (.tbl #[]) ∧ SqL K H a (ns.map V.int) ∧ ns.length ≤ 63 ∧ ∀ H', Q (.bl true) H'
theorem sc_law : FnScope N_law P_law (defScope s_law) := ⟨rfl, rfl, rfl, by decide +kernel, rfl, by decide +kernel, by decide +kernel⟩
theorem law_body (T : Tx K mg) {f c Pt : Addr} (TB : TabB base mg c Pt) {A : Around} {outer : List Env} {s : Shared} {H : Hp} {vs : List V} {Q : VK} {E : XK} (hr : Room 20 (A.deeper (envOfC "law" (defScope s_law) s.heap.objs.size f (.ref c)))) (h : spLaw K Pt vs H Q E) :
    ∃ t, PSs (cxOf CX0 P w K mg base N_law "law" (defScope s_law) f (.ref c) A outer s H E).nox (defBody s_law) t ∧ t { nx := fun _ H' => Q .non H', rt := Q } (L2.start N_law vs) H := by
  obtain ⟨a0, ns, rfl, hP, hs, hn, hq⟩ := h
  have aP : ∀ xs, SqL K H a0 xs → SqL K (fun b => if b = Pt then none else H b) a0 xs := fun xs h => sqP_l (fun b o hb pl => by
    show (if b = Pt then none else H b) = some o
    rw [if_neg (fun z => by rw [z, hP] at hb; cases hb; exact pl.1 _ rfl)]; exact hb) h
  refine ⟨_, (pss_cons (ps_set (i := 1) sc_law.nd rfl (Or.inl rfl) (pe_cal (ok__law_pen T) (hr.mono (by decide)) rfl (pa_cons (pv 0) pa_nil)))
 (pss_cons (ps_for PassesOwn.never rfl (pi_range1 rfl T.b_range (pa_cons pe_int pa_nil)) (pg_name (i := 2) sc_law.nd rfl (Or.inl rfl))
 (pss_cons (ps_set (i := 3) sc_law.nd rfl (Or.inl rfl) (pe_op (op_addX) pe_int (pe_cal (ok__law_draw T) (hr.mono (by decide)) rfl (pa_cons (pv 1) (pa_cons pe_int pa_nil)))))
 (pss_cons (ps_asg (pe_tup (pa_cons (pe_ix ix_seq (pe_cal (ok__law_quotient T) (hr.mono (by decide)) rfl (pa_cons (pv 1) (pa_cons (pv 3) pa_nil))) pe_int (fun _ _ => rfl)) (pa_cons (pe_lst pa_nil) pa_nil))) (pg_tup rfl (pgs_cons (pg_name (i := 7) sc_law.nd rfl (Or.inl rfl)) (pgs_cons (pg_name (i := 8) sc_law.nd rfl (Or.inr rfl)) pgs_nil))))
 (pss_cons (ps_for PassesOwn.never rfl (pi_range1 rfl T.b_range (pa_cons (pv 3) pa_nil)) (pg_name (i := 4) sc_law.nd rfl (Or.inl rfl))
 (pss_one (ps_set (i := 8) sc_law.nd rfl (Or.inr rfl) (pe_op (op_addX) (pv 8) (pe_ifExp (pt_cmpR (op_eqA hr.units) (pe_cal (ok__law_draw T) (hr.mono (by decide)) rfl (pa_cons (pv 1) (pa_cons pe_int pa_nil))) pe_int (nomark _)) (pe_lst (pa_cons (pv 4) pa_nil)) (pe_lst pa_nil))))))
 (pss_cons (ps_if (PW.pt (pw_and (pt_cmpR (op_neA hr.units) (pv 8) (pe_lst pa_nil) (nomark _)) (pw_and1 (pt_cmpR (op_eqA hr.units) (pe_cal (ok__law_draw T) (hr.mono (by decide)) rfl (pa_cons (pv 1) (pa_cons pe_int pa_nil))) pe_int (nomark _)))))
 (pss_cons (ps_set (i := 9) sc_law.nd rfl (Or.inl rfl) (pe_callTy call_tuple_of (by rfl) T.b_tuple (by decide +kernel) (pa_cons (pe_lc (own := [("_law_j", 4)]) rfl sc_law.nd (pi_range1 rfl T.b_range (pa_cons (pv 3) pa_nil)) (blkOk_by (own := [("_law_j", 4)]) (N := N_law) (sc := defScope s_law) (by decide +kernel))
 (fun _ _ _ _ _ => (pg_name (i := 4) sc_law.nd rfl (Or.inl rfl))) (fun _ _ _ _ _ => pts_nil) (fun _ _ _ _ _ => (pe_callTy call_intA (by rfl) T.b_int (by decide +kernel) (pa_cons (pe_cmpR (show OpR _ (compareOp .Eq) (rEqA K) from (op_eqA hr.units)) (pv 4) (pe_ix (show IxR _ (rIx K) from ix_seq) (pv 8) pe_int (fun _ _ => rfl)) (nomark _)) pa_nil)))) pa_nil)))
 (pss_one (ps_set (i := 7) sc_law.nd rfl (Or.inl rfl) (pe_tup (pa_cons (pe_ix ix_seq (pv 7) pe_int (fun _ _ => rfl)) (pa_cons (pe_cal (ok__law_poly_times T) (hr.mono (by decide)) rfl (pa_cons (pe_ix ix_seq (pv 7) pe_int (fun _ _ => rfl)) (pa_cons (XC.pe_frzV (XC.pe_dispT (u64 hr) (pps_cons (pv 9) pe_int (pps_cons (pe_op XC.op_repX (pe_tup (pa_cons pe_int pa_nil)) (pv 3)) (pe_un un_neg pe_int) pps_nil)) (by rfl) (by rfl) (fun z => by cases z) (by decide))) pa_nil))) pa_nil))))))
 pss_nil)
 (pss_cons (ps_asg (pe_tup (pa_cons (pe_cal (ok__law_made T) (hr.mono (by decide)) rfl (pa_cons (pv 7) (pa_cons (pv 3) pa_nil))) (pa_cons (pe_cal (ok__law_pick T) (hr.mono (by decide)) rfl (pa_cons (pv 1) (pa_cons (pe_lst (pa_cons (pv 8) (pa_cons (pe_callTy call_tuple_of (by rfl) T.b_tuple (by decide +kernel) (pa_cons (pe_revL (pv 8)) pa_nil)) pa_nil))) pa_nil))) pa_nil))) (pg_tup rfl (pgs_cons (pg_name (i := 10) sc_law.nd rfl (Or.inr rfl)) (pgs_cons (pg_name (i := 11) sc_law.nd rfl (Or.inr rfl)) pgs_nil))))
 (pss_cons (ps_set (i := 5) sc_law.nd rfl (Or.inl rfl) (pe_cal (ok__law_told_quotient T) (hr.mono (by decide)) rfl (pa_cons (pv 10) (pa_cons (pv 3) pa_nil))))
 (pss_cons (ps_par (i := 12) (j := 13) (by rfl) sc_law.nd rfl rfl (by decide) rfl rfl (pa_cons (pe_callTy call_list_of (by rfl) T.b_list (by decide +kernel) (pa_cons (pv 11) pa_nil)) (pa_cons (pe_tup (pa_cons (pe_cal (ok__law_left_out T) (hr.mono (by decide)) rfl (pa_cons (pe_ix ix_seq (pv 5) pe_int (fun _ _ => rfl)) (pa_cons (pv 8) pa_nil))) (pa_cons (pe_cal (ok__law_left_out T) (hr.mono (by decide)) rfl (pa_cons (pe_ix ix_seq (pv 5) pe_int (fun _ _ => rfl)) (pa_cons (pv 8) pa_nil))) pa_nil))) pa_nil)) (by rfl))
 (pss_cons (ps_if (pt_cmpR (XC.op_eqEm (u64 hr)) (pe_ix ix_seq (pv 13) pe_int (fun _ _ => rfl)) pe_dnewT (nomark _))
 (pss_cons (ps_if (pt_cmpR (op_neA hr.units) (pe_lamerr (k := 12) T TB rfl (hr.mono (by decide)) rfl (lamS_by (show lamSB (defScope s_law) _ = true from by decide +kernel)) (fun A2 outer2 s2 H2 E2 f2 c2 hr2 => pe_lamco T hr2 rfl (pa_cons (pv 10) (pa_cons (pv 11) pa_nil)))) (pe_lst (pa_cons pe_str (pa_cons pe_int pa_nil))) (nomark _))
 (pss_one (ps_ret pe_bl))
 pss_nil)
 (pss_one ps_continue))
 pss_nil)
 (pss_cons (ps_set (i := 6) sc_law.nd rfl (Or.inl rfl) (pe_cal (ok_called_one T) (hr.mono (by decide)) rfl (pa_cons (pv 10) (pa_cons (pv 11) pa_nil))))
 (pss_cons (ps_if (PW.pt (pw_or (pt_cmpR (op_neQuo T (hr.mono (by decide))) (pv 6) (pe_cal (ok__law_made T) (hr.mono (by decide)) rfl (pa_cons (pv 13) (pa_cons (pv 3) pa_nil))) (nomark _)) (pw_or (pt_cmpR (op_neA hr.units) (pe_fld (pv 6) rfl) (pv 3) (nomark _)) (pw_or1 (pt_cmpR (op_neA hr.units) (pe_callTy call_list_of (by rfl) T.b_list (by decide +kernel) (pa_cons (pv 11) pa_nil)) (pv 12) (nomark _))))))
 (pss_one (ps_ret pe_bl))
 pss_nil)
 (pss_one (ps_if (PW.pt (pw_and (pt_cmpR (op_eqA hr.units) (pv 8) (pe_lst pa_nil) (nomark _)) (pw_and1 (pt_cmpR (op_neQuo T (hr.mono (by decide))) (pv 6) (pv 10) (nomark _)))))
 (pss_one (ps_ret pe_bl))
 pss_nil)))))))))))))
 (pss_one (ps_ret pe_bl)))), ?_⟩
  have S0 : ST K (fun b => if b = Pt then some (.tbl #[]) else none) (fun b => if b = Pt then none else H b) H (L2.start N_law [.ref a0]) [.dat (.rl (ns.map .int)), .un, .un, .un, .un, .un, .un, .un, .un, .un, .un, .un, .un, .un] [] [] := by
    refine ⟨fun b o q => ?_, fun b o q => ?_, fun b o q => ?_, rfl, fun i a c q => by simp at q, fun i j a c d q => by simp at q, rfl, fun i e he => ?_⟩
    · split at q
      · cases q
      · exact q
    · split at q
      · rename_i z; cases q; rw [z]; exact hP
      · cases q
    · split at q
      · rename_i z; cases q; exact ⟨if_pos z, fun xs z2 => by cases z2⟩
      · cases q
    · match i with
      | 0 => cases he; exact RS.of (e := .dat (.rl (ns.map .int))) (.rl (aP _ hs) (DtA.ints ns))
      | 1 | 2 | 3 | 4 | 5 | 6 | 7 | 8 | 9 | 10 | 11 | 12 | 13 => cases he; trivial
      | i + 14 => simp at he
  generalize (cxOf CX0 P w K mg base N_law "law" (defScope s_law) f (.ref c) A outer s H E).nox.env.qual ++ "<lambda>" = qq
  refine SDT.start (q := qq) ?_ Fr.first S0 (fun H' => hq H')
  refine sdt_then (sd_asg (ev_callN (l := [.rl (ns.map .int)]) (ea_cons (ev_vd rfl) ea_nil) (fun vs H Q h => ⟨ns, h⟩) (Pen.cl _ _) rfl)) ?_
  refine sdt_seq (M := fun e w => ∃ (p : Pen) (R : List Cn) (x2 x3 x4 x5 x6 x7 x8 x9 x10 x11 x12 x13 : En), e = sv ns x2 x3 x4 x5 x6 x7 x8 x9 x10 x11 x12 x13 ∧ w = p.cn :: R) ?_ fun e w _ => sdt_of (sd_ret (ev_bl true) rfl)
  refine sdt_rng (n := 4) (ea_cons (ev_int 4) ea_nil) (by decide) (fun i e w => ∃ (p : Pen) (R : List Cn) (x2 x3 x4 x5 x6 x7 x8 x9 x10 x11 x12 x13 : En), e = sv ns x2 x3 x4 x5 x6 x7 x8 x9 x10 x11 x12 x13 ∧ w = p.cn :: R ∧ PenOk (400 * i) p)
    ⟨_, _, .un, .un, .un, .un, .un, .un, .un, .un, .un, .un, .un, .un, rfl, rfl, pen0_ok ns⟩ ?_ (fun e w ⟨p, R, x2, x3, x4, x5, x6, x7, x8, x9, x10, x11, x12, x13, h1, h2, _⟩ => ⟨p, R, x2, x3, x4, x5, x6, x7, x8, x9, x10, x11, x12, x13, h1, h2⟩)
  rintro i e w hi ⟨p, R, x2, x3, x4, x5, x6, x7, x8, x9, x10, x11, x12, x13, rfl, rfl, hp⟩
  have hi : i < 4 := hi
  show SDT K Pt _ _ (sv ns (.dat (.int (0 + (i : Int)))) x3 x4 x5 x6 x7 x8 x9 x10 x11 x12 x13) _ _
  generalize En.dat (.int (0 + (i : Int))) = x2
  have hr3 := draw_range p (m := 3) (by decide)
  obtain ⟨n, hnn⟩ : ∃ n : Nat, 1 + (draw p 3).1 = (n : Int) := ⟨(1 + (draw p 3).1).toNat, by omega⟩
  have n1 : 1 ≤ n := by omega
  have n2 : n ≤ 3 := by omega
  have p1 := hp.draw (m := 3) (by decide)
  refine sdt_then (es1 := sv ns x2 (.dat (.int n)) x4 x5 x6 x7 x8 x9 x10 x11 x12 x13) (W1 := (draw p 3).2.cn :: R) (sd_asg (ev_is (ev_addI (ev_int 1) (ev_draw (R := R) (ea_cons (ev_vp rfl) (ea_cons (ev_int 3) ea_nil)) hp (by omega) (by decide) (by decide))) (by rw [hnn]))) ?_
  generalize (draw p 3).2 = q1 at p1
  refine sdt_asgGP (js := [7, 8]) (evp_tup (post := fun e w => ∃ (a b : M) (q : Pen), e = .dat (.tup [.tup [dD a, dD b], .lst []]) ∧ w = q.cn :: R ∧ PenOk (400 * i + 201) q ∧ QOk n a b) (eap_cons (evp_ix (post2 := fun e w => ∃ (a b : M) (q : Pen), e = .dat (.tup [dD a, dD b]) ∧ w = q.cn :: R ∧ PenOk (400 * i + 201) q ∧ QOk n a b) (evp_qu (R := R) (ea_cons (ev_vp rfl) (ea_cons (ev_vd rfl) ea_nil)) p1 (by omega) n1 n2) ?_) ?_)) ?_
  · rintro e w ⟨a, b, x, q, rfl, rfl, hq', ok⟩
    exact ⟨_, _, rfl, rfl, a, b, q, rfl, rfl, hq'.mono (by omega), ok⟩
  · rintro e w ⟨a, b, q, rfl, rfl, hq', ok⟩
    exact eap_consV (ev_lst (l := []) ea_nil (by simp)) (eap_nil ⟨by simp, [.tup [dD a, dD b], .lst []], rfl, a, b, q, rfl, rfl, hq', ok⟩)
  rintro e w ⟨a, b, q2, rfl, rfl, hq2, ok⟩
  refine ⟨_, eg_tup2, ?_⟩
  show SDT K Pt _ _ (sv ns x2 (.dat (.int n)) x4 x5 x6 (.dat (.tup [dD a, dD b])) (.dat (.lst (([] : List Int).map D.int))) x9 x10 x11 x12 x13) (q2.cn :: R) _
  -- the letters
  refine sdt_seq (M := fun e w => ∃ (L : List Int) (x4 : En) (q : Pen), e = sv ns x2 (.dat (.int n)) x4 x5 x6 (.dat (.tup [dD a, dD b])) (.dat (.lst (L.map D.int))) x9 x10 x11 x12 x13 ∧ w = q.cn :: R ∧ PenOk (400 * i + 205) q ∧ LOk n L) (sdt_of (sd_for (ei_rng1 (n := (n : Int)) (ea_cons (ev_vd rfl) ea_nil) (by omega)) (fun j e w => ∃ (L : List Int) (x4 : En) (q : Pen), e = sv ns x2 (.dat (.int n)) x4 x5 x6 (.dat (.tup [dD a, dD b])) (.dat (.lst (L.map D.int))) x9 x10 x11 x12 x13 ∧ w = q.cn :: R ∧ PenOk (400 * i + 201 + j) q ∧ L.Nodup ∧ (∀ x ∈ L, 0 ≤ x ∧ x < (j : Int)) ∧ L.length ≤ j)
    ⟨[], x4, q2, rfl, rfl, hq2, List.nodup_nil, by simp, by simp⟩ (fun _ _ _ _ => trivial) ?_ ?_)) ?_
  · rintro j x e w hx ⟨L, y4, q, rfl, rfl, hq', nd, rg, ln⟩
    obtain ⟨hj, rfl⟩ := rngE_of hx
    have hj : j < n := by omega
    refine ⟨[4], _, eg_name, ?_⟩
    have hq3 := hq'.draw (m := 2) (by decide)
    have dr : ∀ {es : List En}, es[1]? = some (.ptr 0) → EV K (tOp (rEqA K) (tCall (spDraw K) [] E0 (tCons (tVar 1) (tCons (tC (.int 2)) tNil))) (tC (.int 0))) es (q.cn :: R) _ ((draw q 2).2.cn :: R) := fun {es} h1 => ev_eqI (ev_draw (R := R) (ea_cons (ev_vp h1) (ea_cons (ev_int 2) ea_nil)) hq' (by omega) (by decide) (by decide)) (ev_int 0)
    by_cases hd : (draw q 2).1 = 0
    · refine sd_of (sd_asg (e := .dat (.lst ((L ++ [(j : Int)]).map D.int))) (W1 := (draw q 2).2.cn :: R) (ev_is (ev_cat (l := L.map D.int) (m := [.int (0 + (j : Int))]) (ev_vd rfl) (ev_ifT (et_test (ev_is (dr rfl) (by rw [hd]; rfl))) (ev_lst (l := [.int (0 + (j : Int))]) (ea_cons (ev_vd rfl) ea_nil) (by simp))) rfl rfl (by simp; omega)) (by rw [List.map_append, Int.zero_add]; rfl))) ⟨L ++ [(j : Int)], .dat (.int (0 + (j : Int))), _, rfl, rfl, hq3.mono (by omega), ?_, ?_, ?_⟩
      · rw [List.nodup_append]
        exact ⟨nd, by simp, fun x hx y hy => by simp at hy; subst hy; have := rg x hx; omega⟩
      · intro x hx
        rcases List.mem_append.mp hx with hx | hx
        · have := rg x hx; omega
        · simp at hx; omega
      · simp; omega
    · refine sd_of (sd_asg (e := .dat (.lst (L.map D.int))) (W1 := (draw q 2).2.cn :: R) (ev_is (ev_cat (l := L.map D.int) (m := []) (ev_vd rfl) (ev_ifF (et_test (ev_is (dr rfl) (by rw [decide_eq_false hd]))) (ev_lst (l := []) ea_nil (by simp))) rfl rfl (by simp; omega)) (by rw [List.append_nil]))) ⟨L, .dat (.int (0 + (j : Int))), _, rfl, rfl, hq3.mono (by omega), nd, fun x hx => by have := rg x hx; omega, by omega⟩
  · rintro e w ⟨L, y4, q, rfl, rfl, hq', nd, rg, ln⟩
    rw [rngE_length] at hq' rg ln
    exact ⟨L, y4, q, rfl, rfl, hq'.mono (by omega), nd, fun x hx => by have := rg x hx; omega, by omega⟩
  rintro e w ⟨L, y4, q3, rfl, rfl, hq3, hL⟩
  have flL : ∀ x : List Int, (x.map D.int).all (D.flat 9) = true := fun x => by simp [D.flat]
  have isE : ∀ x : List Int, x ≠ [] → (x.map D.int).isEmpty = false := fun x hx => by cases x with
    | nil => exact absurd rfl hx
    | cons y r => rfl
  -- a bottom that becomes 0
  refine sdt_seq (M := fun e w => ∃ (a b : M) (x9 : En) (q : Pen) (R : List Cn), e = sv ns x2 (.dat (.int n)) y4 x5 x6 (.dat (.tup [dD a, dD b])) (.dat (.lst (L.map D.int))) x9 x10 x11 x12 x13 ∧ w = q.cn :: R ∧ PenOk (400 * i + 210) q ∧ Raw n a b) (sdt_of ?_) ?_
  · by_cases hL0 : L = []
    · subst hL0
      exact sd_if (b := false) (et_andF (et_test (ev_is (ev_neNil (l := []) (ev_vd rfl) rfl rfl) rfl))) (fun hb => by cases hb) (fun _ => sd_next ⟨a, b, x9, q3, R, rfl, rfl, hq3.mono (by omega), ok.raw n1 n2⟩)
    · have hq4 := hq3.draw (m := 4) (by decide)
      refine sd_if (b := decide ((draw q3 4).1 = 0)) (et_andT (et_test (ev_is (ev_neNil (l := L.map D.int) (ev_vd rfl) rfl (flL L)) (by rw [isE L hL0]; rfl))) (et_test (ev_eqI (ev_draw (R := R) (ea_cons (ev_vp rfl) (ea_cons (ev_int 4) ea_nil)) hq3 (by omega) (by decide) (by decide)) (ev_int 0)))) (fun hb => ?_) (fun hb => sd_next ⟨a, b, x9, _, R, rfl, rfl, hq4.mono (by omega), ok.raw n1 n2⟩)
      generalize (draw q3 4).2 = q4 at hq4
      obtain ⟨z, L', rfl⟩ := List.exists_cons_of_ne_nil hL0
      have hz := hL.rg z (by simp)
      have hrg := ei_rng1 (K := K) (n := (n : Int)) (ta := tCons (tVar 3) tNil) (es := sv ns x2 (.dat (.int n)) y4 x5 x6 (.dat (.tup [dD a, dD b])) (.dat (.lst ((z :: L').map D.int))) x9 x10 x11 x12 x13) (W := q4.cn :: R) (ea_cons (ev_vd rfl) ea_nil) (by omega)
      rw [show ((n : Int)).toNat = n by omega] at hrg
      refine sd_then (es1 := sv ns x2 (.dat (.int n)) y4 x5 x6 (.dat (.tup [dD a, dD b])) (.dat (.lst ((z :: L').map D.int))) (.dat (.key (oneK n z))) x10 x11 x12 x13) (W1 := q4.cn :: R) (sd_asg (e := .dat (.key (oneK n z))) (ev_tupleK (l := oneK n z) (e1 := .dat (.lst ((oneK n z).map D.int))) (ev_is (ev_lcM (m := List.range n) (f := fun (j : Nat) => D.int (if (j : Int) = z then 1 else 0)) (js := [4]) hrg (by simp; omega) trivial (by simp) fun j hj => ⟨_, eg_name, ev_is (ev_intAB (ev_eqI (ev_vd rfl) (ev_ix (l := ((z :: L').map D.int).map .dat) (e := .dat (.int z)) (ev_vd rfl) (ev_int 0) rfl (atI_nat (j := 0) rfl)))) (by rw [Int.zero_add]; by_cases h : (j : Int) = z <;> simp [h])⟩) (by unfold oneK; rw [List.map_map]; rfl)) rfl)) ?_
      refine sd_of (sd_asg (e := .dat (.tup [dD a, dD (pm b (facM n z))])) (W1 := q4.cn :: (R ++ [.gone])) (ev_tup (l := [dD a, dD (pm b (facM n z))]) (ea_cons (ev_ix (l := [.dat (dD a), .dat (dD b)]) (ev_vd rfl) (ev_int 0) rfl rfl) (ea_cons (ev_callD (l := [dD b, dD (facM n z)]) (ea_cons (ev_ix (l := [.dat (dD a), .dat (dD b)]) (ev_vd rfl) (ev_int 1) rfl rfl) (ea_cons ?_ ea_nil)) (fun vs H Q h => ⟨b, facM n z, n, 6, 2, 7, 2, 1500, 1, ok.pb, fac_PD hz, by decide, by decide, by decide, by omega, h⟩)) ea_nil)) (by simp))) ⟨a, _, _, _, _, rfl, rfl, hq4.mono (by omega), ok.rawF n1 n2 hz⟩
      have hdis := ev_dispT (K := K) (l := dI (facM n z)) (es := sv ns x2 (.dat (.int n)) y4 x5 x6 (.dat (.tup [dD a, dD b])) (.dat (.lst ((z :: L').map D.int))) (.dat (.key (oneK n z))) x10 x11 x12 x13) (W := q4.cn :: R) (W1 := q4.cn :: R) (trs := [(tVar 9, tC (.int 1)), (tOp (rRepX K) (tTup (tCons (tC (.int 0)) tNil)) (tVar 3), tUn (rU fun i => .int (-i)) (tC (.int 1)))])
        (ept_cons (ev_vd rfl) (ev_int 1) (ept_cons (ev_repK (ev_tupK (l := [0]) (ea_cons (ev_int 0) ea_nil) (by simp)) (ev_vd rfl) n1 (by omega)) (ev_neg (ev_int 1)) ept_nil)) (by simp [facM, dF])
      rw [merge_nd (fac_PD hz).nd] at hdis
      have hf := ev_frzV (kvs := dI (facM n z)) hdis (by simp)
      rw [kd_dD] at hf
      have e2 : ((q4.cn :: R) ++ [Cn.dt (dI (facM n z))]).set (q4.cn :: R).length .gone = q4.cn :: (R ++ [.gone]) := by simp
      rw [e2] at hf
      exact hf
  rintro e w ⟨a, b, y9, q4, R, rfl, rfl, hq4, raw⟩
  -- what is passed
  obtain ⟨d, hd, hdm⟩ := pick_get (p := q4) (l := [.lst (L.map D.int), .tup (L.reverse.map D.int)]) (by simp)
  have hd2 : d = .lst (L.map D.int) ∨ d = .tup (L.reverse.map D.int) := by simpa using hdm
  have hq5 := hq4.draw (m := 2) (by decide)
  refine sdt_then (es1 := sv ns x2 (.dat (.int n)) y4 x5 x6 (.dat (.tup [dD a, dD b])) (.dat (.lst (L.map D.int))) y9 (.dat (quoD mg n (mp n a b) (mq n a b))) (.dat d) x12 x13) (W1 := (draw q4 2).2.cn :: R) (sd_asgG (ev_tup (l := [quoD mg n (mp n a b) (mq n a b), d]) (ea_cons (ev_made (ea_cons (ev_vd rfl) (ea_cons (ev_vd rfl) ea_nil)) raw) (ea_cons (ev_pick (R := R) (l := [.lst (L.map D.int), .tup (L.reverse.map D.int)]) (ea_cons (ev_vp rfl) (ea_cons (ev_lst (l := [.lst (L.map D.int), .tup (L.reverse.map D.int)]) (ea_cons (ev_vd rfl) (ea_cons (ev_tupleL (l := L.reverse.map D.int) (e1 := .dat (.lst (L.reverse.map D.int))) (ev_is (ev_revL (l := L.map D.int) (ev_vd rfl) rfl) (by rw [List.map_reverse])) rfl) ea_nil)) (by simp)) ea_nil)) hq4 (by omega) (by simp) (by simp) hd) ea_nil)) (by simp)) eg_tup2) ?_
  generalize (draw q4 2).2 = q5 at hq5
  refine sdt_then (es1 := sv ns x2 (.dat (.int n)) y4 (.dat (.tup [dD (mp n a b), dD (mq n a b)])) x6 (.dat (.tup [dD a, dD b])) (.dat (.lst (L.map D.int))) y9 (.dat (quoD mg n (mp n a b) (mq n a b))) (.dat d) x12 x13) (W1 := q5.cn :: R) (sd_asg (ev_own (ea_cons (ev_vd rfl) (ea_cons (ev_vd rfl) ea_nil)) raw)) ?_
  obtain ⟨M', hM⟩ : ∃ M' : List Int, Lt M' d := by
    rcases hd2 with rfl | rfl
    · exact ⟨L, .inl rfl⟩
    · exact ⟨L.reverse, .inr rfl⟩
  refine sdt_then (es1 := sv ns x2 (.dat (.int n)) y4 (.dat (.tup [dD (mp n a b), dD (mq n a b)])) x6 (.dat (.tup [dD a, dD b])) (.dat (.lst (L.map D.int))) y9 (.dat (quoD mg n (mp n a b) (mq n a b))) (.dat d) (.dat (.lst (M'.map D.int))) (.dat (.tup [dD (due L (mp n a b)), dD (due L (mq n a b))]))) (W1 := q5.cn :: R) (sd_par (e1 := .dat (.lst (M'.map D.int))) (e2 := .dat (.tup [dD (due L (mp n a b)), dD (due L (mq n a b))])) (ea_cons (ev_list (l := M'.map D.int) (ev_vd rfl) hM.seq) (ea_cons (ev_tup (l := [dD (due L (mp n a b)), dD (due L (mq n a b))]) (ea_cons (ev_left (ea_cons (ev_ix (l := [.dat (dD (mp n a b)), .dat (dD (mq n a b))]) (ev_vd rfl) (ev_int 0) rfl rfl) (ea_cons (ev_vd rfl) ea_nil)) raw.can.tp n2) (ea_cons (ev_left (ea_cons (ev_ix (l := [.dat (dD (mp n a b)), .dat (dD (mq n a b))]) (ev_vd rfl) (ev_int 1) rfl rfl) (ea_cons (ev_vd rfl) ea_nil)) raw.can.bt n2) ea_nil)) (by simp)) ea_nil))) ?_
  have hdue := due_nil (L := L) raw.can.bt
  have hem : ∀ x : M, (dI x).isEmpty = x.isEmpty := fun x => by cases x <;> rfl
  have tem := ev_emT (K := K) (es := sv ns x2 (.dat (.int n)) y4 (.dat (.tup [dD (mp n a b), dD (mq n a b)])) x6 (.dat (.tup [dD a, dD b])) (.dat (.lst (L.map D.int))) y9 (.dat (quoD mg n (mp n a b) (mq n a b))) (.dat d) (.dat (.lst (M'.map D.int))) (.dat (.tup [dD (due L (mp n a b)), dD (due L (mq n a b))]))) (W := q5.cn :: R) (kvs := dI (due L (mq n a b))) (ev_ix (l := [.dat (dD (due L (mp n a b))), .dat (dD (due L (mq n a b)))]) (e := .dat (dD (due L (mq n a b)))) (ta := tVar 13) (tb := tC (.int 1)) (ev_vd rfl) (ev_int 1) rfl rfl) (dicE_dD _)
  rw [hem] at tem
  by_cases hz : nrm (loM L (mq n a b)) = []
  · have z1 : (due L (mq n a b)).isEmpty = true := by rw [hdue.mpr hz]; rfl
    rw [z1] at tem
    refine sdt_seq (M := fun e w => False) (sdt_if (b := true) (et_test tem) (fun _ => ?_) (fun hb => by cases hb)) (fun e w h => h.elim)
    refine sdt_seq (M := fun e w => e = sv ns x2 (.dat (.int n)) y4 (.dat (.tup [dD (mp n a b), dD (mq n a b)])) x6 (.dat (.tup [dD a, dD b])) (.dat (.lst (L.map D.int))) y9 (.dat (quoD mg n (mp n a b) (mq n a b))) (.dat d) (.dat (.lst (M'.map D.int))) (.dat (.tup [dD (due L (mp n a b)), dD (due L (mq n a b))])) ∧ w = q5.cn :: (R ++ [.dt []])) (sdt_iflam (args := [quoD mg n (mp n a b) (mq n a b), d]) (ea_cons (ev_vd rfl) (ea_cons (ev_vd rfl) ea_nil)) (told_zero raw hL hd2 hz) (sdt_of (sd_next ⟨rfl, rfl⟩))) ?_
    rintro e w ⟨rfl, rfl⟩
    exact sdt_of (sd_cont ⟨q5, _, _, _, _, _, _, _, _, _, _, _, _, _, rfl, rfl, hq5.mono (by omega)⟩)
  have hne : (due L (mq n a b)).isEmpty = false := by
    cases hq : due L (mq n a b) with
    | nil => exact absurd (hdue.mp hq) hz
    | cons x r => rfl
  rw [hne] at tem
  refine sdt_seq (M := fun e w => e = sv ns x2 (.dat (.int n)) y4 (.dat (.tup [dD (mp n a b), dD (mq n a b)])) x6 (.dat (.tup [dD a, dD b])) (.dat (.lst (L.map D.int))) y9 (.dat (quoD mg n (mp n a b) (mq n a b))) (.dat d) (.dat (.lst (M'.map D.int))) (.dat (.tup [dD (due L (mp n a b)), dD (due L (mq n a b))])) ∧ w = q5.cn :: (R ++ [.dt []])) (sdt_if (b := false) (et_test tem) (fun hb => by cases hb) (fun _ => sdt_of (sd_next ⟨rfl, rfl⟩))) ?_
  rintro e w ⟨rfl, rfl⟩
  refine sdt_then (es1 := sv ns x2 (.dat (.int n)) y4 (.dat (.tup [dD (mp n a b), dD (mq n a b)])) (.dat (quoD mg n (mkQ n (nrm (loM L (mp n a b))) (nrm (loM L (mq n a b)))).1 (mkQ n (nrm (loM L (mp n a b))) (nrm (loM L (mq n a b)))).2)) (.dat (.tup [dD a, dD b])) (.dat (.lst (L.map D.int))) y9 (.dat (quoD mg n (mp n a b) (mq n a b))) (.dat d) (.dat (.lst (M'.map D.int))) (.dat (.tup [dD (due L (mp n a b)), dD (due L (mq n a b))]))) (W1 := q5.cn :: (R ++ [.dt []])) (sd_asg (ev_told (d := d) (ea_cons (ev_vd rfl) (ea_cons (ev_vd rfl) ea_nil)) raw hL hd2 hz)) ?_
  refine sdt_seq (M := fun e w => e = sv ns x2 (.dat (.int n)) y4 (.dat (.tup [dD (mp n a b), dD (mq n a b)])) (.dat (quoD mg n (mkQ n (nrm (loM L (mp n a b))) (nrm (loM L (mq n a b)))).1 (mkQ n (nrm (loM L (mp n a b))) (nrm (loM L (mq n a b)))).2)) (.dat (.tup [dD a, dD b])) (.dat (.lst (L.map D.int))) y9 (.dat (quoD mg n (mp n a b) (mq n a b))) (.dat d) (.dat (.lst (M'.map D.int))) (.dat (.tup [dD (due L (mp n a b)), dD (due L (mq n a b))])) ∧ w = q5.cn :: (R ++ [.dt []])) (sdt_of (sd_if (b := false) (et_orF (et_test (ev_neOwn (G := GQ mg) (ev_vd rfl) (ev_dueM (ea_cons (ev_vd rfl) (ea_cons (ev_vd rfl) ea_nil)) raw hL hz) ⟨rfl, n, _, _, rfl⟩)) (et_orF (et_test (ev_is (ev_neI (ev_qsize T (ev_vd rfl)) (ev_vd rfl)) (by simp))) (et_test (ev_is (ev_neLI (a := M') (b := M') (ev_list (l := M'.map D.int) (ev_vd rfl) hM.seq) (ev_vd rfl)) (by simp))))) (fun hb => by cases hb) (fun _ => sd_next ⟨rfl, rfl⟩))) ?_
  rintro e w ⟨rfl, rfl⟩
  by_cases hL0 : L = []
  · subst hL0
    rw [raw.none]
    exact sdt_of (sd_if (b := false) (et_andT (et_test (ev_is (ev_eqNil (l := []) (ev_vd rfl) rfl rfl) rfl)) (et_test (ev_neOwn (G := GQ mg) (ev_vd rfl) (ev_vd rfl) ⟨rfl, n, _, _, rfl⟩))) (fun hb => by cases hb) (fun _ => sd_next ⟨q5, _, _, _, _, _, _, _, _, _, _, _, _, _, rfl, rfl, hq5.mono (by omega)⟩))
  · exact sdt_of (sd_if (b := false) (et_andF (et_test (ev_is (ev_eqNil (l := L.map D.int) (ev_vd rfl) rfl (flL L)) (by rw [isE L hL0])))) (fun hb => by cases hb) (fun _ => sd_next ⟨q5, _, _, _, _, _, _, _, _, _, _, _, _, _, rfl, rfl, hq5.mono (by omega)⟩))
theorem ok_law (T : Tx K mg) {fa c Pt : Addr} {kV doc pm ct oc : Value} {an od : Option Addr} {osl : Array (Option Value)} (TB : TabB base mg c Pt)
    (lk : K.lookup fa = some ⟨oc, od, .func (PySem.W.fnOf "law" "law" (defArgs s_law) (defBody s_law) (defScope s_law) .none kV doc pm an (.ref c) ct), osl⟩) (hcd : PySem.W.codeIn K (.ref c) "law" = true) :
    FnOk P w K mg base CX0 (20 + 1) fa (PySem.W.fnOf "law" "law" (defArgs s_law) (defBody s_law) (defScope s_law) .none kV doc pm an (.ref c) ct) P_law (spLaw K Pt) :=
  fn_of lk hcd sc_law (fun vs H Q E h => by obtain ⟨_, _, rfl, _⟩ := h; rfl) fun A outer s H vs Q E hr h => by
    obtain ⟨t, h1, h2⟩ := law_body T TB hr h
    exact ⟨t, h1.nox, h2⟩
end
end K77
/-! what the top has written, the head -/
namespace K77
open PySem PySem.Spec PyProof.Rows L2 AS LamX
theorem all_mk {l : PySem.W.OpenLaw} {w : World} {K : PySem.W.Frag} {h : Heap} {mg : Str → Option Value} {fa cA Pt Cp Cq Cz Cm Cn f0 f1 f2 f3 f4 f5 f6 f7 f8 f9 f10 f11 f12 f13 f14 f15 f16 f17 f18 f19 f20 f21 f22 f23 f24 f25 f26 f27 f28 f29 f30 f31 f32 f33 f34 fpi fpe fqi fqe fzi : Addr} (X : K.In h) (G : h.Ns mainGlobals mg) (hfa : mg "law" = some (.ref fa))
    {oc0 kV0 dc0 pm0 cd0 ct0 oc1 kV1 dc1 pm1 cd1 ct1 oc2 kV2 dc2 pm2 cd2 ct2 oc3 kV3 dc3 pm3 cd3 ct3 oc4 kV4 dc4 pm4 cd4 ct4 oc5 kV5 dc5 pm5 cd5 ct5 oc6 kV6 dc6 pm6 cd6 ct6 oc7 kV7 dc7 pm7 cd7 ct7 oc8 kV8 dc8 pm8 cd8 ct8 oc9 kV9 dc9 pm9 cd9 ct9 oc10 kV10 dc10 pm10 cd10 ct10 oc11 kV11 dc11 pm11 cd11 ct11 oc12 kV12 dc12 pm12 cd12 ct12 oc13 kV13 dc13 pm13 cd13 ct13 oc14 kV14 dc14 pm14 cd14 ct14 oc15 kV15 dc15 pm15 cd15 ct15 oc16 kV16 dc16 pm16 cd16 ct16 oc17 kV17 dc17 pm17 cd17 ct17 oc18 kV18 dc18 pm18 cd18 ct18 oc19 kV19 dc19 pm19 cd19 ct19 oc20 kV20 dc20 pm20 cd20 ct20 oc21 kV21 dc21 pm21 cd21 ct21 oc22 kV22 dc22 pm22 cd22 ct22 oc23 kV23 dc23 pm23 cd23 ct23 oc24 kV24 dc24 pm24 cd24 ct24 oc25 kV25 dc25 pm25 cd25 ct25 oc26 kV26 dc26 pm26 cd26 ct26 oc27 kV27 dc27 pm27 cd27 ct27 oc28 kV28 dc28 pm28 cd28 ct28 oc29 kV29 dc29 pm29 cd29 ct29 oc30 kV30 dc30 pm30 cd30 ct30 oc31 kV31 dc31 pm31 cd31 ct31 oc32 kV32 dc32 pm32 cd32 ct32 oc33 kV33 dc33 pm33 cd33 ct33 oc34 kV34 dc34 pm34 ct34 ocpi kVpi dcpi pmpi cdpi ctpi ocpe kVpe dcpe pmpe cdpe ctpe ocqi kVqi dcqi pmqi cdqi ctqi ocqe kVqe dcqe pmqe cdqe ctqe oczi kVzi dczi pmzi cdzi ctzi : Value} {od0 an0 od1 an1 od2 an2 od3 an3 od4 an4 od5 an5 od6 an6 od7 an7 od8 an8 od9 an9 od10 an10 od11 an11 od12 an12 od13 an13 od14 an14 od15 an15 od16 an16 od17 an17 od18 an18 od19 an19 od20 an20 od21 an21 od22 an22 od23 an23 od24 an24 od25 an25 od26 an26 od27 an27 od28 an28 od29 an29 od30 an30 od31 an31 od32 an32 od33 an33 od34 an34 odpi anpi odpe anpe odqi anqi odqe anqe odzi anzi : Option Addr} {sl0 sl1 sl2 sl3 sl4 sl5 sl6 sl7 sl8 sl9 sl10 sl11 sl12 sl13 sl14 sl15 sl16 sl17 sl18 sl19 sl20 sl21 sl22 sl23 sl24 sl25 sl26 sl27 sl28 sl29 sl30 sl31 sl32 sl33 sl34 slpi slpe slqi slqe slzi : Array (Option Value)}
    {nm q : Str} {Nn : Addr} {bs0 bm : List Value} {sn : List Str} {sub : List Value} {ab : Bool} {col : Option Bool} {dd : Option Addr} {m0 m1 m2 m3 m5 : Option Value}
    (tP : h.get? Pt = some { cls := .none, data := .fields #[] })
    (a0 : PySem.W.nsIn K mainGlobals "common_divisor" = some (some (.ref f0)))
    (l0 : K.lookup f0 = some ⟨oc0, od0, .func (PySem.W.fnOf "common_divisor" "common_divisor" (defArgs s_common_divisor) (defBody s_common_divisor) (defScope s_common_divisor) .none kV0 dc0 pm0 an0 cd0 ct0), sl0⟩)
    (c0 : PySem.W.codeIn K cd0 "common_divisor" = true)
    (k0 : PySem.W.keepIn K (.ref f0) = true)
    (a1 : PySem.W.nsIn K mainGlobals "lowest" = some (some (.ref f1)))
    (l1 : K.lookup f1 = some ⟨oc1, od1, .func (PySem.W.fnOf "lowest" "lowest" (defArgs s_lowest) (defBody s_lowest) (defScope s_lowest) .none kV1 dc1 pm1 an1 cd1 ct1), sl1⟩)
    (c1 : PySem.W.codeIn K cd1 "lowest" = true)
    (k1 : PySem.W.keepIn K (.ref f1) = true)
    (a2 : PySem.W.nsIn K mainGlobals "is_whole" = some (some (.ref f2)))
    (l2 : K.lookup f2 = some ⟨oc2, od2, .func (PySem.W.fnOf "is_whole" "is_whole" (defArgs s_is_whole) (defBody s_is_whole) (defScope s_is_whole) .none kV2 dc2 pm2 an2 cd2 ct2), sl2⟩)
    (c2 : PySem.W.codeIn K cd2 "is_whole" = true)
    (k2 : PySem.W.keepIn K (.ref f2) = true)
    (a3 : PySem.W.nsIn K mainGlobals "is_ratio" = some (some (.ref f3)))
    (l3 : K.lookup f3 = some ⟨oc3, od3, .func (PySem.W.fnOf "is_ratio" "is_ratio" (defArgs s_is_ratio) (defBody s_is_ratio) (defScope s_is_ratio) .none kV3 dc3 pm3 an3 cd3 ct3), sl3⟩)
    (c3 : PySem.W.codeIn K cd3 "is_ratio" = true)
    (k3 : PySem.W.keepIn K (.ref f3) = true)
    (a4 : PySem.W.nsIn K mainGlobals "told" = some (some (.ref f4)))
    (l4 : K.lookup f4 = some ⟨oc4, od4, .func (PySem.W.fnOf "told" "told" (defArgs s_told) (defBody s_told) (defScope s_told) .none kV4 dc4 pm4 an4 cd4 ct4), sl4⟩)
    (c4 : PySem.W.codeIn K cd4 "told" = true)
    (k4 : PySem.W.keepIn K (.ref f4) = true)
    (a5 : PySem.W.nsIn K mainGlobals "plus" = some (some (.ref f5)))
    (l5 : K.lookup f5 = some ⟨oc5, od5, .func (PySem.W.fnOf "plus" "plus" (defArgs s_plus) (defBody s_plus) (defScope s_plus) .none kV5 dc5 pm5 an5 cd5 ct5), sl5⟩)
    (c5 : PySem.W.codeIn K cd5 "plus" = true)
    (k5 : PySem.W.keepIn K (.ref f5) = true)
    (a6 : PySem.W.nsIn K mainGlobals "are_exponents" = some (some (.ref f6)))
    (l6 : K.lookup f6 = some ⟨oc6, od6, .func (PySem.W.fnOf "are_exponents" "are_exponents" (defArgs s_are_exponents) (defBody s_are_exponents) (defScope s_are_exponents) .none kV6 dc6 pm6 an6 cd6 ct6), sl6⟩)
    (c6 : PySem.W.codeIn K cd6 "are_exponents" = true)
    (k6 : PySem.W.keepIn K (.ref f6) = true)
    (a7 : PySem.W.nsIn K mainGlobals "is_term" = some (some (.ref f7)))
    (l7 : K.lookup f7 = some ⟨oc7, od7, .func (PySem.W.fnOf "is_term" "is_term" (defArgs s_is_term) (defBody s_is_term) (defScope s_is_term) .none kV7 dc7 pm7 an7 cd7 ct7), sl7⟩)
    (c7 : PySem.W.codeIn K cd7 "is_term" = true)
    (k7 : PySem.W.keepIn K (.ref f7) = true)
    (a8 : PySem.W.nsIn K mainGlobals "merged" = some (some (.ref f8)))
    (l8 : K.lookup f8 = some ⟨oc8, od8, .func (PySem.W.fnOf "merged" "merged" (defArgs s_merged) (defBody s_merged) (defScope s_merged) .none kV8 dc8 pm8 an8 cd8 ct8), sl8⟩)
    (c8 : PySem.W.codeIn K cd8 "merged" = true)
    (k8 : PySem.W.keepIn K (.ref f8) = true)
    (a9 : PySem.W.nsIn K mainGlobals "one_in" = some (some (.ref f9)))
    (l9 : K.lookup f9 = some ⟨oc9, od9, .func (PySem.W.fnOf "one_in" "one_in" (defArgs s_one_in) (defBody s_one_in) (defScope s_one_in) .none kV9 dc9 pm9 an9 cd9 ct9), sl9⟩)
    (c9 : PySem.W.codeIn K cd9 "one_in" = true)
    (k9 : PySem.W.keepIn K (.ref f9) = true)
    (a10 : PySem.W.nsIn K mainGlobals "least_exponents" = some (some (.ref f10)))
    (l10 : K.lookup f10 = some ⟨oc10, od10, .func (PySem.W.fnOf "least_exponents" "least_exponents" (defArgs s_least_exponents) (defBody s_least_exponents) (defScope s_least_exponents) .none kV10 dc10 pm10 an10 cd10 ct10), sl10⟩)
    (c10 : PySem.W.codeIn K cd10 "least_exponents" = true)
    (k10 : PySem.W.keepIn K (.ref f10) = true)
    (a11 : PySem.W.nsIn K mainGlobals "brought" = some (some (.ref f11)))
    (l11 : K.lookup f11 = some ⟨oc11, od11, .func (PySem.W.fnOf "brought" "brought" (defArgs s_brought) (defBody s_brought) (defScope s_brought) .none kV11 dc11 pm11 an11 cd11 ct11), sl11⟩)
    (c11 : PySem.W.codeIn K cd11 "brought" = true)
    (k11 : PySem.W.keepIn K (.ref f11) = true)
    (a12 : PySem.W.nsIn K mainGlobals "whole_factor" = some (some (.ref f12)))
    (l12 : K.lookup f12 = some ⟨oc12, od12, .func (PySem.W.fnOf "whole_factor" "whole_factor" (defArgs s_whole_factor) (defBody s_whole_factor) (defScope s_whole_factor) .none kV12 dc12 pm12 an12 cd12 ct12), sl12⟩)
    (c12 : PySem.W.codeIn K cd12 "whole_factor" = true)
    (k12 : PySem.W.keepIn K (.ref f12) = true)
    (a13 : PySem.W.nsIn K mainGlobals "told_letters" = some (some (.ref f13)))
    (l13 : K.lookup f13 = some ⟨oc13, od13, .func (PySem.W.fnOf "told_letters" "told_letters" (defArgs s_told_letters) (defBody s_told_letters) (defScope s_told_letters) .none kV13 dc13 pm13 an13 cd13 ct13), sl13⟩)
    (c13 : PySem.W.codeIn K cd13 "told_letters" = true)
    (k13 : PySem.W.keepIn K (.ref f13) = true)
    (a14 : PySem.W.nsIn K mainGlobals "called_one" = some (some (.ref f14)))
    (l14 : K.lookup f14 = some ⟨oc14, od14, .func (PySem.W.fnOf "called_one" "called_one" (defArgs s_called_one) (defBody s_called_one) (defScope s_called_one) .none kV14 dc14 pm14 an14 cd14 ct14), sl14⟩)
    (c14 : PySem.W.codeIn K cd14 "called_one" = true)
    (k14 : PySem.W.keepIn K (.ref f14) = true)
    (a15 : PySem.W.nsIn K mainGlobals "_law_pen" = some (some (.ref f15)))
    (l15 : K.lookup f15 = some ⟨oc15, od15, .func (PySem.W.fnOf "_law_pen" "_law_pen" (defArgs s__law_pen) (defBody s__law_pen) (defScope s__law_pen) .none kV15 dc15 pm15 an15 cd15 ct15), sl15⟩)
    (c15 : PySem.W.codeIn K cd15 "_law_pen" = true)
    (k15 : PySem.W.keepIn K (.ref f15) = true)
    (a16 : PySem.W.nsIn K mainGlobals "_law_draw" = some (some (.ref f16)))
    (l16 : K.lookup f16 = some ⟨oc16, od16, .func (PySem.W.fnOf "_law_draw" "_law_draw" (defArgs s__law_draw) (defBody s__law_draw) (defScope s__law_draw) .none kV16 dc16 pm16 an16 cd16 ct16), sl16⟩)
    (c16 : PySem.W.codeIn K cd16 "_law_draw" = true)
    (k16 : PySem.W.keepIn K (.ref f16) = true)
    (a17 : PySem.W.nsIn K mainGlobals "_law_pick" = some (some (.ref f17)))
    (l17 : K.lookup f17 = some ⟨oc17, od17, .func (PySem.W.fnOf "_law_pick" "_law_pick" (defArgs s__law_pick) (defBody s__law_pick) (defScope s__law_pick) .none kV17 dc17 pm17 an17 cd17 ct17), sl17⟩)
    (c17 : PySem.W.codeIn K cd17 "_law_pick" = true)
    (k17 : PySem.W.keepIn K (.ref f17) = true)
    (a18 : PySem.W.nsIn K mainGlobals "_law_gcd" = some (some (.ref f18)))
    (l18 : K.lookup f18 = some ⟨oc18, od18, .func (PySem.W.fnOf "_law_gcd" "_law_gcd" (defArgs s__law_gcd) (defBody s__law_gcd) (defScope s__law_gcd) .none kV18 dc18 pm18 an18 cd18 ct18), sl18⟩)
    (c18 : PySem.W.codeIn K cd18 "_law_gcd" = true)
    (k18 : PySem.W.keepIn K (.ref f18) = true)
    (a19 : PySem.W.nsIn K mainGlobals "_law_is_whole" = some (some (.ref f19)))
    (l19 : K.lookup f19 = some ⟨oc19, od19, .func (PySem.W.fnOf "_law_is_whole" "_law_is_whole" (defArgs s__law_is_whole) (defBody s__law_is_whole) (defScope s__law_is_whole) .none kV19 dc19 pm19 an19 cd19 ct19), sl19⟩)
    (c19 : PySem.W.codeIn K cd19 "_law_is_whole" = true)
    (k19 : PySem.W.keepIn K (.ref f19) = true)
    (a20 : PySem.W.nsIn K mainGlobals "_law_is_ratio" = some (some (.ref f20)))
    (l20 : K.lookup f20 = some ⟨oc20, od20, .func (PySem.W.fnOf "_law_is_ratio" "_law_is_ratio" (defArgs s__law_is_ratio) (defBody s__law_is_ratio) (defScope s__law_is_ratio) .none kV20 dc20 pm20 an20 cd20 ct20), sl20⟩)
    (c20 : PySem.W.codeIn K cd20 "_law_is_ratio" = true)
    (k20 : PySem.W.keepIn K (.ref f20) = true)
    (a21 : PySem.W.nsIn K mainGlobals "_law_inner" = some (some (.ref f21)))
    (l21 : K.lookup f21 = some ⟨oc21, od21, .func (PySem.W.fnOf "_law_inner" "_law_inner" (defArgs s__law_inner) (defBody s__law_inner) (defScope s__law_inner) .none kV21 dc21 pm21 an21 cd21 ct21), sl21⟩)
    (c21 : PySem.W.codeIn K cd21 "_law_inner" = true)
    (k21 : PySem.W.keepIn K (.ref f21) = true)
    (a22 : PySem.W.nsIn K mainGlobals "_law_is_matrix" = some (some (.ref f22)))
    (l22 : K.lookup f22 = some ⟨oc22, od22, .func (PySem.W.fnOf "_law_is_matrix" "_law_is_matrix" (defArgs s__law_is_matrix) (defBody s__law_is_matrix) (defScope s__law_is_matrix) .none kV22 dc22 pm22 an22 cd22 ct22), sl22⟩)
    (c22 : PySem.W.codeIn K cd22 "_law_is_matrix" = true)
    (k22 : PySem.W.keepIn K (.ref f22) = true)
    (a23 : PySem.W.nsIn K mainGlobals "_law_poly_times" = some (some (.ref f23)))
    (l23 : K.lookup f23 = some ⟨oc23, od23, .func (PySem.W.fnOf "_law_poly_times" "_law_poly_times" (defArgs s__law_poly_times) (defBody s__law_poly_times) (defScope s__law_poly_times) .none kV23 dc23 pm23 an23 cd23 ct23), sl23⟩)
    (c23 : PySem.W.codeIn K cd23 "_law_poly_times" = true)
    (k23 : PySem.W.keepIn K (.ref f23) = true)
    (a24 : PySem.W.nsIn K mainGlobals "_law_made" = some (some (.ref f24)))
    (l24 : K.lookup f24 = some ⟨oc24, od24, .func (PySem.W.fnOf "_law_made" "_law_made" (defArgs s__law_made) (defBody s__law_made) (defScope s__law_made) .none kV24 dc24 pm24 an24 cd24 ct24), sl24⟩)
    (c24 : PySem.W.codeIn K cd24 "_law_made" = true)
    (k24 : PySem.W.keepIn K (.ref f24) = true)
    (a25 : PySem.W.nsIn K mainGlobals "_law_told_poly" = some (some (.ref f25)))
    (l25 : K.lookup f25 = some ⟨oc25, od25, .func (PySem.W.fnOf "_law_told_poly" "_law_told_poly" (defArgs s__law_told_poly) (defBody s__law_told_poly) (defScope s__law_told_poly) .none kV25 dc25 pm25 an25 cd25 ct25), sl25⟩)
    (c25 : PySem.W.codeIn K cd25 "_law_told_poly" = true)
    (k25 : PySem.W.keepIn K (.ref f25) = true)
    (a26 : PySem.W.nsIn K mainGlobals "_law_told_quotient" = some (some (.ref f26)))
    (l26 : K.lookup f26 = some ⟨oc26, od26, .func (PySem.W.fnOf "_law_told_quotient" "_law_told_quotient" (defArgs s__law_told_quotient) (defBody s__law_told_quotient) (defScope s__law_told_quotient) .none kV26 dc26 pm26 an26 cd26 ct26), sl26⟩)
    (c26 : PySem.W.codeIn K cd26 "_law_told_quotient" = true)
    (k26 : PySem.W.keepIn K (.ref f26) = true)
    (a27 : PySem.W.nsIn K mainGlobals "_law_poly_drawn" = some (some (.ref f27)))
    (l27 : K.lookup f27 = some ⟨oc27, od27, .func (PySem.W.fnOf "_law_poly_drawn" "_law_poly_drawn" (defArgs s__law_poly_drawn) (defBody s__law_poly_drawn) (defScope s__law_poly_drawn) .none kV27 dc27 pm27 an27 cd27 ct27), sl27⟩)
    (c27 : PySem.W.codeIn K cd27 "_law_poly_drawn" = true)
    (k27 : PySem.W.keepIn K (.ref f27) = true)
    (a28 : PySem.W.nsIn K mainGlobals "_law_like" = some (some (.ref f28)))
    (l28 : K.lookup f28 = some ⟨oc28, od28, .func (PySem.W.fnOf "_law_like" "_law_like" (defArgs s__law_like) (defBody s__law_like) (defScope s__law_like) .none kV28 dc28 pm28 an28 cd28 ct28), sl28⟩)
    (c28 : PySem.W.codeIn K cd28 "_law_like" = true)
    (k28 : PySem.W.keepIn K (.ref f28) = true)
    (a29 : PySem.W.nsIn K mainGlobals "_law_box" = some (some (.ref f29)))
    (l29 : K.lookup f29 = some ⟨oc29, od29, .func (PySem.W.fnOf "_law_box" "_law_box" (defArgs s__law_box) (defBody s__law_box) (defScope s__law_box) .none kV29 dc29 pm29 an29 cd29 ct29), sl29⟩)
    (c29 : PySem.W.codeIn K cd29 "_law_box" = true)
    (k29 : PySem.W.keepIn K (.ref f29) = true)
    (a30 : PySem.W.nsIn K mainGlobals "_law_weights" = some (some (.ref f30)))
    (l30 : K.lookup f30 = some ⟨oc30, od30, .func (PySem.W.fnOf "_law_weights" "_law_weights" (defArgs s__law_weights) (defBody s__law_weights) (defScope s__law_weights) .none kV30 dc30 pm30 an30 cd30 ct30), sl30⟩)
    (c30 : PySem.W.codeIn K cd30 "_law_weights" = true)
    (k30 : PySem.W.keepIn K (.ref f30) = true)
    (a31 : PySem.W.nsIn K mainGlobals "_law_quotient" = some (some (.ref f31)))
    (l31 : K.lookup f31 = some ⟨oc31, od31, .func (PySem.W.fnOf "_law_quotient" "_law_quotient" (defArgs s__law_quotient) (defBody s__law_quotient) (defScope s__law_quotient) .none kV31 dc31 pm31 an31 cd31 ct31), sl31⟩)
    (c31 : PySem.W.codeIn K cd31 "_law_quotient" = true)
    (k31 : PySem.W.keepIn K (.ref f31) = true)
    (a32 : PySem.W.nsIn K mainGlobals "_law_left_out" = some (some (.ref f32)))
    (l32 : K.lookup f32 = some ⟨oc32, od32, .func (PySem.W.fnOf "_law_left_out" "_law_left_out" (defArgs s__law_left_out) (defBody s__law_left_out) (defScope s__law_left_out) .none kV32 dc32 pm32 an32 cd32 ct32), sl32⟩)
    (c32 : PySem.W.codeIn K cd32 "_law_left_out" = true)
    (k32 : PySem.W.keepIn K (.ref f32) = true)
    (a33 : PySem.W.nsIn K mainGlobals "_law_error" = some (some (.ref f33)))
    (l33 : K.lookup f33 = some ⟨oc33, od33, .func (PySem.W.fnOf "_law_error" "_law_error" (defArgs s__law_error) (defBody s__law_error) (defScope s__law_error) .none kV33 dc33 pm33 an33 cd33 ct33), sl33⟩)
    (c33 : PySem.W.codeIn K cd33 "_law_error" = true)
    (k33 : PySem.W.keepIn K (.ref f33) = true)
    (a34 : PySem.W.nsIn K mainGlobals "law" = some (some (.ref f34)))
    (l34 : K.lookup f34 = some ⟨oc34, od34, .func (PySem.W.fnOf "law" "law" (defArgs s_law) (defBody s_law) (defScope s_law) .none kV34 dc34 pm34 an34 (.ref cA) ct34), sl34⟩)
    (c34 : PySem.W.codeIn K (.ref cA) "law" = true)
    (k34 : PySem.W.keepIn K (.ref f34) = true)
    (tN : K.lookup Pt = none)
    (tC : PySem.W.codeHdIn K cA Pt = true)
    (aCp : PySem.W.nsIn K mainGlobals "Poly" = some (some (.ref Cp)))
    (pgp : PySem.W.plainGet K Cp Str.empty = true)
    (hdp : PySem.W.hasDictIn K Cp = true)
    (pop : PySem.W.plainOver K Cp = true)
    (sap : PySem.W.findIn K (.ref Cp) "__setattr__" = some (some (.builtin "object.__setattr__")))
    (hap : PySem.W.findIn K (.ref Cp) "__class__" = some (some (.builtin "object.__class__")))
    (mop : PySem.W.mroIn K Cp (.type "object") = some true)
    (mep : PySem.W.kitOne K (.ref Cp) (.ref Cp) = some true)
    (mkp : PySem.W.makesIn K Cp = true)
    (kCp : PySem.W.keepIn K (.ref Cp) = true)
    (nep : PySem.W.findIn K (.ref Cp) "__ne__" = some (some (.builtin "object.__ne__")))
    (np_size : PySem.W.findIn K (.ref Cp) "size" = some none)
    (np_terms : PySem.W.findIn K (.ref Cp) "terms" = some none)
    (ipi : PySem.W.findIn K (.ref Cp) "__init__" = some (some (.ref fpi)))
    (lpi : K.lookup fpi = some ⟨ocpi, odpi, .func (PySem.W.fnOf "__init__" "Poly.__init__" (defArgs s_Poly___init__) (defBody s_Poly___init__) (defScope s_Poly___init__) .none kVpi dcpi pmpi anpi cdpi ctpi), slpi⟩)
    (cpi : PySem.W.codeIn K cdpi "Poly.__init__" = true)
    (kpi : PySem.W.keepIn K (.ref fpi) = true)
    (Fpi : PySem.W.isFn K (.ref fpi) = true)
    (ipe : PySem.W.findIn K (.ref Cp) "__eq__" = some (some (.ref fpe)))
    (lpe : K.lookup fpe = some ⟨ocpe, odpe, .func (PySem.W.fnOf "__eq__" "Poly.__eq__" (defArgs s_Poly___eq__) (defBody s_Poly___eq__) (defScope s_Poly___eq__) .none kVpe dcpe pmpe anpe cdpe ctpe), slpe⟩)
    (cpe : PySem.W.codeIn K cdpe "Poly.__eq__" = true)
    (kpe : PySem.W.keepIn K (.ref fpe) = true)
    (Fpe : PySem.W.isFn K (.ref fpe) = true)
    (aCq : PySem.W.nsIn K mainGlobals "Quotient" = some (some (.ref Cq)))
    (pgq : PySem.W.plainGet K Cq Str.empty = true)
    (hdq : PySem.W.hasDictIn K Cq = true)
    (poq : PySem.W.plainOver K Cq = true)
    (saq : PySem.W.findIn K (.ref Cq) "__setattr__" = some (some (.builtin "object.__setattr__")))
    (haq : PySem.W.findIn K (.ref Cq) "__class__" = some (some (.builtin "object.__class__")))
    (moq : PySem.W.mroIn K Cq (.type "object") = some true)
    (meq : PySem.W.kitOne K (.ref Cq) (.ref Cq) = some true)
    (mkq : PySem.W.makesIn K Cq = true)
    (kCq : PySem.W.keepIn K (.ref Cq) = true)
    (neq : PySem.W.findIn K (.ref Cq) "__ne__" = some (some (.builtin "object.__ne__")))
    (nq_size : PySem.W.findIn K (.ref Cq) "size" = some none)
    (nq_top : PySem.W.findIn K (.ref Cq) "top" = some none)
    (nq_bottom : PySem.W.findIn K (.ref Cq) "bottom" = some none)
    (iqi : PySem.W.findIn K (.ref Cq) "__init__" = some (some (.ref fqi)))
    (lqi : K.lookup fqi = some ⟨ocqi, odqi, .func (PySem.W.fnOf "__init__" "Quotient.__init__" (defArgs s_Quotient___init__) (defBody s_Quotient___init__) (defScope s_Quotient___init__) .none kVqi dcqi pmqi anqi cdqi ctqi), slqi⟩)
    (cqi : PySem.W.codeIn K cdqi "Quotient.__init__" = true)
    (kqi : PySem.W.keepIn K (.ref fqi) = true)
    (Fqi : PySem.W.isFn K (.ref fqi) = true)
    (iqe : PySem.W.findIn K (.ref Cq) "__eq__" = some (some (.ref fqe)))
    (lqe : K.lookup fqe = some ⟨ocqe, odqe, .func (PySem.W.fnOf "__eq__" "Quotient.__eq__" (defArgs s_Quotient___eq__) (defBody s_Quotient___eq__) (defScope s_Quotient___eq__) .none kVqe dcqe pmqe anqe cdqe ctqe), slqe⟩)
    (cqe : PySem.W.codeIn K cdqe "Quotient.__eq__" = true)
    (kqe : PySem.W.keepIn K (.ref fqe) = true)
    (Fqe : PySem.W.isFn K (.ref fqe) = true)
    (hn : PySem.W.specialIn K (.builtin "object.__class__") "__get__" = some (some (.builtin "getset_descriptor.__get__")))
    (htk : PySem.W.takesIn K (.builtin "object.__class__") = some true)
    (aCz : PySem.W.nsIn K mainGlobals "ByZero" = some (some (.ref Cz)))
    (aCm : PySem.W.nsIn K mainGlobals "BadMatrix" = some (some (.ref Cm)))
    (aCn : PySem.W.nsIn K mainGlobals "BadNumber" = some (some (.ref Cn)))
    (xL : K.lookup Cz = some (excClassObj nm q Cz Nn bs0 bm true sn sub ab col dd m0 m1 m2 m3 m5 "ValueError.__new__"))
    (xB : PySem.HandSPX.refsVE bm = true)
    (sa : PySem.W.findIn K (.ref Cz) "__setattr__" = some (some (.builtin "object.__setattr__")))
    (ga : PySem.W.findIn K (.ref Cz) "__getattribute__" = some (some (.builtin "BaseException.__getattribute__")))
    (gg : PySem.W.findIn K (.ref Cz) "__getattr__" = some none)
    (nF : PySem.W.findIn K (.ref Cz) "place" = some none)
    (izi : PySem.W.findIn K (.ref Cz) "__init__" = some (some (.ref fzi)))
    (lzi : K.lookup fzi = some ⟨oczi, odzi, .func (PySem.W.fnOf "__init__" "ByZero.__init__" (defArgs s_ByZero___init__) (defBody s_ByZero___init__) (defScope s_ByZero___init__) .none kVzi dczi pmzi anzi cdzi ctzi), slzi⟩)
    (czi : PySem.W.codeIn K cdzi "ByZero.__init__" = true)
    (kzi : PySem.W.keepIn K (.ref fzi) = true)
    (kC : PySem.W.keepIn K (.ref Cz) = true)
    (eC : PySem.W.subIn K (.ref Cz) (.type "BaseException") = some true)
    (yC : PySem.W.typeIn K (.ref Cz) = some (.type "type"))
    (hC : PySem.W.hasDictIn K Cz = true)
    (xZ : PySem.W.exmOne K (.ref Cz) (.ref Cz) = some true)
    (xM : PySem.W.exmOne K (.ref Cz) (.ref Cm) = some false)
    (xN : PySem.W.exmOne K (.ref Cz) (.ref Cn) = some false)
    (z_abs : PySem.W.nsIn K mainGlobals "abs" = some none)
    (z_len : PySem.W.nsIn K mainGlobals "len" = some none)
    (z_int : PySem.W.nsIn K mainGlobals "int" = some none)
    (z_bool : PySem.W.nsIn K mainGlobals "bool" = some none)
    (z_list : PySem.W.nsIn K mainGlobals "list" = some none)
    (z_tuple : PySem.W.nsIn K mainGlobals "tuple" = some none)
    (z_sorted : PySem.W.nsIn K mainGlobals "sorted" = some none)
    (z_range : PySem.W.nsIn K mainGlobals "range" = some none)
    (z_zip : PySem.W.nsIn K mainGlobals "zip" = some none)
    (z_enumerate : PySem.W.nsIn K mainGlobals "enumerate" = some none)
    (z_isinstance : PySem.W.nsIn K mainGlobals "isinstance" = some none)
    (z_dict : PySem.W.nsIn K mainGlobals "dict" = some none)
    (z_sum : PySem.W.nsIn K mainGlobals "sum" = some none)
    (z_min : PySem.W.nsIn K mainGlobals "min" = some none)
    (ti : PySem.W.typeIn K (.ref fzi) = some (.type "function")) :
    LawAtS l w K CX0 21 63 "_law_script" mg fa h := by
  have e := hfa.symm.trans (PySem.W.mg_of X G a34)
  cases e
  have gCp : mg "Poly" = some (.ref Cp) := PySem.W.mg_of X G aCp
  have eCp : CP mg = Cp := by unfold CP; rw [gCp]
  have gCq : mg "Quotient" = some (.ref Cq) := PySem.W.mg_of X G aCq
  have eCq : CQ mg = Cq := by unfold CQ; rw [gCq]
  have gCz : mg "ByZero" = some (.ref Cz) := PySem.W.mg_of X G aCz
  have eCz : CZ mg = Cz := by unfold CZ; rw [gCz]
  have gCm : mg "BadMatrix" = some (.ref Cm) := PySem.W.mg_of X G aCm
  have eCm : CM mg = Cm := by unfold CM; rw [gCm]
  have gCn : mg "BadNumber" = some (.ref Cn) := PySem.W.mg_of X G aCn
  have eCn : CN mg = Cn := by unfold CN; rw [gCn]
  have T : Tx K mg := {
    f_common_divisor := ⟨f0, _, fun_mk (st := s_common_divisor) l0 c0 k0, PySem.W.mg_of X G a0⟩
    f_lowest := ⟨f1, _, fun_mk (st := s_lowest) l1 c1 k1, PySem.W.mg_of X G a1⟩
    f_is_whole := ⟨f2, _, fun_mk (st := s_is_whole) l2 c2 k2, PySem.W.mg_of X G a2⟩
    f_is_ratio := ⟨f3, _, fun_mk (st := s_is_ratio) l3 c3 k3, PySem.W.mg_of X G a3⟩
    f_told := ⟨f4, _, fun_mk (st := s_told) l4 c4 k4, PySem.W.mg_of X G a4⟩
    f_plus := ⟨f5, _, fun_mk (st := s_plus) l5 c5 k5, PySem.W.mg_of X G a5⟩
    f_are_exponents := ⟨f6, _, fun_mk (st := s_are_exponents) l6 c6 k6, PySem.W.mg_of X G a6⟩
    f_is_term := ⟨f7, _, fun_mk (st := s_is_term) l7 c7 k7, PySem.W.mg_of X G a7⟩
    f_merged := ⟨f8, _, fun_mk (st := s_merged) l8 c8 k8, PySem.W.mg_of X G a8⟩
    f_one_in := ⟨f9, _, fun_mk (st := s_one_in) l9 c9 k9, PySem.W.mg_of X G a9⟩
    f_least_exponents := ⟨f10, _, fun_mk (st := s_least_exponents) l10 c10 k10, PySem.W.mg_of X G a10⟩
    f_brought := ⟨f11, _, fun_mk (st := s_brought) l11 c11 k11, PySem.W.mg_of X G a11⟩
    f_whole_factor := ⟨f12, _, fun_mk (st := s_whole_factor) l12 c12 k12, PySem.W.mg_of X G a12⟩
    f_told_letters := ⟨f13, _, fun_mk (st := s_told_letters) l13 c13 k13, PySem.W.mg_of X G a13⟩
    f_called_one := ⟨f14, _, fun_mk (st := s_called_one) l14 c14 k14, PySem.W.mg_of X G a14⟩
    f__law_pen := ⟨f15, _, fun_mk (st := s__law_pen) l15 c15 k15, PySem.W.mg_of X G a15⟩
    f__law_draw := ⟨f16, _, fun_mk (st := s__law_draw) l16 c16 k16, PySem.W.mg_of X G a16⟩
    f__law_pick := ⟨f17, _, fun_mk (st := s__law_pick) l17 c17 k17, PySem.W.mg_of X G a17⟩
    f__law_gcd := ⟨f18, _, fun_mk (st := s__law_gcd) l18 c18 k18, PySem.W.mg_of X G a18⟩
    f__law_is_whole := ⟨f19, _, fun_mk (st := s__law_is_whole) l19 c19 k19, PySem.W.mg_of X G a19⟩
    f__law_is_ratio := ⟨f20, _, fun_mk (st := s__law_is_ratio) l20 c20 k20, PySem.W.mg_of X G a20⟩
    f__law_inner := ⟨f21, _, fun_mk (st := s__law_inner) l21 c21 k21, PySem.W.mg_of X G a21⟩
    f__law_is_matrix := ⟨f22, _, fun_mk (st := s__law_is_matrix) l22 c22 k22, PySem.W.mg_of X G a22⟩
    f__law_poly_times := ⟨f23, _, fun_mk (st := s__law_poly_times) l23 c23 k23, PySem.W.mg_of X G a23⟩
    f__law_made := ⟨f24, _, fun_mk (st := s__law_made) l24 c24 k24, PySem.W.mg_of X G a24⟩
    f__law_told_poly := ⟨f25, _, fun_mk (st := s__law_told_poly) l25 c25 k25, PySem.W.mg_of X G a25⟩
    f__law_told_quotient := ⟨f26, _, fun_mk (st := s__law_told_quotient) l26 c26 k26, PySem.W.mg_of X G a26⟩
    f__law_poly_drawn := ⟨f27, _, fun_mk (st := s__law_poly_drawn) l27 c27 k27, PySem.W.mg_of X G a27⟩
    f__law_like := ⟨f28, _, fun_mk (st := s__law_like) l28 c28 k28, PySem.W.mg_of X G a28⟩
    f__law_box := ⟨f29, _, fun_mk (st := s__law_box) l29 c29 k29, PySem.W.mg_of X G a29⟩
    f__law_weights := ⟨f30, _, fun_mk (st := s__law_weights) l30 c30 k30, PySem.W.mg_of X G a30⟩
    f__law_quotient := ⟨f31, _, fun_mk (st := s__law_quotient) l31 c31 k31, PySem.W.mg_of X G a31⟩
    f__law_left_out := ⟨f32, _, fun_mk (st := s__law_left_out) l32 c32 k32, PySem.W.mg_of X G a32⟩
    f__law_error := ⟨f33, _, fun_mk (st := s__law_error) l33 c33 k33, PySem.W.mg_of X G a33⟩
    f_law := ⟨fa, _, fun_mk (st := s_law) l34 c34 k34, PySem.W.mg_of X G a34⟩
    b_abs := PySem.W.mg_none_of X G z_abs
    b_len := PySem.W.mg_none_of X G z_len
    b_int := PySem.W.mg_none_of X G z_int
    b_bool := PySem.W.mg_none_of X G z_bool
    b_list := PySem.W.mg_none_of X G z_list
    b_tuple := PySem.W.mg_none_of X G z_tuple
    b_sorted := PySem.W.mg_none_of X G z_sorted
    b_range := PySem.W.mg_none_of X G z_range
    b_zip := PySem.W.mg_none_of X G z_zip
    b_enumerate := PySem.W.mg_none_of X G z_enumerate
    b_isinstance := PySem.W.mg_none_of X G z_isinstance
    b_dict := PySem.W.mg_none_of X G z_dict
    b_sum := PySem.W.mg_none_of X G z_sum
    b_min := PySem.W.mg_none_of X G z_min
    cP := by
      rw [eCp]
      exact { g := gCp, ins := ⟨⟨pgp, hdp, pop, sap⟩, hap, hn, htk, mop, mep⟩, makes := ⟨_, _, ⟨mkp, ipi, Fpi, kCp⟩, fun_mk (st := s_Poly___init__) lpi cpi kpi⟩, eq := ⟨_, _, ipe, Fpe, fun_mk (st := s_Poly___eq__) lpe cpe kpe⟩, ne := nep }
    cQ := by
      rw [eCq]
      exact { g := gCq, ins := ⟨⟨pgq, hdq, poq, saq⟩, haq, hn, htk, moq, meq⟩, makes := ⟨_, _, ⟨mkq, iqi, Fqi, kCq⟩, fun_mk (st := s_Quotient___init__) lqi cqi kqi⟩, eq := ⟨_, _, iqe, Fqe, fun_mk (st := s_Quotient___eq__) lqe cqe kqe⟩, ne := neq }
    nPs := by rw [eCp]; exact np_size
    nPt := by rw [eCp]; exact np_terms
    nQs := by rw [eCq]; exact nq_size
    nQt := by rw [eCq]; exact nq_top
    nQb := by rw [eCq]; exact nq_bottom
    zer := by
      rw [eCz]
      exact { g := gCz, oex := ⟨⟨nm, q, Nn, bs0, bm, sn, sub, ab, col, dd, m0, m1, m2, m3, m5, xL, xB⟩, sa, eC, yC, kC⟩, xfc := ⟨ga, gg, eC, hC⟩, noF := nF, own := xZ, ini := ⟨fzi, _, izi, ti, fun_mk (st := s_ByZero___init__) lzi czi kzi⟩ }
    gM := by rw [eCm]; exact gCm
    gN := by rw [eCn]; exact gCn
    xM := by rw [eCz, eCm]; exact xM
    xN := by rw [eCz, eCn]; exact xN }
  refine ⟨_, [(cA, Pt)], spLaw K Pt, fun p hp => by rw [List.mem_singleton.mp hp]; exact tP, fun p hp => by rw [List.mem_singleton.mp hp]; exact tN, fun p hp => by rw [List.mem_singleton.mp hp]; exact PySem.W.codeHd_of_K X tC, ?_, fun H a ns hl _ hH hS => ⟨a, ns, rfl, hH (cA, Pt) (List.mem_singleton.mpr rfl), hS, hl, fun _ => rfl⟩, fun base _ _ TB => ok_law T (TB (cA, Pt) (List.mem_singleton.mpr rfl)) l34 c34⟩
  exact fun s v => .of_eq rfl
end K77
open PySem PySem.W PyProof.Rows L2 in
set_option maxRecDepth 100000 in
set_option maxHeartbeats 0 in
theorem PySem.Challenge.cw_allscales_k77_whole_letters_become_one_holds : PySem.Challenge.rw_allscales_k77_whole_letters_become_one.Holds := by
  w_on; o_law; k_head; (case hw => w_witness2)
  k_fill
  refine LamX.walk_ofTs (l := PySem.Challenge.rw_allscales_k77_whole_letters_become_one) (n := 63) (k := 21) (x := "_law_script") (CX := fun _ => CX0) rfl (by decide) rfl ⟨rfl, by decide, by decide⟩ (fun w h Y => PySem.W.km_in_of Y) ?F (fun _ _ _ _ _ z => z)
  case F =>
    intro w mg fa h Y KX G hmg
    have hT := PySem.W.km_tabs_of Y
    refine' K77.all_mk KX G hmg ?tP ?a0 ?l0 ?c0 ?k0 ?a1 ?l1 ?c1 ?k1 ?a2 ?l2 ?c2 ?k2 ?a3 ?l3 ?c3 ?k3 ?a4 ?l4 ?c4 ?k4 ?a5 ?l5 ?c5 ?k5 ?a6 ?l6 ?c6 ?k6 ?a7 ?l7 ?c7 ?k7 ?a8 ?l8 ?c8 ?k8 ?a9 ?l9 ?c9 ?k9 ?a10 ?l10 ?c10 ?k10 ?a11 ?l11 ?c11 ?k11 ?a12 ?l12 ?c12 ?k12 ?a13 ?l13 ?c13 ?k13 ?a14 ?l14 ?c14 ?k14 ?a15 ?l15 ?c15 ?k15 ?a16 ?l16 ?c16 ?k16 ?a17 ?l17 ?c17 ?k17 ?a18 ?l18 ?c18 ?k18 ?a19 ?l19 ?c19 ?k19 ?a20 ?l20 ?c20 ?k20 ?a21 ?l21 ?c21 ?k21 ?a22 ?l22 ?c22 ?k22 ?a23 ?l23 ?c23 ?k23 ?a24 ?l24 ?c24 ?k24 ?a25 ?l25 ?c25 ?k25 ?a26 ?l26 ?c26 ?k26 ?a27 ?l27 ?c27 ?k27 ?a28 ?l28 ?c28 ?k28 ?a29 ?l29 ?c29 ?k29 ?a30 ?l30 ?c30 ?k30 ?a31 ?l31 ?c31 ?k31 ?a32 ?l32 ?c32 ?k32 ?a33 ?l33 ?c33 ?k33 ?a34 ?l34 ?c34 ?k34 ?tN ?tC ?aCp ?pgp ?hdp ?pop ?sap ?hap ?mop ?mep ?mkp ?kCp ?nep ?np_size ?np_terms ?ipi ?lpi ?cpi ?kpi ?Fpi ?ipe ?lpe ?cpe ?kpe ?Fpe ?aCq ?pgq ?hdq ?poq ?saq ?haq ?moq ?meq ?mkq ?kCq ?neq ?nq_size ?nq_top ?nq_bottom ?iqi ?lqi ?cqi ?kqi ?Fqi ?iqe ?lqe ?cqe ?kqe ?Fqe ?hn ?htk ?aCz ?aCm ?aCn ?xL ?xB ?sa ?ga ?gg ?nF ?izi ?lzi ?czi ?kzi ?kC ?eC ?yC ?hC ?xZ ?xM ?xN ?z_abs ?z_len ?z_int ?z_bool ?z_list ?z_tuple ?z_sorted ?z_range ?z_zip ?z_enumerate ?z_isinstance ?z_dict ?z_sum ?z_min ?ti
    (case tP => exact hT _ (List.mem_singleton.mpr rfl))
    (case a0 => k_is)
    (case l0 => k_is)
    (case c0 => k_is)
    (case k0 => k_is)
    (case a1 => k_is)
    (case l1 => k_is)
    (case c1 => k_is)
    (case k1 => k_is)
    (case a2 => k_is)
    (case l2 => k_is)
    (case c2 => k_is)
    (case k2 => k_is)
    (case a3 => k_is)
    (case l3 => k_is)
    (case c3 => k_is)
    (case k3 => k_is)
    (case a4 => k_is)
    (case l4 => k_is)
    (case c4 => k_is)
    (case k4 => k_is)
    (case a5 => k_is)
    (case l5 => k_is)
    (case c5 => k_is)
    (case k5 => k_is)
    (case a6 => k_is)
    (case l6 => k_is)
    (case c6 => k_is)
    (case k6 => k_is)
    (case a7 => k_is)
    (case l7 => k_is)
    (case c7 => k_is)
    (case k7 => k_is)
    (case a8 => k_is)
    (case l8 => k_is)
    (case c8 => k_is)
    (case k8 => k_is)
    (case a9 => k_is)
    (case l9 => k_is)
    (case c9 => k_is)
    (case k9 => k_is)
    (case a10 => k_is)
    (case l10 => k_is)
    (case c10 => k_is)
    (case k10 => k_is)
    (case a11 => k_is)
    (case l11 => k_is)
    (case c11 => k_is)
    (case k11 => k_is)
    (case a12 => k_is)
    (case l12 => k_is)
    (case c12 => k_is)
    (case k12 => k_is)
    (case a13 => k_is)
    (case l13 => k_is)
    (case c13 => k_is)
    (case k13 => k_is)
    (case a14 => k_is)
    (case l14 => k_is)
    (case c14 => k_is)
    (case k14 => k_is)
    (case a15 => k_is)
    (case l15 => k_is)
    (case c15 => k_is)
    (case k15 => k_is)
    (case a16 => k_is)
    (case l16 => k_is)
    (case c16 => k_is)
    (case k16 => k_is)
    (case a17 => k_is)
    (case l17 => k_is)
    (case c17 => k_is)
    (case k17 => k_is)
    (case a18 => k_is)
    (case l18 => k_is)
    (case c18 => k_is)
    (case k18 => k_is)
    (case a19 => k_is)
    (case l19 => k_is)
    (case c19 => k_is)
    (case k19 => k_is)
    (case a20 => k_is)
    (case l20 => k_is)
    (case c20 => k_is)
    (case k20 => k_is)
    (case a21 => k_is)
    (case l21 => k_is)
    (case c21 => k_is)
    (case k21 => k_is)
    (case a22 => k_is)
    (case l22 => k_is)
    (case c22 => k_is)
    (case k22 => k_is)
    (case a23 => k_is)
    (case l23 => k_is)
    (case c23 => k_is)
    (case k23 => k_is)
    (case a24 => k_is)
    (case l24 => k_is)
    (case c24 => k_is)
    (case k24 => k_is)
    (case a25 => k_is)
    (case l25 => k_is)
    (case c25 => k_is)
    (case k25 => k_is)
    (case a26 => k_is)
    (case l26 => k_is)
    (case c26 => k_is)
    (case k26 => k_is)
    (case a27 => k_is)
    (case l27 => k_is)
    (case c27 => k_is)
    (case k27 => k_is)
    (case a28 => k_is)
    (case l28 => k_is)
    (case c28 => k_is)
    (case k28 => k_is)
    (case a29 => k_is)
    (case l29 => k_is)
    (case c29 => k_is)
    (case k29 => k_is)
    (case a30 => k_is)
    (case l30 => k_is)
    (case c30 => k_is)
    (case k30 => k_is)
    (case a31 => k_is)
    (case l31 => k_is)
    (case c31 => k_is)
    (case k31 => k_is)
    (case a32 => k_is)
    (case l32 => k_is)
    (case c32 => k_is)
    (case k32 => k_is)
    (case a33 => k_is)
    (case l33 => k_is)
    (case c33 => k_is)
    (case k33 => k_is)
    (case a34 => k_is)
    (case l34 => k_is)
    (case c34 => k_is)
    (case k34 => k_is)
    (case tN => first | k_is | kernel_rfl | rfl)
    (case tC => first | k_is | kernel_rfl | rfl)
    (case aCp => k_is)
    (case pgp => k_is)
    (case hdp => k_is)
    (case pop => k_is)
    (case sap => k_is)
    (case hap => k_is)
    (case mop => k_is)
    (case mep => first | k_is | kernel_rfl | rfl)
    (case mkp => k_is)
    (case kCp => k_is)
    (case nep => k_is)
    (case np_size => k_is)
    (case np_terms => k_is)
    (case ipi => k_is)
    (case lpi => k_is)
    (case cpi => k_is)
    (case kpi => k_is)
    (case Fpi => k_is)
    (case ipe => k_is)
    (case lpe => k_is)
    (case cpe => k_is)
    (case kpe => k_is)
    (case Fpe => k_is)
    (case aCq => k_is)
    (case pgq => k_is)
    (case hdq => k_is)
    (case poq => k_is)
    (case saq => k_is)
    (case haq => k_is)
    (case moq => k_is)
    (case meq => first | k_is | kernel_rfl | rfl)
    (case mkq => k_is)
    (case kCq => k_is)
    (case neq => k_is)
    (case nq_size => k_is)
    (case nq_top => k_is)
    (case nq_bottom => k_is)
    (case iqi => k_is)
    (case lqi => k_is)
    (case cqi => k_is)
    (case kqi => k_is)
    (case Fqi => k_is)
    (case iqe => k_is)
    (case lqe => k_is)
    (case cqe => k_is)
    (case kqe => k_is)
    (case Fqe => k_is)
    (case hn => k_is)
    (case htk => k_is)
    (case aCz => k_is)
    (case aCm => k_is)
    (case aCn => k_is)
    (case xL => k_is)
    (case xB => decide +kernel)
    (case sa => k_is)
    (case ga => k_is)
    (case gg => k_is)
    (case nF => k_is)
    (case izi => k_is)
    (case lzi => k_is)
    (case czi => k_is)
    (case kzi => k_is)
    (case kC => k_is)
    (case eC => k_is)
    (case yC => k_is)
    (case hC => k_is)
    (case xZ => first | k_is | kernel_rfl | rfl)
    (case xM => first | k_is | kernel_rfl | rfl)
    (case xN => first | k_is | kernel_rfl | rfl)
    (case z_abs => k_is)
    (case z_len => k_is)
    (case z_int => k_is)
    (case z_bool => k_is)
    (case z_list => k_is)
    (case z_tuple => k_is)
    (case z_sorted => k_is)
    (case z_range => k_is)
    (case z_zip => k_is)
    (case z_enumerate => k_is)
    (case z_isinstance => k_is)
    (case z_dict => k_is)
    (case z_sum => k_is)
    (case z_min => k_is)
    (case ti => k_is)
