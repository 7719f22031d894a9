import PyProof.Rows.All
import Wide.All
import OpenK.AllK
import Wide.FinOn
import HandS.ForMost
import HandS.Wide
import HandS.IsInst
import HandS.Zip
import HandS.Conv
import HandS.Style
import HandS.Flow
import HandS.Deep
import HandS.TupAny
import HandS.TupMul
import HandS.Exc
import HandS.TryOnly
import HandS.ExcOwn
import HandS.WordsExc
import HandS.ExcInit
import HandS.RaiseMore
import KE.GoesComp
import KE.GoesRaise
import HandS.ExcField
import PyProof.ReprRoads
import HandS.Ends
import HandS.CallSlots
import HandS.Defaults
import Open.SpecLaws
import KE.OsGo
import HandS.ForSpec
import PySem.Challenge.RW_allscales_k90_whole_coprime_bases
set_option Elab.async false
set_option linter.all false
set_option maxRecDepth 100000
set_option maxHeartbeats 4000000
set_option exponentiation.threshold 40000
/-! AS1: the abstract state over the layer: data D, slots En, owned objects Cn; ST says how a heap bears them; EV, EA, ET, SD evaluate readings over it. -/
namespace AS
open PySem L2

/-- immutable data -/
inductive D where
  | non | bl (b : Bool) | int (i : Int) | str (x : Str) | ty (n : String) | rf (a : Addr)
  | tup (l : List D) | lst (l : List D) | rl (l : List D) | obj (C : Addr) (ns : List Str) (l : List D)

mutual
inductive Dt (K : PySem.W.Frag) (H : Hp) : V → D → Prop
  | non : Dt K H .non .non
  | bl (b : Bool) : Dt K H (.bl b) (.bl b)
  | int (i : Int) : Dt K H (.int i) (.int i)
  | str (x : Str) : Dt K H (.str x) (.str x)
  | ty (n : String) : Dt K H (.ty n) (.ty n)
  | rf (a : Addr) : Dt K H (.ref a) (.rf a)
  | tup {a : Addr} {xs : List V} {l : List D} : SqT K H a xs → DtA K H xs l → Dt K H (.ref a) (.tup l)
  | lst {a : Addr} {xs : List V} {l : List D} : H a = some (.lst xs) → DtA K H xs l → Dt K H (.ref a) (.lst l)
  | rl {a : Addr} {xs : List V} {l : List D} : SqL K H a xs → DtA K H xs l → Dt K H (.ref a) (.rl l)
  | obj {a C dx : Addr} {fs : List (Str × V)} {ns : List Str} {l : List D} : H a = some (.ins C dx fs) → fs.map (·.1) = ns → DtA K H (fs.map (·.2)) l → Dt K H (.ref a) (.obj C ns l)
inductive DtA (K : PySem.W.Frag) (H : Hp) : List V → List D → Prop
  | nil : DtA K H [] []
  | cons {v : V} {vs : List V} {d : D} {ds : List D} : Dt K H v d → DtA K H vs ds → DtA K H (v :: vs) (d :: ds)
end

theorem same_l {K : PySem.W.Frag} {H H' : Hp} {a : Addr} {xs : List V} (e : Same H H') (h : SqL K H a xs) : SqL K H' a xs := e.seq h
theorem same_t {K : PySem.W.Frag} {H H' : Hp} {a : Addr} {xs : List V} (e : Same H H') (h : SqT K H a xs) : SqT K H' a xs := by
  rcases h with (h | ⟨o, h⟩) | h
  · exact .inl (.inl (e _ _ h))
  · exact .inl (.inr ⟨o, e _ _ h⟩)
  · exact .inr h

mutual
theorem Dt.mono {K : PySem.W.Frag} {H H' : Hp} (e : Same H H') : ∀ (d : D) (v : V), Dt K H v d → Dt K H' v d
  | .non, _, .non => .non
  | .bl _, _, .bl b => .bl b
  | .int _, _, .int b => .int b
  | .str _, _, .str b => .str b
  | .ty _, _, .ty b => .ty b
  | .rf _, _, .rf b => .rf b
  | .tup l, _, .tup h1 h2 => .tup (same_t e h1) (DtA.mono e l _ h2)
  | .lst l, _, .lst h1 h2 => .lst (e _ _ h1) (DtA.mono e l _ h2)
  | .rl l, _, .rl h1 h2 => .rl (same_l e h1) (DtA.mono e l _ h2)
  | .obj _ _ l, _, .obj h1 h2 h3 => .obj (e _ _ h1) h2 (DtA.mono e l _ h3)
theorem DtA.mono {K : PySem.W.Frag} {H H' : Hp} (e : Same H H') : ∀ (ds : List D) (vs : List V), DtA K H vs ds → DtA K H' vs ds
  | [], _, .nil => .nil
  | d :: ds, _, .cons h1 h2 => .cons (Dt.mono e d _ h1) (DtA.mono e ds _ h2)
end
theorem DtA.length {K : PySem.W.Frag} {H : Hp} : ∀ {vs : List V} {ds : List D}, DtA K H vs ds → vs.length = ds.length
  | _, _, .nil => rfl
  | _, _, .cons _ h => by simp [DtA.length h]
theorem DtA.get {K : PySem.W.Frag} {H : Hp} : ∀ {vs : List V} {ds : List D} {i : Nat} {d : D}, DtA K H vs ds → ds[i]? = some d → ∃ v, vs[i]? = some v ∧ Dt K H v d
  | _, _, _, _, .nil, e => by simp at e
  | _, _, 0, _, .cons h _, e => by simp at e; subst e; exact ⟨_, rfl, h⟩
  | _, _, i + 1, _, .cons _ t, e => by
    obtain ⟨v, h1, h2⟩ := DtA.get (i := i) t (by simpa using e)
    exact ⟨v, by simpa using h1, h2⟩
theorem DtA.getV {K : PySem.W.Frag} {H : Hp} {vs : List V} {ds : List D} {i : Nat} {v : V} (h : DtA K H vs ds) (e : vs[i]? = some v) : ∃ d, ds[i]? = some d ∧ Dt K H v d := by
  have hl := h.length
  have hi : i < vs.length := (List.getElem?_eq_some_iff.mp e).1
  obtain ⟨w, h1, h2⟩ := h.get (i := i) (d := ds[i]'(by omega)) (by simp)
  rw [e] at h1; cases h1
  exact ⟨_, by simp, h2⟩
theorem DtA.append {K : PySem.W.Frag} {H : Hp} : ∀ {vs ws : List V} {ds es : List D}, DtA K H vs ds → DtA K H ws es → DtA K H (vs ++ ws) (ds ++ es)
  | _, _, _, _, .nil, h => h
  | _, _, _, _, .cons h t, k => .cons h (DtA.append t k)
theorem DtA.ints {K : PySem.W.Frag} {H : Hp} : ∀ (ns : List Int), DtA K H (ns.map V.int) (ns.map D.int)
  | [] => .nil
  | n :: r => .cons (.int n) (DtA.ints r)
theorem DtA.ints_of {K : PySem.W.Frag} {H : Hp} : ∀ {vs : List V} (ns : List Int), DtA K H vs (ns.map D.int) → vs = ns.map V.int
  | _, [], .nil => rfl
  | _, n :: r, .cons h t => by cases h; rw [DtA.ints_of r t]; rfl

/-- what a slot bears: nothing told, data, the owned object number i -/
inductive En where
  | un | dat (d : D) | ptr (i : Nat)
/-- an owned object: given up, a list, a dict, an instance -/
inductive Cn where
  | gone | lst (l : List En) | dct (kvs : List (Key × En)) | ins (C : Addr) (fs : List (Str × En))

def RE (K : PySem.W.Frag) (Hb : Hp) (as : List Addr) (v : V) : En → Prop
  | .un => True
  | .dat d => Dt K Hb v d
  | .ptr i => ∃ a, as[i]? = some a ∧ v = .ref a
def RS (K : PySem.W.Frag) (Hb : Hp) (as : List Addr) (o : Option (Option V)) : En → Prop
  | .un => True
  | .dat d => ∃ v, o = some (some v) ∧ Dt K Hb v d
  | .ptr i => ∃ a, as[i]? = some a ∧ o = some (some (.ref a))
def RC (K : PySem.W.Frag) (Hb : Hp) (as : List Addr) (H : Hp) (a : Addr) : Cn → Prop
  | .gone => True
  | .lst l => ∃ xs, H a = some (.lst xs) ∧ Paired (RE K Hb as) xs l
  | .dct kvs => ∃ ys, H a = some (.dK ys) ∧ Paired (fun (p : Key × V) (q : Key × En) => p.1 = q.1 ∧ RE K Hb as p.2 q.2) ys kvs
  | .ins C fs => ∃ dx ys, H a = some (.ins C dx ys) ∧ Paired (fun (p : Str × V) (q : Str × En) => p.1 = q.1 ∧ RE K Hb as p.2 q.2) ys fs
def live : Cn → Bool
  | .gone => false
  | _ => true
def Gr (as as' : List Addr) : Prop := ∃ bs, as' = as ++ bs
theorem Gr.refl (as : List Addr) : Gr as as := ⟨[], by simp⟩
theorem Gr.trans {a b c : List Addr} (h : Gr a b) (k : Gr b c) : Gr a c := by
  obtain ⟨x, rfl⟩ := h
  obtain ⟨y, rfl⟩ := k
  exact ⟨x ++ y, by simp⟩
theorem Gr.get {as as' : List Addr} (h : Gr as as') {i : Nat} {a : Addr} (e : as[i]? = some a) : as'[i]? = some a := by
  obtain ⟨x, rfl⟩ := h
  have := (List.getElem?_eq_some_iff.mp e).1
  rw [List.getElem?_append_left this]; exact e

structure ST (K : PySem.W.Frag) (F Hb H : Hp) (σ : L2.St) (es : List En) (W : List Cn) (as : List Addr) : Prop where
  base : Same Hb H
  frm : Same F H
  dis : ∀ a o, F a = some o → Hb a = none
  len : as.length = W.length
  own : ∀ (i : Nat) (a : Addr) (c : Cn), as[i]? = some a → W[i]? = some c → live c = true → Hb a = none ∧ F a = none ∧ RC K Hb as H a c
  inj : ∀ (i j : Nat) (a : Addr) (c d : Cn), as[i]? = some a → as[j]? = some a → W[i]? = some c → W[j]? = some d → live c = true → live d = true → i = j
  sl : σ.length = es.length
  slot : ∀ (i : Nat) (e : En), es[i]? = some e → RS K Hb as σ[i]? e

section
variable {K : PySem.W.Frag} {F Hb Hb' H H' : Hp} {as as' : List Addr} {v : V} {e : En} {o : Option (Option V)}
theorem RE.mono (g : Gr as as') (s : Same Hb Hb') (h : RE K Hb as v e) : RE K Hb' as' v e := by
  cases e with
  | un => trivial
  | dat d => exact Dt.mono s d v h
  | ptr i => obtain ⟨a, h1, h2⟩ := h; exact ⟨a, g.get h1, h2⟩
theorem RS.mono (g : Gr as as') (s : Same Hb Hb') (h : RS K Hb as o e) : RS K Hb' as' o e := by
  cases e with
  | un => trivial
  | dat d => obtain ⟨v, h1, h2⟩ := h; exact ⟨v, h1, Dt.mono s d v h2⟩
  | ptr i => obtain ⟨a, h1, h2⟩ := h; exact ⟨a, g.get h1, h2⟩
theorem RS.of (h : RE K Hb as v e) : RS K Hb as (some (some v)) e := by
  cases e with
  | un => trivial
  | dat d => exact ⟨v, rfl, h⟩
  | ptr i => obtain ⟨a, h1, h2⟩ := h; exact ⟨a, h1, by rw [h2]⟩
theorem paired_mono {α β : Type} {P Q : α → β → Prop} (h : ∀ a b, P a b → Q a b) : ∀ {l : List α} {m : List β}, Paired P l m → Paired Q l m
  | _, _, .nil => .nil
  | _, _, .cons r t => .cons (h _ _ r) (paired_mono h t)
theorem RC.mono {a : Addr} {c : Cn} (g : Gr as as') (s : Same Hb Hb') (hH : H' a = H a) (h : RC K Hb as H a c) : RC K Hb' as' H' a c := by
  cases c with
  | gone => trivial
  | lst l => obtain ⟨xs, h1, h2⟩ := h; exact ⟨xs, by rw [hH]; exact h1, paired_mono (fun _ _ => RE.mono g s) h2⟩
  | dct l => obtain ⟨xs, h1, h2⟩ := h; exact ⟨xs, by rw [hH]; exact h1, paired_mono (fun _ _ r => ⟨r.1, RE.mono g s r.2⟩) h2⟩
  | ins C l => obtain ⟨dx, xs, h1, h2⟩ := h; exact ⟨dx, xs, by rw [hH]; exact h1, paired_mono (fun _ _ r => ⟨r.1, RE.mono g s r.2⟩) h2⟩
theorem RC.some {a : Addr} {c : Cn} (hl : live c = true) (h : RC K Hb as H a c) : ∃ o, H a = some o := by
  cases c with
  | gone => cases hl
  | lst l => obtain ⟨xs, h1, _⟩ := h; exact ⟨_, h1⟩
  | dct l => obtain ⟨xs, h1, _⟩ := h; exact ⟨_, h1⟩
  | ins C l => obtain ⟨dx, xs, h1, _⟩ := h; exact ⟨_, h1⟩
end

section
variable {K : PySem.W.Frag} {F Hb H : Hp} {σ : L2.St} {es : List En} {W : List Cn} {as : List Addr}
/-- a new object is laid: it joins the base -/
theorem ST.new {p : Addr} {o : HO} (S : ST K F Hb H σ es W as) (hp : H p = none) : ST K F (upd Hb p o) (upd H p o) σ es W as ∧ Same Hb (upd Hb p o) := by
  have hb : Hb p = none := S.base.free hp
  have hF : F p = none := S.frm.free hp
  have s1 : Same Hb (upd Hb p o) := fun a u e => by rw [upd_ne (ne_of_none e hb)]; exact e
  refine ⟨⟨fun a u e => ?_, fun a u e => ?_, fun a u e => ?_, S.len, fun i a c h1 h2 h3 => ?_, S.inj, S.sl, fun i e h => RS.mono (Gr.refl _) s1 (S.slot i e h)⟩, s1⟩
  · by_cases h : a = p
    · subst h; rw [upd_same] at e ⊢; exact e
    · rw [upd_ne h] at e ⊢; exact S.base a u e
  · rw [upd_ne (ne_of_none (S.frm a u e) hp)]; exact S.frm a u e
  · rw [upd_ne (ne_of_none (S.frm a u e) hp)]; exact S.dis a u e
  · obtain ⟨k1, k2, k3⟩ := S.own i a c h1 h2 h3
    obtain ⟨u, hu⟩ := k3.some h3
    have ne : a ≠ p := ne_of_none hu hp
    refine ⟨by rw [upd_ne ne]; exact k1, k2, k3.mono (Gr.refl _) s1 (by rw [upd_ne ne])⟩
/-- a slot is set -/
theorem ST.set {i : Nat} {v : V} {e : En} (S : ST K F Hb H σ es W as) (h : RE K Hb as v e) : ST K F Hb H (σ.set i (some v)) (es.set i e) W as := by
  refine ⟨S.base, S.frm, S.dis, S.len, S.own, S.inj, by simp [S.sl], fun j u hu => ?_⟩
  by_cases hj : i = j
  · subst hj
    by_cases hlt : i < es.length
    · rw [List.getElem?_set_self hlt] at hu; cases hu
      rw [List.getElem?_set_self (by rw [S.sl]; exact hlt)]
      exact RS.of h
    · rw [List.getElem?_eq_none (by simpa using hlt)] at hu; cases hu
  · rw [List.getElem?_set_ne hj] at hu ⊢
    exact S.slot j u hu
theorem ST.unset {i : Nat} (S : ST K F Hb H σ es W as) : ST K F Hb H (σ.set i none) (es.set i .un) W as := by
  refine ⟨S.base, S.frm, S.dis, S.len, S.own, S.inj, by simp [S.sl], fun j u hu => ?_⟩
  by_cases hj : i = j
  · subst hj
    by_cases hlt : i < es.length
    · rw [List.getElem?_set_self hlt] at hu; cases hu
      trivial
    · rw [List.getElem?_eq_none (by simpa using hlt)] at hu; cases hu
  · rw [List.getElem?_set_ne hj] at hu ⊢
    exact S.slot j u hu
/-- an owned object is written -/
theorem ST.write {i : Nat} {a : Addr} {c c' : Cn} {o : HO} (S : ST K F Hb H σ es W as) (h1 : as[i]? = some a) (h2 : W[i]? = some c) (h3 : live c = true) (hc : RC K Hb as (upd H a o) a c') : ST K F Hb (upd H a o) σ es (W.set i c') as := by
  obtain ⟨k1, k2, k3⟩ := S.own i a c h1 h2 h3
  refine ⟨fun b u e => ?_, fun b u e => ?_, S.dis, by simp [S.len], fun j b d g1 g2 g3 => ?_, fun j k b d d' g1 g2 g3 g4 g5 g6 => ?_, S.sl, S.slot⟩
  · rw [upd_ne (ne_of_none e k1)]; exact S.base b u e
  · rw [upd_ne (ne_of_none e k2)]; exact S.frm b u e
  · by_cases hj : i = j
    · subst hj
      rw [h1] at g1; cases g1
      have hlt : i < W.length := (List.getElem?_eq_some_iff.mp h2).1
      rw [List.getElem?_set_self hlt] at g2; cases g2
      exact ⟨k1, k2, hc⟩
    · rw [List.getElem?_set_ne hj] at g2
      obtain ⟨m1, m2, m3⟩ := S.own j b d g1 g2 g3
      have ne : b ≠ a := fun q => by subst q; exact hj (S.inj i j b c d h1 g1 h2 g2 h3 g3)
      exact ⟨m1, m2, m3.mono (Gr.refl _) (Same.refl _) (by rw [upd_ne ne])⟩
  · have aux : ∀ (j : Nat) (d : Cn), (W.set i c')[j]? = some d → live d = true → as[j]? = some b → ∃ d0, W[j]? = some d0 ∧ live d0 = true := fun j d g q _ => by
      by_cases hj : i = j
      · subst hj; exact ⟨c, h2, h3⟩
      · rw [List.getElem?_set_ne hj] at g; exact ⟨d, g, q⟩
    obtain ⟨d0, q1, q2⟩ := aux j d g3 g5 g1
    obtain ⟨d1, q3, q4⟩ := aux k d' g4 g6 g2
    exact S.inj j k b d0 d1 g1 g2 q1 q3 q2 q4
/-- a new owned object -/
theorem ST.newOwn {p : Addr} {o : HO} {c : Cn} (S : ST K F Hb H σ es W as) (hp : H p = none) (hc : RC K Hb (as ++ [p]) (upd H p o) p c) : ST K F Hb (upd H p o) σ es (W ++ [c]) (as ++ [p]) := by
  have hb : Hb p = none := S.base.free hp
  have hF : F p = none := S.frm.free hp
  have g : Gr as (as ++ [p]) := ⟨[p], rfl⟩
  have old : ∀ (j : Nat) (b : Addr) (d : Cn), (as ++ [p])[j]? = some b → (W ++ [c])[j]? = some d → (as[j]? = some b ∧ W[j]? = some d) ∨ (b = p ∧ d = c ∧ j = as.length) := fun j b d h1 h2 => by
    by_cases hj : j < as.length
    · rw [List.getElem?_append_left hj] at h1
      rw [List.getElem?_append_left (by rw [← S.len]; exact hj)] at h2
      exact .inl ⟨h1, h2⟩
    · have hl : j < (as ++ [p]).length := (List.getElem?_eq_some_iff.mp h1).1
      have e : j = as.length := by simp at hl; omega
      subst e
      rw [List.getElem?_append_right (Nat.le_refl _)] at h1
      rw [S.len, List.getElem?_append_right (Nat.le_refl _)] at h2
      simp at h1 h2
      exact .inr ⟨h1.symm, h2.symm, rfl⟩
  have liveNe : ∀ (j : Nat) (b : Addr) (d : Cn), as[j]? = some b → W[j]? = some d → live d = true → b ≠ p := fun j b d h1 h2 h3 => by
    obtain ⟨_, _, k3⟩ := S.own j b d h1 h2 h3
    obtain ⟨u, hu⟩ := k3.some h3
    exact ne_of_none hu hp
  refine ⟨fun b u e => ?_, fun b u e => ?_, S.dis, by simp [S.len], fun j b d g1 g2 g3 => ?_, fun j k b d d' g1 g2 g3 g4 g5 g6 => ?_, S.sl, fun j e h => RS.mono g (Same.refl _) (S.slot j e h)⟩
  · rw [upd_ne (ne_of_none e hb)]; exact S.base b u e
  · rw [upd_ne (ne_of_none e hF)]; exact S.frm b u e
  · rcases old j b d g1 g2 with ⟨q1, q2⟩ | ⟨rfl, rfl, rfl⟩
    · obtain ⟨k1, k2, k3⟩ := S.own j b d q1 q2 g3
      exact ⟨k1, k2, k3.mono g (Same.refl _) (by rw [upd_ne (liveNe j b d q1 q2 g3)])⟩
    · exact ⟨hb, hF, hc⟩
  · rcases old j b d g1 g3 with ⟨q1, q2⟩ | ⟨rfl, rfl, rfl⟩
    · rcases old k b d' g2 g4 with ⟨q3, q4⟩ | ⟨rfl, rfl, rfl⟩
      · exact S.inj j k b d d' q1 q3 q2 q4 g5 g6
      · exact absurd rfl (liveNe j b d q1 q2 g5)
    · rcases old k b d' g2 g4 with ⟨q3, q4⟩ | ⟨_, rfl, rfl⟩
      · exact absurd rfl (liveNe k b d' q3 q4 g6)
      · rfl
/-- an owned list of data is given up: it is data from here on -/
theorem DtA.of_dat {xs : List V} : ∀ {l : List D} {xs : List V}, Paired (RE K Hb as) xs (l.map En.dat) → DtA K Hb xs l
  | [], _, .nil => .nil
  | d :: l, _, .cons h t => .cons h (DtA.of_dat (l := l) (xs := xs) t)
theorem DtA.to_dat : ∀ {l : List D} {xs : List V}, DtA K Hb xs l → Paired (RE K Hb as) xs (l.map En.dat)
  | [], _, .nil => .nil
  | d :: l, _, .cons h t => .cons h (DtA.to_dat t)
theorem ST.freeze {i : Nat} {a : Addr} {l : List D} (S : ST K F Hb H σ es W as) (h1 : as[i]? = some a) (h2 : W[i]? = some (.lst (l.map En.dat))) :
    ∃ Hb', Same Hb Hb' ∧ ST K F Hb' H σ es (W.set i .gone) as ∧ Dt K Hb' (.ref a) (.lst l) := by
  obtain ⟨k1, k2, xs, k3, k4⟩ := S.own i a _ h1 h2 rfl
  have s1 : Same Hb (upd Hb a (.lst xs)) := fun b u e => by rw [upd_ne (ne_of_none e k1)]; exact e
  refine ⟨upd Hb a (.lst xs), s1, ⟨fun b u e => ?_, S.frm, fun b u e => ?_, by simp [S.len], fun j b d g1 g2 g3 => ?_, fun j k b d d' g1 g2 g3 g4 g5 g6 => ?_, S.sl, fun j e h => RS.mono (Gr.refl _) s1 (S.slot j e h)⟩, .lst upd_same (DtA.mono s1 _ _ (DtA.of_dat (xs := xs) k4))⟩
  · by_cases hb : b = a
    · subst hb; rw [upd_same] at e; cases e; exact k3
    · rw [upd_ne hb] at e; exact S.base b u e
  · have nb : b ≠ a := fun q => by subst q; rw [k2] at e; cases e
    rw [upd_ne nb]; exact S.dis b u e
  · by_cases hj : i = j
    · subst hj
      have hlt : i < W.length := (List.getElem?_eq_some_iff.mp h2).1
      rw [List.getElem?_set_self hlt] at g2; cases g2; cases g3
    · rw [List.getElem?_set_ne hj] at g2
      obtain ⟨m1, m2, m3⟩ := S.own j b d g1 g2 g3
      have ne : b ≠ a := fun q => by subst q; exact hj (S.inj i j b _ d h1 g1 h2 g2 rfl g3)
      exact ⟨by rw [upd_ne ne]; exact m1, m2, m3.mono (Gr.refl _) s1 rfl⟩
  · have aux : ∀ (j : Nat) (d : Cn), (W.set i Cn.gone)[j]? = some d → live d = true → W[j]? = some d := fun j d g q => by
      by_cases hj : i = j
      · subst hj
        have hlt : i < W.length := (List.getElem?_eq_some_iff.mp h2).1
        rw [List.getElem?_set_self hlt] at g; cases g; cases q
      · rw [List.getElem?_set_ne hj] at g; exact g
    exact S.inj j k b d d' g1 g2 (aux j d g3 g5) (aux k d' g4 g6) g5 g6
end
end AS
/-! AS2: expressions over the abstract state. -/
namespace AS
open PySem L2

/-- what follows a value: the base grows, the owned objects are W', the value is e -/
def Kt (K : PySem.W.Frag) (F Hb : Hp) (σ : L2.St) (es : List En) (as : List Addr) (W' : List Cn) (e : En) (Q : VK) : Prop :=
  ∀ v Hb' H' as', Gr as as' → Same Hb Hb' → ST K F Hb' H' σ es W' as' → RE K Hb' as' v e → Q v H'
def KtA (K : PySem.W.Frag) (F Hb : Hp) (σ : L2.St) (es : List En) (as : List Addr) (W' : List Cn) (l : List En) (Q : List V → Hp → Prop) : Prop :=
  ∀ vs Hb' H' as', Gr as as' → Same Hb Hb' → ST K F Hb' H' σ es W' as' → Paired (RE K Hb' as') vs l → Q vs H'
def KtB (K : PySem.W.Frag) (F Hb : Hp) (σ : L2.St) (es : List En) (as : List Addr) (W' : List Cn) (b : Bool) (Q : Bool → Hp → Prop) : Prop :=
  ∀ Hb' H' as', Gr as as' → Same Hb Hb' → ST K F Hb' H' σ es W' as' → Q b H'
def EV (K : PySem.W.Frag) (te : TE) (es : List En) (W : List Cn) (e : En) (W' : List Cn) : Prop :=
  ∀ F Hb H σ as, ST K F Hb H σ es W as → ∀ Q : VK, Kt K F Hb σ es as W' e Q → te σ H Q
def EA (K : PySem.W.Frag) (ta : TA) (es : List En) (W : List Cn) (l : List En) (W' : List Cn) : Prop :=
  ∀ F Hb H σ as, ST K F Hb H σ es W as → ∀ Q : List V → Hp → Prop, KtA K F Hb σ es as W' l Q → ta σ H Q
def ET (K : PySem.W.Frag) (tt : TT) (es : List En) (W : List Cn) (b : Bool) (W' : List Cn) : Prop :=
  ∀ F Hb H σ as, ST K F Hb H σ es W as → ∀ Q : Bool → Hp → Prop, KtB K F Hb σ es as W' b Q → tt σ H Q

section
variable {K : PySem.W.Frag} {F Hb Hb' H H' : Hp} {σ : L2.St} {es : List En} {as as' : List Addr} {W W1 W2 W3 : List Cn} {e e1 e2 : En} {ta tb te tc : TE} {d d1 d2 : D} {v : V}
theorem Kt.here {Q : VK} (k : Kt K F Hb σ es as W e Q) (S : ST K F Hb H σ es W as) (r : RE K Hb as v e) : Q v H := k v Hb H as (Gr.refl _) (Same.refl _) S r
theorem Kt.on {Q : VK} (k : Kt K F Hb σ es as W e Q) (g : Gr as as') (s : Same Hb Hb') : Kt K F Hb' σ es as' W e Q := fun v Hb2 H2 as2 g2 s2 S r => k v Hb2 H2 as2 (g.trans g2) (s.trans s2) S r
theorem KtA.on {Q : List V → Hp → Prop} {l : List En} (k : KtA K F Hb σ es as W l Q) (g : Gr as as') (s : Same Hb Hb') : KtA K F Hb' σ es as' W l Q := fun v Hb2 H2 as2 g2 s2 S r => k v Hb2 H2 as2 (g.trans g2) (s.trans s2) S r
theorem KtB.on {Q : Bool → Hp → Prop} {b : Bool} (k : KtB K F Hb σ es as W b Q) (g : Gr as as') (s : Same Hb Hb') : KtB K F Hb' σ es as' W b Q := fun Hb2 H2 as2 g2 s2 S => k Hb2 H2 as2 (g.trans g2) (s.trans s2) S
/-- a new tracked object as data -/
theorem Kt.fresh {Q : VK} {p : Addr} {o : HO} (k : Kt K F Hb σ es as W e Q) (S : ST K F Hb H σ es W as) (hp : H p = none) (r : ∀ Hb', Same Hb Hb' → Hb' p = some o → RE K Hb' as (.ref p) e) : Q (.ref p) (upd H p o) := by
  obtain ⟨S1, s1⟩ := S.new (o := o) hp
  exact k _ _ _ _ (Gr.refl _) s1 S1 (r _ s1 upd_same)

theorem ev_var {i : Nat} (h : es[i]? = some e) (hu : e ≠ .un) : EV K (tVar i) es W e W := fun F Hb H σ as S Q k => by
  have r := S.slot i e h
  cases e with
  | un => exact absurd rfl hu
  | dat d =>
    obtain ⟨v, h1, h2⟩ := r
    exact ⟨v, h1, k.here S h2⟩
  | ptr j =>
    obtain ⟨a, h1, h2⟩ := r
    exact ⟨.ref a, h2, k.here S ⟨a, h1, rfl⟩⟩
theorem ev_vd {i : Nat} (h : es[i]? = some (.dat d)) : EV K (tVar i) es W (.dat d) W := ev_var h (fun q => nomatch q)
theorem ev_vp {i j : Nat} (h : es[i]? = some (.ptr j)) : EV K (tVar i) es W (.ptr j) W := ev_var h (fun q => nomatch q)
theorem ev_cst (h : ∀ H, Dt K H v d) : EV K (tC v) es W (.dat d) W := fun _ Hb _ _ _ S _ k => k.here S (h Hb)
theorem ev_int (i : Int) : EV K (tC (.int i)) es W (.dat (.int i)) W := ev_cst fun _ => .int i
theorem ev_bl (b : Bool) : EV K (tC (.bl b)) es W (.dat (.bl b)) W := ev_cst fun _ => .bl b
theorem ev_non : EV K (tC .non) es W (.dat .non) W := ev_cst fun _ => .non
theorem ev_str (x : Str) : EV K (tC (.str x)) es W (.dat (.str x)) W := ev_cst fun _ => .str x
theorem ev_ty (n : String) : EV K (tC (.ty n)) es W (.dat (.ty n)) W := ev_cst fun _ => .ty n
theorem ev_rf (a : Addr) : EV K (tC (.ref a)) es W (.dat (.rf a)) W := ev_cst fun _ => .rf a
theorem ev_is (h : EV K te es W e W1) (q : e = e1) : EV K te es W e1 W1 := q ▸ h

/-- two operands, then the operator by values -/
theorem ev_op2 {r : R2} (ha : EV K ta es W e1 W1) (hb : EV K tb es W1 e2 W2)
    (hr : ∀ F Hb H σ as v u, ST K F Hb H σ es W2 as → RE K Hb as v e1 → RE K Hb as u e2 → ∀ Q : VK, Kt K F Hb σ es as W3 e Q → r v u H Q) : EV K (tOp r ta tb) es W e W3 := fun F Hb H σ as S Q k =>
  ha F Hb H σ as S _ fun v Hb1 H1 as1 g1 s1 S1 r1 => hb F Hb1 H1 σ as1 S1 _ fun u Hb2 H2 as2 g2 s2 S2 r2 => hr F Hb2 H2 σ as2 v u S2 (RE.mono g2 s2 r1) r2 Q (k.on (g1.trans g2) (s1.trans s2))
theorem ev_un1 {r : V → Hp → VK → Prop} (ha : EV K ta es W e1 W1)
    (hr : ∀ F Hb H σ as v, ST K F Hb H σ es W1 as → RE K Hb as v e1 → ∀ Q : VK, Kt K F Hb σ es as W3 e Q → r v H Q) : EV K (tUn r ta) es W e W3 := fun F Hb H σ as S Q k =>
  ha F Hb H σ as S _ fun v Hb1 H1 as1 g1 s1 S1 r1 => hr F Hb1 H1 σ as1 v S1 r1 Q (k.on g1 s1)
theorem ev_I0 {g : Int → Int → V} {a b : Int} (ha : EV K ta es W (.dat (.int a)) W1) (hb : EV K tb es W1 (.dat (.int b)) W2) (hg : ∀ H, Dt K H (g a b) d) : EV K (tOp (rI0 g) ta tb) es W (.dat d) W2 :=
  ev_op2 ha hb fun F Hb H σ as v u S r1 r2 Q k => by
    cases r1; cases r2
    exact ⟨a, b, rfl, rfl, k.here S (hg Hb)⟩
theorem ev_I {C : Int → Int → Prop} {g : Int → Int → V} {a b : Int} (ha : EV K ta es W (.dat (.int a)) W1) (hb : EV K tb es W1 (.dat (.int b)) W2) (hc : C a b) (hg : ∀ H, Dt K H (g a b) d) : EV K (tOp (rI C g) ta tb) es W (.dat d) W2 :=
  ev_op2 ha hb fun F Hb H σ as v u S r1 r2 Q k => by
    cases r1; cases r2
    exact ⟨a, b, rfl, rfl, hc, k.here S (hg Hb)⟩
theorem ev_add {a b : Int} (ha : EV K ta es W (.dat (.int a)) W1) (hb : EV K tb es W1 (.dat (.int b)) W2) : EV K (tOp (rI0 fun i j => .int (i + j)) ta tb) es W (.dat (.int (a + b))) W2 := ev_I0 ha hb fun _ => .int _
theorem ev_sub {a b : Int} (ha : EV K ta es W (.dat (.int a)) W1) (hb : EV K tb es W1 (.dat (.int b)) W2) : EV K (tOp (rI0 fun i j => .int (i - j)) ta tb) es W (.dat (.int (a - b))) W2 := ev_I0 ha hb fun _ => .int _
theorem ev_lt {a b : Int} (ha : EV K ta es W (.dat (.int a)) W1) (hb : EV K tb es W1 (.dat (.int b)) W2) : EV K (tOp (rI0 fun i j => .bl (decide (i < j))) ta tb) es W (.dat (.bl (decide (a < b)))) W2 := ev_I0 ha hb fun _ => .bl _
theorem ev_le {a b : Int} (ha : EV K ta es W (.dat (.int a)) W1) (hb : EV K tb es W1 (.dat (.int b)) W2) : EV K (tOp (rI0 fun i j => .bl (decide (i ≤ j))) ta tb) es W (.dat (.bl (decide (a ≤ b)))) W2 := ev_I0 ha hb fun _ => .bl _
theorem ev_gt {a b : Int} (ha : EV K ta es W (.dat (.int a)) W1) (hb : EV K tb es W1 (.dat (.int b)) W2) : EV K (tOp (rI0 fun i j => .bl (decide (j < i))) ta tb) es W (.dat (.bl (decide (b < a)))) W2 := ev_I0 ha hb fun _ => .bl _
theorem ev_ge {a b : Int} (ha : EV K ta es W (.dat (.int a)) W1) (hb : EV K tb es W1 (.dat (.int b)) W2) : EV K (tOp (rI0 fun i j => .bl (decide (j ≤ i))) ta tb) es W (.dat (.bl (decide (b ≤ a)))) W2 := ev_I0 ha hb fun _ => .bl _
theorem ev_neg {a : Int} (ha : EV K ta es W (.dat (.int a)) W1) : EV K (tUn (rU fun i => .int (-i)) ta) es W (.dat (.int (-a))) W1 :=
  ev_un1 ha fun F Hb H σ as v S r1 Q k => by
    cases r1
    exact ⟨a, rfl, k.here S (.int _)⟩
end

/-! ### operators without a bound on one side -/
def CDivA (_ j : Int) : Prop := j ≠ 0 ∧ j.natAbs.log2 < 9000
section
variable {X : Cx}
theorem op_mulA : OpR X (binaryOp .Mult) (rI IntMulOk fun i j => .int (i * j)) := opI fun _ _ _ _ _ _ _ hc q => PyProof.Rows.mul_int q hc
theorem op_fdivA : OpR X (binaryOp .FloorDiv) (rI CDivA fun i j => .int (i.fdiv j)) := opI fun i j _ _ _ _ _ hc q => PyProof.Rows.floordiv_int hc.1 q (.inl (PyProof.noPylong_of_log2 hc.2))
/-- == of whole numbers, texts, truth values, None; of data -/
def rEqA (K : PySem.W.Frag) : R2 := fun x y H Q => rEq x y H Q ∨ rEqD K x y H Q
def rNeA (K : PySem.W.Frag) : R2 := fun x y H Q => rNe x y H Q ∨ rNeD K x y H Q
theorem op_eqA (hu : X.A.units + 64 < cLine) : OpR X (compareOp .Eq) (rEqA X.K) := OpR.or op_eq (op_eqD hu)
theorem op_neA (hu : X.A.units + 64 < cLine) : OpR X (compareOp .NotEq) (rNeA X.K) := OpR.or op_ne (op_neD hu)
def rInA (K : PySem.W.Frag) : R2 := fun x y H Q => rIn K false x y H Q ∨ rInD K x y H Q
end

/-! ### data without objects as the library's own data -/
mutual
def D.py : D → Option PyData
  | .non => some .none | .bl b => some (.bool b) | .int i => some (.int i) | .str x => some (.str x)
  | .tup l => (D.pys l).map .tuple | .lst l => (D.pys l).map .list
  | .ty _ => none | .rf _ => none | .obj _ _ _ => none
  | .rl l => (D.pys l).map .list
def D.pys : List D → Option (List PyData)
  | [] => some []
  | d :: l => match D.py d, D.pys l with
    | some x, some y => some (x :: y)
    | _, _ => none
end
mutual
theorem Dt.py {K : PySem.W.Frag} {H : Hp} : ∀ (d : D) (v : V) (p : PyData), Dt K H v d → d.py = some p → Dp K H v p
  | .non, _, _, .non, e => by cases e; exact .non
  | .bl _, _, _, .bl b, e => by cases e; exact .bl b
  | .int _, _, _, .int b, e => by cases e; exact .int b
  | .str _, _, _, .str b, e => by cases e; exact .str b
  | .ty _, _, _, _, e => by cases e
  | .rf _, _, _, _, e => by cases e
  | .obj _ _ _, _, _, _, e => by cases e
  | .tup l, _, p, .tup h1 h2, e => by
    unfold D.py at e
    cases q : D.pys l with
    | none => rw [q] at e; cases e
    | some x => rw [q] at e; cases e; exact .tup h1 (DtA.py l _ x h2 q)
  | .lst l, _, p, .lst h1 h2, e => by
    unfold D.py at e
    cases q : D.pys l with
    | none => rw [q] at e; cases e
    | some x => rw [q] at e; cases e; exact .lst (SqL.of h1) (DtA.py l _ x h2 q)
  | .rl l, _, p, .rl h1 h2, e => by
    unfold D.py at e
    cases q : D.pys l with
    | none => rw [q] at e; cases e
    | some x => rw [q] at e; cases e; exact .lst h1 (DtA.py l _ x h2 q)
theorem DtA.py {K : PySem.W.Frag} {H : Hp} : ∀ (l : List D) (vs : List V) (ps : List PyData), DtA K H vs l → D.pys l = some ps → DpAll K H vs ps
  | [], _, _, .nil, e => by cases e; exact .nil
  | d :: l, _, ps, .cons h t, e => by
    unfold D.pys at e
    cases q1 : D.py d with
    | none => rw [q1] at e; simp at e
    | some x =>
      cases q2 : D.pys l with
      | none => rw [q1, q2] at e; simp at e
      | some y =>
        rw [q1, q2] at e; cases e
        exact .cons (Dt.py d _ x h q1) (DtA.py l _ y t q2)
end

section
variable {K : PySem.W.Frag} {F Hb Hb' H H' : Hp} {σ : L2.St} {es : List En} {as as' : List Addr} {W W1 W2 W3 : List Cn} {e e1 e2 : En} {ta tb te tc : TE} {d d1 d2 : D} {v : V}
theorem ev_mul {a b : Int} (ha : EV K ta es W (.dat (.int a)) W1) (hb : EV K tb es W1 (.dat (.int b)) W2) (hc : IntMulOk a b) : EV K (tOp (rI IntMulOk fun i j => .int (i * j)) ta tb) es W (.dat (.int (a * b))) W2 := ev_I ha hb hc fun _ => .int _
theorem ev_fdiv {a b : Int} (ha : EV K ta es W (.dat (.int a)) W1) (hb : EV K tb es W1 (.dat (.int b)) W2) (hc : CDivA a b) : EV K (tOp (rI CDivA fun i j => .int (i.fdiv j)) ta tb) es W (.dat (.int (a.fdiv b))) W2 := ev_I ha hb hc fun _ => .int _
theorem ev_mod {a b : Int} (ha : EV K ta es W (.dat (.int a)) W1) (hb : EV K tb es W1 (.dat (.int b)) W2) (hc : b ≠ 0) : EV K (tOp (rI (fun _ j => j ≠ 0) fun i j => .int (i.fmod j)) ta tb) es W (.dat (.int (a.fmod b))) W2 := ev_I ha hb hc fun _ => .int _
theorem ev_pow {a b : Int} (ha : EV K ta es W (.dat (.int a)) W1) (hb : EV K tb es W1 (.dat (.int b)) W2) (hc : CPow a b) : EV K (tOp (rI CPow fun i j => .int (i ^ j.toNat)) ta tb) es W (.dat (.int (a ^ b.toNat))) W2 := ev_I ha hb hc fun _ => .int _
theorem ev_eqI {a b : Int} (ha : EV K ta es W (.dat (.int a)) W1) (hb : EV K tb es W1 (.dat (.int b)) W2) : EV K (tOp (rEqA K) ta tb) es W (.dat (.bl (decide (a = b)))) W2 :=
  ev_op2 ha hb fun F Hb H σ as v u S r1 r2 Q k => by
    cases r1; cases r2
    refine .inl ⟨rfl, ?_⟩
    have z : decide (V.int a = V.int b) = decide (a = b) := by simp
    rw [z]
    exact k.here S (.bl _)
theorem ev_neI {a b : Int} (ha : EV K ta es W (.dat (.int a)) W1) (hb : EV K tb es W1 (.dat (.int b)) W2) : EV K (tOp (rNeA K) ta tb) es W (.dat (.bl (!decide (a = b)))) W2 :=
  ev_op2 ha hb fun F Hb H σ as v u S r1 r2 Q k => by
    cases r1; cases r2
    refine .inl ⟨rfl, ?_⟩
    have z : decide (V.int a = V.int b) = decide (a = b) := by simp
    rw [z]
    exact k.here S (.bl _)
theorem ev_eqB {a b : Bool} (ha : EV K ta es W (.dat (.bl a)) W1) (hb : EV K tb es W1 (.dat (.bl b)) W2) : EV K (tOp (rEqA K) ta tb) es W (.dat (.bl (decide (a = b)))) W2 :=
  ev_op2 ha hb fun F Hb H σ as v u S r1 r2 Q k => by
    cases r1; cases r2
    refine .inl ⟨rfl, ?_⟩
    have z : decide (V.bl a = V.bl b) = decide (a = b) := by simp
    rw [z]
    exact k.here S (.bl _)
theorem ev_neB {a b : Bool} (ha : EV K ta es W (.dat (.bl a)) W1) (hb : EV K tb es W1 (.dat (.bl b)) W2) : EV K (tOp (rNeA K) ta tb) es W (.dat (.bl (!decide (a = b)))) W2 :=
  ev_op2 ha hb fun F Hb H σ as v u S r1 r2 Q k => by
    cases r1; cases r2
    refine .inl ⟨rfl, ?_⟩
    have z : decide (V.bl a = V.bl b) = decide (a = b) := by simp
    rw [z]
    exact k.here S (.bl _)
theorem ev_eqD {p q : PyData} (ha : EV K ta es W (.dat d1) W1) (hb : EV K tb es W1 (.dat d2) W2) (h1 : d1.py = some p) (h2 : d2.py = some q) (s1 : SeqAt.shaped p = true) (s2 : SeqAt.shaped q = true) : EV K (tOp (rEqA K) ta tb) es W (.dat (.bl (PyData.eqv p q))) W2 :=
  ev_op2 ha hb fun F Hb H σ as v u S r1 r2 Q k =>
    .inr ⟨p, q, Dt.py _ _ _ (Dt.mono S.base _ _ r1) h1, Dt.py _ _ _ (Dt.mono S.base _ _ r2) h2, s1, s2, k.here S (.bl _)⟩
theorem ev_neD {p q : PyData} (ha : EV K ta es W (.dat d1) W1) (hb : EV K tb es W1 (.dat d2) W2) (h1 : d1.py = some p) (h2 : d2.py = some q) (s1 : SeqAt.shaped p = true) (s2 : SeqAt.shaped q = true) : EV K (tOp (rNeA K) ta tb) es W (.dat (.bl (!PyData.eqv p q))) W2 :=
  ev_op2 ha hb fun F Hb H σ as v u S r1 r2 Q k =>
    .inr ⟨p, q, Dt.py _ _ _ (Dt.mono S.base _ _ r1) h1, Dt.py _ _ _ (Dt.mono S.base _ _ r2) h2, s1, s2, k.here S (.bl _)⟩
/-- x is None -/
def D.isN : D → Bool
  | .non => true
  | _ => false
theorem Dt.isN {K : PySem.W.Frag} {H : Hp} {v : V} {d : D} (h : Dt K H v d) : decide (v = .non) = d.isN := by
  cases h <;> simp [D.isN]
theorem ev_isN (ha : EV K ta es W (.dat d) W1) : EV K (tOp (fun x y H Q => y = .non ∧ Q (.bl (decide (x = .non))) H) ta (tC .non)) es W (.dat (.bl d.isN)) W1 :=
  ev_op2 ha ev_non fun F Hb H σ as v u S r1 r2 Q k => by
    cases r2
    refine ⟨rfl, ?_⟩
    rw [Dt.isN r1]
    exact k.here S (.bl _)
theorem ev_notN (ha : EV K ta es W (.dat d) W1) : EV K (tOp (fun x y H Q => y = .non ∧ Q (.bl (!decide (x = .non))) H) ta (tC .non)) es W (.dat (.bl (!d.isN))) W1 :=
  ev_op2 ha ev_non fun F Hb H σ as v u S r1 r2 Q k => by
    cases r2
    refine ⟨rfl, ?_⟩
    rw [Dt.isN r1]
    exact k.here S (.bl _)

/-! ### argument lists, displays -/
theorem ea_nil : EA K tNil es W [] W := fun F Hb H σ as S Q k => k [] Hb H as (Gr.refl _) (Same.refl _) S .nil
theorem ea_cons {t : TA} {l : List En} (ha : EV K ta es W e W1) (hr : EA K t es W1 l W2) : EA K (tCons ta t) es W (e :: l) W2 := fun F Hb H σ as S Q k =>
  ha F Hb H σ as S _ fun v Hb1 H1 as1 g1 s1 S1 r1 => hr F Hb1 H1 σ as1 S1 _ fun vs Hb2 H2 as2 g2 s2 S2 r2 => k (v :: vs) Hb2 H2 as2 (g1.trans g2) (s1.trans s2) S2 (.cons (RE.mono g2 s2 r1) r2)
theorem paired_length {α β : Type} {P : α → β → Prop} : ∀ {l : List α} {m : List β}, Paired P l m → l.length = m.length
  | _, _, .nil => rfl
  | _, _, .cons _ t => by simp [paired_length t]
theorem ev_tup {t : TA} {l : List D} (h : EA K t es W (l.map .dat) W1) (hl : l.length ≤ 16777216) : EV K (tTup t) es W (.dat (.tup l)) W1 := fun F Hb H σ as S Q k =>
  h F Hb H σ as S _ fun vs Hb1 H1 as1 g1 s1 S1 r1 => ⟨by have := paired_length r1; rw [sizeLine_eq]; simp at this; omega, fun p hp => (k.on g1 s1).fresh S1 hp fun Hb2 s2 e2 => .tup (.inl (.inl e2)) (DtA.mono s2 _ _ (DtA.of_dat (xs := vs) r1))⟩
theorem ev_lst {t : TA} {l : List D} (h : EA K t es W (l.map .dat) W1) (hl : l.length ≤ 16777216) : EV K (tLst t) es W (.dat (.lst l)) W1 := fun F Hb H σ as S Q k =>
  h F Hb H σ as S _ fun vs Hb1 H1 as1 g1 s1 S1 r1 => ⟨by have := paired_length r1; rw [sizeLine_eq]; simp at this; omega, fun p hp => (k.on g1 s1).fresh S1 hp fun Hb2 s2 e2 => .lst e2 (DtA.mono s2 _ _ (DtA.of_dat (xs := vs) r1))⟩
/-- a list that will be changed -/
theorem ev_lstO {t : TA} {l : List En} (h : EA K t es W l W1) (hl : l.length ≤ 16777216) : EV K (tLst t) es W (.ptr W1.length) (W1 ++ [.lst l]) := fun F Hb H σ as S Q k =>
  h F Hb H σ as S _ fun vs Hb1 H1 as1 g1 s1 S1 r1 => ⟨by have := paired_length r1; rw [sizeLine_eq]; omega, fun p hp => by
    have g2 : Gr as1 (as1 ++ [p]) := ⟨[p], rfl⟩
    refine k _ _ _ _ (g1.trans g2) s1 (S1.newOwn hp ⟨vs, upd_same, paired_mono (fun _ _ => RE.mono g2 (Same.refl _)) r1⟩) ⟨p, ?_, rfl⟩
    rw [← S1.len, List.getElem?_append_right (Nat.le_refl _)]
    simp⟩

/-! ### tests -/
theorem et_test {b : Bool} (h : EV K te es W (.dat (.bl b)) W1) : ET K (tTest te) es W b W1 := fun F Hb H σ as S Q k => h F Hb H σ as S _ fun v Hb1 H1 as1 g1 s1 S1 r1 => by
  cases r1
  exact ⟨b, rfl, k Hb1 H1 as1 g1 s1 S1⟩
theorem et_B {b : Bool} (h : EV K te es W (.dat (.bl b)) W1) : ET K (tB te) es W b W1 := fun F Hb H σ as S Q k => h F Hb H σ as S _ fun v Hb1 H1 as1 g1 s1 S1 r1 => by
  cases r1
  exact ⟨b, rfl, k Hb1 H1 as1 g1 s1 S1⟩
theorem et_andT {t u : TT} {b : Bool} (h : ET K t es W true W1) (h2 : ET K u es W1 b W2) : ET K (tAnd t u) es W b W2 := fun F Hb H σ as S Q k => h F Hb H σ as S _ fun Hb1 H1 as1 g1 s1 S1 => by
  show u σ H1 Q
  exact h2 F Hb1 H1 σ as1 S1 _ (k.on g1 s1)
theorem et_andF {t u : TT} (h : ET K t es W false W1) : ET K (tAnd t u) es W false W1 := fun F Hb H σ as S Q k => h F Hb H σ as S _ fun Hb1 H1 as1 g1 s1 S1 => by
  show Q false H1
  exact k Hb1 H1 as1 g1 s1 S1
theorem et_orT {t u : TT} (h : ET K t es W true W1) : ET K (tOr t u) es W true W1 := fun F Hb H σ as S Q k => h F Hb H σ as S _ fun Hb1 H1 as1 g1 s1 S1 => by
  show Q true H1
  exact k Hb1 H1 as1 g1 s1 S1
theorem et_orF {t u : TT} {b : Bool} (h : ET K t es W false W1) (h2 : ET K u es W1 b W2) : ET K (tOr t u) es W b W2 := fun F Hb H σ as S Q k => h F Hb H σ as S _ fun Hb1 H1 as1 g1 s1 S1 => by
  show u σ H1 Q
  exact h2 F Hb1 H1 σ as1 S1 _ (k.on g1 s1)
/-- where both parts leave the objects as they are -/
theorem et_and {t u : TT} {a b : Bool} (h : ET K t es W a W) (h2 : a = true → ET K u es W b W) : ET K (tAnd t u) es W (a && b) W := by
  cases a with
  | true => exact et_andT h (h2 rfl)
  | false => exact et_andF h
theorem et_or {t u : TT} {a b : Bool} (h : ET K t es W a W) (h2 : a = false → ET K u es W b W) : ET K (tOr t u) es W (a || b) W := by
  cases a with
  | true => exact et_orT h
  | false => exact et_orF h (h2 rfl)
theorem et_not {t : TT} {a : Bool} (h : ET K t es W a W1) : ET K (tNot t) es W (!a) W1 := fun F Hb H σ as S Q k => h F Hb H σ as S _ fun Hb1 H1 as1 g1 s1 S1 => k Hb1 H1 as1 g1 s1 S1
theorem et_is {t : TT} {a b : Bool} (h : ET K t es W a W1) (q : a = b) : ET K t es W b W1 := q ▸ h
theorem ev_andV {a b : Bool} (h : EV K ta es W (.dat (.bl a)) W) (h2 : a = true → EV K tb es W (.dat (.bl b)) W) : EV K (tAndV ta tb) es W (.dat (.bl (a && b))) W := fun F Hb H σ as S Q k =>
  h F Hb H σ as S _ fun v Hb1 H1 as1 g1 s1 S1 r1 => by
    cases r1
    refine ⟨a, rfl, ?_⟩
    cases a with
    | true =>
      show tb σ H1 Q
      exact h2 rfl F Hb1 H1 σ as1 S1 Q (k.on g1 s1)
    | false =>
      show Q (.bl false) H1
      exact (k.on g1 s1).here S1 (.bl false)
theorem ev_orV {a b : Bool} (h : EV K ta es W (.dat (.bl a)) W) (h2 : a = false → EV K tb es W (.dat (.bl b)) W) : EV K (tOrV ta tb) es W (.dat (.bl (a || b))) W := fun F Hb H σ as S Q k =>
  h F Hb H σ as S _ fun v Hb1 H1 as1 g1 s1 S1 r1 => by
    cases r1
    refine ⟨a, rfl, ?_⟩
    cases a with
    | true =>
      show Q (.bl true) H1
      exact (k.on g1 s1).here S1 (.bl true)
    | false =>
      show tb σ H1 Q
      exact h2 rfl F Hb1 H1 σ as1 S1 Q (k.on g1 s1)
theorem ev_notV {a : Bool} (h : EV K ta es W (.dat (.bl a)) W1) : EV K (tNotV ta) es W (.dat (.bl (!a))) W1 := fun F Hb H σ as S Q k =>
  h F Hb H σ as S _ fun v Hb1 H1 as1 g1 s1 S1 r1 => by
    cases r1
    exact ⟨a, rfl, (k.on g1 s1).here S1 (.bl _)⟩
theorem ev_ifT {t : TT} (h : ET K t es W true W1) (h1 : EV K ta es W1 e W2) : EV K (tIf t ta tb) es W e W2 := fun F Hb H σ as S Q k => h F Hb H σ as S _ fun Hb1 H1 as1 g1 s1 S1 => by
  show ta σ H1 Q
  exact h1 F Hb1 H1 σ as1 S1 Q (k.on g1 s1)
theorem ev_ifF {t : TT} (h : ET K t es W false W1) (h1 : EV K tb es W1 e W2) : EV K (tIf t ta tb) es W e W2 := fun F Hb H σ as S Q k => h F Hb H σ as S _ fun Hb1 H1 as1 g1 s1 S1 => by
  show tb σ H1 Q
  exact h1 F Hb1 H1 σ as1 S1 Q (k.on g1 s1)
theorem ev_if {t : TT} {b : Bool} (h : ET K t es W b W1) (h1 : b = true → EV K ta es W1 e W2) (h2 : b = false → EV K tb es W1 e W2) : EV K (tIf t ta tb) es W e W2 := by
  cases b with
  | true => exact ev_ifT h (h1 rfl)
  | false => exact ev_ifF h (h2 rfl)

/-! ### lists and tuples that are read -/
def LstE (W : List Cn) : En → Option (List En)
  | .dat (.lst l) => some (l.map .dat)
  | .dat (.rl l) => some (l.map .dat)
  | .ptr i => match W[i]? with
    | some (.lst l) => some l
    | _ => none
  | _ => none
def TupE : En → Option (List En)
  | .dat (.tup l) => some (l.map .dat)
  | _ => none
def SeqE (W : List Cn) (e : En) : Option (List En) := match LstE W e with
  | some l => some l
  | none => TupE e
theorem ST.lstE {l : List En} (S : ST K F Hb H σ es W as) (h : LstE W e = some l) (r : RE K Hb as v e) : ∃ a xs, v = .ref a ∧ SqL K H a xs ∧ Paired (RE K Hb as) xs l := by
  cases e with
  | un => cases h
  | dat d =>
    cases d with
    | lst ds =>
      cases h
      cases r with
      | lst h1 h2 => exact ⟨_, _, rfl, SqL.of (S.base _ _ h1), DtA.to_dat h2⟩
    | rl ds =>
      cases h
      cases r with
      | rl h1 h2 => exact ⟨_, _, rfl, same_l S.base h1, DtA.to_dat h2⟩
    | _ => cases h
  | ptr i =>
    obtain ⟨a, h1, rfl⟩ := r
    unfold LstE at h
    cases q : W[i]? with
    | none => simp only [q] at h; cases h
    | some c =>
      simp only [q] at h
      cases c with
      | lst m =>
        cases h
        obtain ⟨_, _, xs, k3, k4⟩ := S.own i a _ h1 q rfl
        exact ⟨a, xs, rfl, SqL.of k3, k4⟩
      | _ => cases h
theorem ST.tupE {l : List En} (S : ST K F Hb H σ es W as) (h : TupE e = some l) (r : RE K Hb as v e) : ∃ a xs, v = .ref a ∧ SqT K H a xs ∧ Paired (RE K Hb as) xs l := by
  cases e with
  | un => cases h
  | dat d =>
    cases d with
    | tup ds =>
      cases h
      cases r with
      | tup h1 h2 => exact ⟨_, _, rfl, same_t S.base h1, DtA.to_dat h2⟩
    | _ => cases h
  | ptr i => cases h
theorem ST.seqE {l : List En} (S : ST K F Hb H σ es W as) (h : SeqE W e = some l) (r : RE K Hb as v e) : ∃ a xs, v = .ref a ∧ (SqL K H a xs ∨ SqT K H a xs) ∧ Paired (RE K Hb as) xs l := by
  unfold SeqE at h
  cases q : LstE W e with
  | some m =>
    rw [q] at h; cases h
    obtain ⟨a, xs, h1, h2, h3⟩ := S.lstE q r
    exact ⟨a, xs, h1, .inl h2, h3⟩
  | none =>
    rw [q] at h
    obtain ⟨a, xs, h1, h2, h3⟩ := S.tupE h r
    exact ⟨a, xs, h1, .inr h2, h3⟩
theorem paired_get {α β : Type} {P : α → β → Prop} : ∀ {l : List α} {m : List β} {i : Nat} {b : β}, Paired P l m → m[i]? = some b → ∃ a, l[i]? = some a ∧ P a b
  | _, _, _, _, .nil, e => by simp at e
  | _, _, 0, _, .cons r _, e => by simp at e; subst e; exact ⟨_, rfl, r⟩
  | _, _, i + 1, _, .cons _ t, e => by
    obtain ⟨v, h1, h2⟩ := paired_get (i := i) t (by simpa using e)
    exact ⟨v, by simpa using h1, h2⟩
theorem paired_getL {α β : Type} {P : α → β → Prop} : ∀ {l : List α} {m : List β} {i : Nat} {a : α}, Paired P l m → l[i]? = some a → ∃ b, m[i]? = some b ∧ P a b
  | _, _, _, _, .nil, e => by simp at e
  | _, _, 0, _, .cons r _, e => by simp at e; subst e; exact ⟨_, rfl, r⟩
  | _, _, i + 1, _, .cons _ t, e => by
    obtain ⟨v, h1, h2⟩ := paired_getL (i := i) t (by simpa using e)
    exact ⟨v, by simpa using h1, h2⟩
theorem atI_paired {P : V → En → Prop} {xs : List V} {l : List En} {i : Int} (h : Paired P xs l) (e0 : atI l i = some e) : ∃ v, atI xs i = some v ∧ P v e := by
  unfold atI at e0 ⊢
  rw [paired_length h]
  cases q : ixN l.length i with
  | none => rw [q] at e0; cases e0
  | some j =>
    rw [q] at e0
    exact paired_get h e0
theorem ev_ix {l : List En} {i : Int} (ha : EV K ta es W e1 W1) (hb : EV K tb es W1 (.dat (.int i)) W2) (hs : SeqE W2 e1 = some l) (hi : atI l i = some e) : EV K (tOp (rIx K) ta tb) es W e W2 :=
  ev_op2 ha hb fun F Hb H σ as v u S r1 r2 Q k => by
    cases r2
    obtain ⟨a, xs, rfl, hq, hp⟩ := S.seqE hs r1
    obtain ⟨w, hw, rw'⟩ := atI_paired hp hi
    rcases hq with hq | hq
    · exact .inl ⟨a, xs, i, w, rfl, rfl, hq, hw, k.here S rw'⟩
    · exact .inr (.inl ⟨a, xs, i, w, rfl, rfl, hq, hw, k.here S rw'⟩)
/-- a built-in of one argument -/
theorem ev_cb1 {r : List V → Hp → VK → Prop} (ha : EV K ta es W e1 W1) (hr : ∀ F Hb H σ as v, ST K F Hb H σ es W1 as → RE K Hb as v e1 → ∀ Q : VK, Kt K F Hb σ es as W3 e Q → r [v] H Q) : EV K (tCB r (tCons ta tNil)) es W e W3 := fun F Hb H σ as S Q k =>
  ha F Hb H σ as S _ fun v Hb1 H1 as1 g1 s1 S1 r1 => hr F Hb1 H1 σ as1 v S1 r1 Q (k.on g1 s1)
theorem ev_cb2 {r : List V → Hp → VK → Prop} (ha : EV K ta es W e1 W1) (hb : EV K tb es W1 e2 W2) (hr : ∀ F Hb H σ as v u, ST K F Hb H σ es W2 as → RE K Hb as v e1 → RE K Hb as u e2 → ∀ Q : VK, Kt K F Hb σ es as W3 e Q → r [v, u] H Q) :
    EV K (tCB r (tCons ta (tCons tb tNil))) es W e W3 := fun F Hb H σ as S Q k =>
  ha F Hb H σ as S _ fun v Hb1 H1 as1 g1 s1 S1 r1 => hb F Hb1 H1 σ as1 S1 _ fun u Hb2 H2 as2 g2 s2 S2 r2 => hr F Hb2 H2 σ as2 v u S2 (RE.mono g2 s2 r1) r2 Q (k.on (g1.trans g2) (s1.trans s2))
def rLenA (K : PySem.W.Frag) : List V → Hp → VK → Prop := fun xs H Q => (∃ p ys, xs = [.ref p] ∧ (SqL K H p ys ∨ SqT K H p ys) ∧ Q (.int ys.length) H) ∨ (∃ z, xs = [.str z] ∧ z.length ≤ sizeLine ∧ Q (.int z.length) H)
theorem call_lenA {X : Cx} : CallR X (.builtin "len") (rLenA X.K) := CallR.or call_len_seq call_len_str
theorem ev_len {l : List En} (ha : EV K ta es W e1 W1) (hs : SeqE W1 e1 = some l) : EV K (tCB (rLenA K) (tCons ta tNil)) es W (.dat (.int (l.length : Nat))) W1 :=
  ev_cb1 ha fun F Hb H σ as v S r1 Q k => by
    obtain ⟨a, xs, rfl, hq, hp⟩ := S.seqE hs r1
    refine .inl ⟨a, xs, rfl, hq, ?_⟩
    rw [paired_length hp]
    exact k.here S (.int _)
theorem ev_abs {a : Int} (ha : EV K ta es W (.dat (.int a)) W1) : EV K (tCB (fun xs H Q => ∃ i, xs = [.int i] ∧ Q (.int (if i < 0 then -i else i)) H) (tCons ta tNil)) es W (.dat (.int (if a < 0 then -a else a))) W1 :=
  ev_cb1 ha fun F Hb H σ as v S r1 Q k => by
    cases r1
    exact ⟨a, rfl, k.here S (.int _)⟩
theorem ev_intI {a : Int} (ha : EV K ta es W (.dat (.int a)) W1) : EV K (tCB (fun xs H Q => (∃ i, xs = [.int i] ∧ Q (.int i) H) ∨ ∃ k, xs = [.bl k] ∧ Q (.int (if k then 1 else 0)) H) (tCons ta tNil)) es W (.dat (.int a)) W1 :=
  ev_cb1 ha fun F Hb H σ as v S r1 Q k => by
    cases r1
    exact .inl ⟨a, rfl, k.here S (.int _)⟩
theorem ev_intB {a : Bool} (ha : EV K ta es W (.dat (.bl a)) W1) : EV K (tCB (fun xs H Q => (∃ i, xs = [.int i] ∧ Q (.int i) H) ∨ ∃ k, xs = [.bl k] ∧ Q (.int (if k then 1 else 0)) H) (tCons ta tNil)) es W (.dat (.int (if a then 1 else 0))) W1 :=
  ev_cb1 ha fun F Hb H σ as v S r1 Q k => by
    cases r1
    exact .inr ⟨a, rfl, k.here S (.int _)⟩
/-- list(xs), list(t): a new list of data -/
theorem ev_list {l : List D} (ha : EV K ta es W e1 W1) (hs : SeqE W1 e1 = some (l.map .dat)) : EV K (tCB (fun xs H Q => ∃ p ys, xs = [.ref p] ∧ (SqL K H p ys ∨ SqT K H p ys) ∧ ∀ l, H l = none → Q (.ref l) (upd H l (.lst ys))) (tCons ta tNil)) es W (.dat (.lst l)) W1 :=
  ev_cb1 ha fun F Hb H σ as v S r1 Q k => by
    obtain ⟨a, xs, rfl, hq, hp⟩ := S.seqE hs r1
    exact ⟨a, xs, rfl, hq, fun p hp' => k.fresh S hp' fun Hb2 s2 e2 => .lst e2 (DtA.mono s2 _ _ (DtA.of_dat (xs := xs) hp))⟩
theorem ev_listO {l : List En} (ha : EV K ta es W e1 W1) (hs : SeqE W1 e1 = some l) : EV K (tCB (fun xs H Q => ∃ p ys, xs = [.ref p] ∧ (SqL K H p ys ∨ SqT K H p ys) ∧ ∀ l, H l = none → Q (.ref l) (upd H l (.lst ys))) (tCons ta tNil)) es W (.ptr W1.length) (W1 ++ [.lst l]) :=
  ev_cb1 ha fun F Hb H σ as v S r1 Q k => by
    obtain ⟨a, xs, rfl, hq, hp⟩ := S.seqE hs r1
    refine ⟨a, xs, rfl, hq, fun p hp' => ?_⟩
    have g2 : Gr as (as ++ [p]) := ⟨[p], rfl⟩
    refine k _ _ _ _ g2 (Same.refl _) (S.newOwn hp' ⟨xs, upd_same, paired_mono (fun _ _ => RE.mono g2 (Same.refl _)) hp⟩) ⟨p, ?_, rfl⟩
    rw [← S.len, List.getElem?_append_right (Nat.le_refl _)]
    simp
/-- tuple(xs) -/
theorem ev_tupleL {l : List D} (ha : EV K ta es W e1 W1) (hs : LstE W1 e1 = some (l.map .dat)) : EV K (tCB (fun xs H Q => ∃ p ys, xs = [.ref p] ∧ ((SqL K H p ys ∧ ∀ l, H l = none → Q (.ref l) (upd H l (.tup ys))) ∨ (SqT K H p ys ∧ Q (.ref p) H))) (tCons ta tNil)) es W (.dat (.tup l)) W1 :=
  ev_cb1 ha fun F Hb H σ as v S r1 Q k => by
    obtain ⟨a, xs, rfl, hq, hp⟩ := S.lstE hs r1
    exact ⟨a, xs, rfl, .inl ⟨hq, fun p hp' => k.fresh S hp' fun Hb2 s2 e2 => .tup (.inl (.inl e2)) (DtA.mono s2 _ _ (DtA.of_dat (xs := xs) hp))⟩⟩
theorem ev_tupleT {l : List D} (ha : EV K ta es W (.dat (.tup l)) W1) : EV K (tCB (fun xs H Q => ∃ p ys, xs = [.ref p] ∧ ((SqL K H p ys ∧ ∀ l, H l = none → Q (.ref l) (upd H l (.tup ys))) ∨ (SqT K H p ys ∧ Q (.ref p) H))) (tCons ta tNil)) es W (.dat (.tup l)) W1 :=
  ev_cb1 ha fun F Hb H σ as v S r1 Q k => by
    cases r1 with
    | tup h1 h2 => exact ⟨_, _, rfl, .inr ⟨same_t S.base h1, k.here S (.tup h1 h2)⟩⟩
end
end AS
/-! AS3: statements, loops, comprehensions, calls over the abstract state. -/
namespace AS
open PySem L2

structure Po where
  nx : List En → List Cn → Prop
  rt : En → List Cn → Prop := fun _ _ => False
  bk : List En → List Cn → Prop := fun _ _ => False
  ct : List En → List Cn → Prop := fun _ _ => False
def Nx (K : PySem.W.Frag) (F Hb : Hp) (as : List Addr) (P : List En → List Cn → Prop) (d : L2.St → Hp → Prop) : Prop :=
  ∀ Hb' H' σ' as' es' W', P es' W' → Gr as as' → Same Hb Hb' → ST K F Hb' H' σ' es' W' as' → d σ' H'
def Rt (K : PySem.W.Frag) (F Hb : Hp) (as : List Addr) (P : En → List Cn → Prop) (d : V → Hp → Prop) : Prop :=
  ∀ v Hb' H' σ' as' es' W' e, P e W' → Gr as as' → Same Hb Hb' → ST K F Hb' H' σ' es' W' as' → RE K Hb' as' v e → d v H'
structure OkD (K : PySem.W.Frag) (F Hb : Hp) (as : List Addr) (D : Ends) (P : Po) : Prop where
  nx : Nx K F Hb as P.nx D.nx
  rt : Rt K F Hb as P.rt D.rt
  bk : Nx K F Hb as P.bk D.bk
  ct : Nx K F Hb as P.ct D.ct
def SD (K : PySem.W.Frag) (t : TS) (es : List En) (W : List Cn) (P : Po) : Prop :=
  ∀ F Hb H σ as (D : Ends), ST K F Hb H σ es W as → OkD K F Hb as D P → t D σ H
/-- goes to one state -/
abbrev SDd (K : PySem.W.Frag) (t : TS) (es : List En) (W : List Cn) (es1 : List En) (W1 : List Cn) : Prop := SD K t es W ⟨fun e w => e = es1 ∧ w = W1, fun _ _ => False, fun _ _ => False, fun _ _ => False⟩

section
variable {K : PySem.W.Frag} {F Hb Hb' H H' : Hp} {σ : L2.St} {es es1 es2 : List En} {as as' : List Addr} {W W1 W2 W3 : List Cn} {e e1 e2 : En} {ta tb te tc : TE} {d d1 d2 : D} {v : V} {P : Po} {t u : TS} {tt : TT}
theorem Nx.on {Q : List En → List Cn → Prop} {d : L2.St → Hp → Prop} (k : Nx K F Hb as Q d) (g : Gr as as') (s : Same Hb Hb') : Nx K F Hb' as' Q d := fun Hb2 H2 σ2 as2 es2 W2 p g2 s2 S => k Hb2 H2 σ2 as2 es2 W2 p (g.trans g2) (s.trans s2) S
theorem Rt.on {Q : En → List Cn → Prop} {d : V → Hp → Prop} (k : Rt K F Hb as Q d) (g : Gr as as') (s : Same Hb Hb') : Rt K F Hb' as' Q d := fun v Hb2 H2 σ2 as2 es2 W2 e p g2 s2 S r => k v Hb2 H2 σ2 as2 es2 W2 e p (g.trans g2) (s.trans s2) S r
theorem OkD.on {D : Ends} (k : OkD K F Hb as D P) (g : Gr as as') (s : Same Hb Hb') : OkD K F Hb' as' D P := ⟨k.nx.on g s, k.rt.on g s, k.bk.on g s, k.ct.on g s⟩
theorem Nx.here {Q : List En → List Cn → Prop} {d : L2.St → Hp → Prop} (k : Nx K F Hb as Q d) (S : ST K F Hb H σ es W as) (p : Q es W) : d σ H := k Hb H σ as es W p (Gr.refl _) (Same.refl _) S
theorem SD.imp {P' : Po} (h : SD K t es W P) (h1 : ∀ e w, P.nx e w → P'.nx e w) (h2 : ∀ e w, P.rt e w → P'.rt e w) (h3 : ∀ e w, P.bk e w → P'.bk e w) (h4 : ∀ e w, P.ct e w → P'.ct e w) : SD K t es W P' := fun F Hb H σ as D S k =>
  h F Hb H σ as D S ⟨fun a b c d e f p => k.nx a b c d e f (h1 _ _ p), fun a b c d e f g i p => k.rt a b c d e f g i (h2 _ _ p), fun a b c d e f p => k.bk a b c d e f (h3 _ _ p), fun a b c d e f p => k.ct a b c d e f (h4 _ _ p)⟩

theorem sd_next (p : P.nx es W) : SD K tNext es W P := fun _ _ _ _ _ _ S k => k.nx.here S p
theorem sd_seq {M : List En → List Cn → Prop} (h : SD K t es W { P with nx := M }) (h2 : ∀ e w, M e w → SD K u e w P) : SD K (tSeq t u) es W P := fun F Hb H σ as D S k =>
  h F Hb H σ as { D with nx := u D } S ⟨fun Hb2 H2 σ2 as2 es2 W2 p g s S2 => h2 es2 W2 p F Hb2 H2 σ2 as2 D S2 (k.on g s), k.rt, k.bk, k.ct⟩
theorem sd_then (h : SDd K t es W es1 W1) (h2 : SD K u es1 W1 P) : SD K (tSeq t u) es W P :=
  sd_seq (M := fun e w => e = es1 ∧ w = W1) (h.imp (fun _ _ x => x) (fun _ _ x => x.elim) (fun _ _ x => x.elim) (fun _ _ x => x.elim)) (fun _ _ ⟨a, b⟩ => by subst a b; exact h2)
theorem sd_of (h : SDd K t es W es1 W1) (p : P.nx es1 W1) : SD K t es W P := h.imp (fun _ _ ⟨a, b⟩ => by subst a b; exact p) (fun _ _ x => x.elim) (fun _ _ x => x.elim) (fun _ _ x => x.elim)
/-- a target: the value e comes to the slots -/
def EG (K : PySem.W.Frag) (g : TG) (js : List Nat) (e : En) (es : List En) (W : List Cn) (es' : List En) : Prop :=
  ∀ F Hb H σ as v, ST K F Hb H σ es W as → RE K Hb as v e → ∀ Q : L2.St → Hp → Prop, (∀ σ', (∀ vs : List Nat, (∀ j ∈ js, j ∈ vs) → wipe σ' vs = wipe σ vs) → ST K F Hb H σ' es' W as → Q σ' H) → g v σ H Q
theorem wipe_set {j : Nat} {x : Option V} {σ : L2.St} : ∀ {vs : List Nat}, j ∈ vs → wipe (σ.set j x) vs = wipe σ vs
  | [], h => by simp at h
  | v :: vs, h => by
    unfold wipe
    by_cases hv : v = j
    · subst hv
      have aux : ∀ (vs : List Nat) (σ : L2.St), (wipe (σ.set v x) vs).set v none = (wipe σ vs).set v none := by
        intro vs
        induction vs with
        | nil => intro σ; unfold wipe; simp
        | cons a r ih =>
          intro σ
          unfold wipe
          by_cases ha : a = v
          · subst ha; simp [ih]
          · rw [List.set_comm _ _ ha, ih, List.set_comm _ _ ha]
      exact aux vs σ
    · have : j ∈ vs := by simpa [Ne.symm hv] using h
      rw [wipe_set this]
theorem wipe_wipe {σ : L2.St} : ∀ {vs : List Nat}, wipe (wipe σ vs) vs = wipe σ vs := by
  have aux : ∀ (us vs : List Nat), (∀ j ∈ us, j ∈ vs) → wipe (wipe σ us) vs = wipe σ vs := by
    intro us
    induction us with
    | nil => intro vs _; rfl
    | cons a r ih =>
      intro vs h
      show wipe ((wipe σ r).set a none) vs = _
      rw [wipe_set (h a (by simp)), ih vs fun j hj => h j (by simp [hj])]
  intro vs
  exact aux vs vs fun _ h => h
theorem eg_name {j : Nat} : EG K (gName j) [j] e es W (es.set j e) := fun F Hb H σ as v S r Q k => k _ (fun vs h => wipe_set (h j (by simp))) (S.set r)
theorem eg_tup2 {i j : Nat} {x y : D} : EG K (gTup K 2 (gCons (gName i) (gCons (gName j) gNil))) [i, j] (.dat (.tup [x, y])) es W ((es.set i (.dat x)).set j (.dat y)) := fun F Hb H σ as v S r Q k => by
  cases r with
  | tup h1 h2 =>
    cases h2 with
    | cons a1 t1 => cases t1 with
      | cons a2 t2 => cases t2 with
        | nil =>
          refine ⟨_, _, rfl, same_t S.base h1, rfl, _, _, rfl, _, _, rfl, rfl, ?_⟩
          refine k _ (fun vs h => ?_) ((S.set (e := .dat x) a1).set (e := .dat y) a2)
          rw [wipe_set (h j (by simp)), wipe_set (h i (by simp))]
theorem eg_tup3 {i j l : Nat} {x y z : D} : EG K (gTup K 3 (gCons (gName i) (gCons (gName j) (gCons (gName l) gNil)))) [i, j, l] (.dat (.tup [x, y, z])) es W (((es.set i (.dat x)).set j (.dat y)).set l (.dat z)) := fun F Hb H σ as v S r Q k => by
  cases r with
  | tup h1 h2 =>
    cases h2 with
    | cons a1 t1 => cases t1 with
      | cons a2 t2 => cases t2 with
        | cons a3 t3 => cases t3 with
          | nil =>
            refine ⟨_, _, rfl, same_t S.base h1, rfl, _, _, rfl, _, _, rfl, _, _, rfl, rfl, ?_⟩
            refine k _ (fun vs h => ?_) (((S.set (e := .dat x) a1).set (e := .dat y) a2).set (e := .dat z) a3)
            rw [wipe_set (h l (by simp)), wipe_set (h j (by simp)), wipe_set (h i (by simp))]
theorem sd_asgG {g : TG} {js : List Nat} (h : EV K te es W e W1) (hg : EG K g js e es W1 es1) : SDd K (tAsg te g) es W es1 W1 := fun F Hb H σ as D S k =>
  h F Hb H σ as S _ fun v Hb1 H1 as1 g1 s1 S1 r1 => hg F Hb1 H1 σ as1 v S1 r1 _ fun σ' _ S2 => (k.nx.on g1 s1).here S2 ⟨rfl, rfl⟩
theorem sd_asg {i : Nat} (h : EV K te es W e W1) : SDd K (tAsg te (gName i)) es W (es.set i e) W1 := sd_asgG h eg_name
theorem sd_par {i j : Nat} {ta : TA} (h : EA K ta es W [e1, e2] W1) : SDd K (tPar i j ta) es W ((es.set i e1).set j e2) W1 := fun F Hb H σ as D S k =>
  h F Hb H σ as S _ fun vs Hb1 H1 as1 g1 s1 S1 r1 => by
    cases r1 with
    | cons a1 t1 => cases t1 with
      | cons a2 t2 => cases t2 with
        | nil => exact ⟨_, _, rfl, (k.nx.on g1 s1).here ((S1.set a1).set a2) ⟨rfl, rfl⟩⟩
theorem sd_par3 {i j l : Nat} {ta : TA} {e3 : En} (h : EA K ta es W [e1, e2, e3] W1) : SDd K (tPar3 i j l ta) es W (((es.set i e1).set j e2).set l e3) W1 := fun F Hb H σ as D S k =>
  h F Hb H σ as S _ fun vs Hb1 H1 as1 g1 s1 S1 r1 => by
    cases r1 with
    | cons a1 t1 => cases t1 with
      | cons a2 t2 => cases t2 with
        | cons a3 t3 => cases t3 with
          | nil => exact ⟨_, _, _, rfl, (k.nx.on g1 s1).here (((S1.set a1).set a2).set a3) ⟨rfl, rfl⟩⟩
theorem sd_if {b : Bool} (h : ET K tt es W b W1) (h1 : b = true → SD K t es W1 P) (h2 : b = false → SD K u es W1 P) : SD K (tIfS tt t u) es W P := fun F Hb H σ as D S k =>
  h F Hb H σ as S _ fun Hb1 H1 as1 g1 s1 S1 => by
    cases b with
    | true =>
      show t D σ H1
      exact h1 rfl F Hb1 H1 σ as1 D S1 (k.on g1 s1)
    | false =>
      show u D σ H1
      exact h2 rfl F Hb1 H1 σ as1 D S1 (k.on g1 s1)
theorem sd_ret (h : EV K te es W e W1) (p : P.rt e W1) : SD K (tRet te) es W P := fun F Hb H σ as D S k =>
  h F Hb H σ as S _ fun v Hb1 H1 as1 g1 s1 S1 r1 => k.rt v Hb1 H1 σ as1 es W1 e p g1 s1 S1 r1
theorem sd_retN (p : P.rt (.dat .non) W) : SD K tRetN es W P := fun F Hb H σ as D S k => k.rt .non Hb H σ as es W _ p (Gr.refl _) (Same.refl _) S .non
theorem sd_drop (h : EV K te es W e W1) : SDd K (tDrop te) es W es W1 := fun F Hb H σ as D S k =>
  h F Hb H σ as S _ fun v Hb1 H1 as1 g1 s1 S1 r1 => (k.nx.on g1 s1).here S1 ⟨rfl, rfl⟩
theorem sd_break (p : P.bk es W) : SD K tBreak es W P := fun _ _ _ _ _ _ S k => k.bk.here S p
theorem sd_cont (p : P.ct es W) : SD K tCont es W P := fun _ _ _ _ _ _ S k => k.ct.here S p
theorem sd_aug {i : Nat} {a b : Int} {f : Int → Int → Int} (hx : es[i]? = some (.dat (.int a))) (h : EV K te es W (.dat (.int b)) W1) : SDd K (tAug i te (ipI f)) es W (es.set i (.dat (.int (f a b)))) W1 := fun F Hb H σ as D S k => by
  obtain ⟨v, h1, h2⟩ := S.slot i _ hx
  cases h2
  exact ⟨_, h1, h F Hb H σ as S _ fun v Hb1 H1 as1 g1 s1 S1 r1 => by
    cases r1
    exact ⟨a, b, rfl, rfl, (k.nx.on g1 s1).here (S1.set (e := .dat (.int (f a b))) (.int _)) ⟨rfl, rfl⟩⟩⟩
/-- an owned list of data is data from here on -/
theorem sd_freeze {i j : Nat} {l : List D} (h1 : es[j]? = some (.ptr i)) (h2 : W[i]? = some (.lst (l.map .dat))) (h : SD K t (es.set j (.dat (.lst l))) (W.set i .gone) P) : SD K t es W P := fun F Hb H σ as D S k => by
  obtain ⟨a, g1, g2⟩ := S.slot j _ h1
  obtain ⟨Hb', s1, S1, hd⟩ := S.freeze g1 h2
  have S2 := S1.set (i := j) (e := .dat (.lst l)) hd
  have e : σ.set j (some (.ref a)) = σ := by
    obtain ⟨hj, hv⟩ := List.getElem?_eq_some_iff.mp g2
    rw [← hv]; exact List.set_getElem_self hj
  rw [e] at S2
  exact h F Hb' H σ as D S2 (k.on (Gr.refl _) s1)
theorem ev_freeze {i : Nat} {l : List D} (h : EV K te es W (.ptr i) W1) (h2 : W1[i]? = some (.lst (l.map .dat))) : EV K te es W (.dat (.lst l)) (W1.set i .gone) := fun F Hb H σ as S Q k =>
  h F Hb H σ as S _ fun v Hb1 H1 as1 g1 s1 S1 r1 => by
    obtain ⟨a, g2, rfl⟩ := r1
    obtain ⟨Hb', s2, S2, hd⟩ := S1.freeze g2 h2
    exact (k.on g1 (s1.trans s2)).here S2 hd

/-! ### while -/
theorem sd_while {tb : TS} (I : Nat → List En → List Cn → Prop) (m0 : Nat) (h0 : I m0 es W)
    (hs : ∀ m e w, I m e w → ∃ b w1, ET K tt e w b w1 ∧ (b = false → P.nx e w1) ∧ (b = true → SD K tb e w1 { nx := fun e' w' => ∃ m', m' < m ∧ I m' e' w', rt := P.rt, bk := P.nx, ct := fun e' w' => ∃ m', m' < m ∧ I m' e' w' })) : SD K (tWhile tt tb) es W P := fun F Hb H σ as D S k => by
  refine ⟨fun m σ' H' => ∃ Hb' as' es' W', I m es' W' ∧ Gr as as' ∧ Same Hb Hb' ∧ ST K F Hb' H' σ' es' W' as', ⟨m0, Hb, as, es, W, h0, Gr.refl _, Same.refl _, S⟩, ?_⟩
  rintro m σ' H' ⟨Hb1, as1, es1, W1, hI, g1, s1, S1⟩
  obtain ⟨b, w1, ht, hf, hb⟩ := hs m es1 W1 hI
  refine ht F Hb1 H' σ' as1 S1 _ fun Hb2 H2 as2 g2 s2 S2 => ?_
  have k2 := k.on (g1.trans g2) (s1.trans s2)
  cases b with
  | false =>
    show D.nx σ' H2
    exact k2.nx.here S2 (hf rfl)
  | true =>
    refine ⟨fun σ3 H3 => ∃ m', m' < m ∧ ∃ Hb' as' es' W', I m' es' W' ∧ Gr as as' ∧ Same Hb Hb' ∧ ST K F Hb' H3 σ3 es' W' as', fun σ3 H3 h => h, ?_⟩
    refine hb rfl F Hb2 H2 σ' as2 _ S2 ⟨?_, k2.rt, k2.nx, ?_⟩
    · rintro Hb3 H3 σ3 as3 es3 W3 ⟨m', hm, hI'⟩ g3 s3 S3
      exact ⟨m', hm, Hb3, as3, es3, W3, hI', (g1.trans g2).trans g3, (s1.trans s2).trans s3, S3⟩
    · rintro Hb3 H3 σ3 as3 es3 W3 ⟨m', hm, hI'⟩ g3 s3 S3
      exact ⟨m', hm, Hb3, as3, es3, W3, hI', (g1.trans g2).trans g3, (s1.trans s2).trans s3, S3⟩

/-! ### what is walked -/
def EI (K : PySem.W.Frag) (wi : TI) (es : List En) (W : List Cn) (l : List En) (stay : List Cn → Prop) (W' : List Cn) : Prop :=
  ∀ F Hb H σ as, ST K F Hb H σ es W as → ∀ R : It → Hp → Prop,
    (∀ J Hb' H' as', Gr as as' → Same Hb Hb' → ST K F Hb' H' σ es W' as' →
      (∀ i F2 Hb2 H2 σ2 es2 W2 as2, ST K F2 Hb2 H2 σ2 es2 W2 as2 → Same Hb' Hb2 → Gr as' as2 → stay W2 →
        (∀ e, l[i]? = some e → J.go i H2 ∧ ∀ x H3, J.yld i H2 x H3 → ∃ Hb3, Same Hb2 Hb3 ∧ ST K F2 Hb3 H3 σ2 es2 W2 as2 ∧ RE K Hb3 as2 x e ∧ Same H2 H3) ∧ (l.length ≤ i → J.stop i H2)) → R J H') → wi σ H R
def iSeq (K : PySem.W.Frag) (tl : TE) : TI := fun σ H R => iList K tl σ H R ∨ iTup K tl σ H R
theorem pi_seq {X : Cx} {tg e : Expr} {tl : TE} (h1 : PI X tg e (iList X.K tl)) (h2 : PI X tg e (iTup X.K tl)) : PI X tg e (iSeq X.K tl) := ⟨fun pins s σ H R I h => by
  rcases h with h | h
  · exact h1.run pins s σ H R I h
  · exact h2.run pins s σ H R I h⟩
theorem DtA.map_dat {Hb : Hp} {as : List Addr} {xs : List V} {l : List D} (h : Paired (RE K Hb as) xs (l.map .dat)) : DtA K Hb xs l := DtA.of_dat (xs := xs) h
/-- a list or tuple that is data -/
theorem ei_dat {l : List D} {tl : TE} (hl : d = .lst l ∨ d = .rl l ∨ d = .tup l) (h : EV K tl es W (.dat d) W1) : EI K (iSeq K tl) es W (l.map .dat) (fun _ => True) W1 := fun F Hb H σ as S R k => by
  rcases hl with rfl | rfl | rfl
  · refine .inl (h F Hb H σ as S _ fun v Hb1 H1 as1 g1 s1 S1 r1 => ?_)
    cases r1 with
    | @lst a xs _ q1 q2 =>
      refine ⟨a, rfl, ⟨xs, SqL.of (S1.base _ _ q1)⟩, k _ Hb1 H1 as1 g1 s1 S1 fun i F2 Hb2 H2 σ2 es2 W2 as2 S2 s2 g2 _ => ?_⟩
      have hq : SqL K H2 a xs := SqL.of (S2.base _ _ (s2 _ _ q1))
      have hp : DtA K Hb2 xs l := DtA.mono s2 _ _ q2
      refine ⟨fun e he => ?_, fun hi => ⟨xs, hq, by rw [hp.length]; simpa using hi⟩⟩
      have he' : ∃ d0, l[i]? = some d0 ∧ e = .dat d0 := by
        rw [List.getElem?_map] at he
        cases q : l[i]? with
        | none => rw [q] at he; cases he
        | some d0 => rw [q] at he; cases he; exact ⟨d0, rfl, rfl⟩
      obtain ⟨d0, hd0, rfl⟩ := he'
      obtain ⟨x, hx, hxd⟩ := hp.get hd0
      refine ⟨⟨xs, x, hq, hx⟩, fun y H3 hy => ?_⟩
      obtain ⟨rfl, hy⟩ := hy
      have := hy xs hq
      rw [hx] at this; cases this
      exact ⟨Hb2, Same.refl _, S2, hxd, Same.refl _⟩
  · refine .inl (h F Hb H σ as S _ fun v Hb1 H1 as1 g1 s1 S1 r1 => ?_)
    cases r1 with
    | @rl a xs _ q1 q2 =>
      refine ⟨a, rfl, ⟨xs, same_l S1.base q1⟩, k _ Hb1 H1 as1 g1 s1 S1 fun i F2 Hb2 H2 σ2 es2 W2 as2 S2 s2 g2 _ => ?_⟩
      have hq : SqL K H2 a xs := same_l S2.base (same_l s2 q1)
      have hp : DtA K Hb2 xs l := DtA.mono s2 _ _ q2
      refine ⟨fun e he => ?_, fun hi => ⟨xs, hq, by rw [hp.length]; simpa using hi⟩⟩
      have he' : ∃ d0, l[i]? = some d0 ∧ e = .dat d0 := by
        rw [List.getElem?_map] at he
        cases q : l[i]? with
        | none => rw [q] at he; cases he
        | some d0 => rw [q] at he; cases he; exact ⟨d0, rfl, rfl⟩
      obtain ⟨d0, hd0, rfl⟩ := he'
      obtain ⟨x, hx, hxd⟩ := hp.get hd0
      refine ⟨⟨xs, x, hq, hx⟩, fun y H3 hy => ?_⟩
      obtain ⟨rfl, hy⟩ := hy
      have := hy xs hq
      rw [hx] at this; cases this
      exact ⟨Hb2, Same.refl _, S2, hxd, Same.refl _⟩
  · refine .inr (h F Hb H σ as S _ fun v Hb1 H1 as1 g1 s1 S1 r1 => ?_)
    cases r1 with
    | @tup a xs _ q1 q2 =>
      refine ⟨a, rfl, ⟨xs, same_t S1.base q1⟩, k _ Hb1 H1 as1 g1 s1 S1 fun i F2 Hb2 H2 σ2 es2 W2 as2 S2 s2 g2 _ => ?_⟩
      have hq : SqT K H2 a xs := same_t S2.base (same_t s2 q1)
      have hp : DtA K Hb2 xs l := DtA.mono s2 _ _ q2
      refine ⟨fun e he => ?_, fun hi => ⟨xs, hq, by rw [hp.length]; simpa using hi⟩⟩
      have he' : ∃ d0, l[i]? = some d0 ∧ e = .dat d0 := by
        rw [List.getElem?_map] at he
        cases q : l[i]? with
        | none => rw [q] at he; cases he
        | some d0 => rw [q] at he; cases he; exact ⟨d0, rfl, rfl⟩
      obtain ⟨d0, hd0, rfl⟩ := he'
      obtain ⟨x, hx, hxd⟩ := hp.get hd0
      refine ⟨⟨xs, x, hq, hx⟩, fun y H3 hy => ?_⟩
      obtain ⟨rfl, hy⟩ := hy
      have := hy xs hq
      rw [hx] at this; cases this
      exact ⟨Hb2, Same.refl _, S2, hxd, Same.refl _⟩
theorem ei_lst {l : List D} {tl : TE} (h : EV K tl es W (.dat (.lst l)) W1) : EI K (iSeq K tl) es W (l.map .dat) (fun _ => True) W1 := ei_dat (.inl rfl) h
theorem ei_tup {l : List D} {tl : TE} (h : EV K tl es W (.dat (.tup l)) W1) : EI K (iSeq K tl) es W (l.map .dat) (fun _ => True) W1 := ei_dat (.inr (.inr rfl)) h
theorem ei_rl {l : List D} {tl : TE} (h : EV K tl es W (.dat (.rl l)) W1) : EI K (iSeq K tl) es W (l.map .dat) (fun _ => True) W1 := ei_dat (.inr (.inl rfl)) h
/-- an owned list that stays while it is walked -/
theorem ei_own {j : Nat} {l : List En} {tl : TE} (h : EV K tl es W (.ptr j) W1) (hj : W1[j]? = some (.lst l)) : EI K (iSeq K tl) es W l (fun w => w[j]? = some (.lst l)) W1 := fun F Hb H σ as S R k => by
  refine .inl (h F Hb H σ as S _ fun v Hb1 H1 as1 g1 s1 S1 r1 => ?_)
  obtain ⟨a, ha, rfl⟩ := r1
  obtain ⟨_, _, xs0, hx0, _⟩ := S1.own j a _ ha hj rfl
  refine ⟨a, rfl, ⟨xs0, SqL.of hx0⟩, k _ Hb1 H1 as1 g1 s1 S1 fun i F2 Hb2 H2 σ2 es2 W2 as2 S2 s2 g2 hst => ?_⟩
  obtain ⟨_, _, xs, hx, hp⟩ := S2.own j a _ (g2.get ha) hst rfl
  refine ⟨fun e he => ?_, fun hi => ⟨xs, SqL.of hx, by rw [paired_length hp]; exact hi⟩⟩
  obtain ⟨x, hx1, hx2⟩ := paired_get hp he
  refine ⟨⟨xs, x, SqL.of hx, hx1⟩, fun y H3 hy => ?_⟩
  obtain ⟨rfl, hy⟩ := hy
  have := hy xs (SqL.of hx)
  rw [hx1] at this; cases this
  exact ⟨Hb2, Same.refl _, S2, hx2, Same.refl _⟩
def rngE (lo : Int) (n : Nat) : List En := (List.range n).map fun (i : Nat) => .dat (.int (lo + (i : Int)))
theorem rngE_length (lo : Int) (n : Nat) : (rngE lo n).length = n := by simp [rngE]
theorem rngE_get {lo : Int} {n i : Nat} (h : i < n) : (rngE lo n)[i]? = some (.dat (.int (lo + (i : Int)))) := by simp [rngE, h]
theorem rngE_of {lo : Int} {n i : Nat} {e : En} (h : (rngE lo n)[i]? = some e) : i < n ∧ e = .dat (.int (lo + (i : Int))) := by
  have hi : i < n := by
    have := (List.getElem?_eq_some_iff.mp h).1
    simpa [rngE] using this
  rw [rngE_get hi] at h
  exact ⟨hi, (Option.some.inj h).symm⟩
theorem ei_rngJ {lo : Int} {n : Nat} {i : Nat} {F2 Hb2 H2 : Hp} {σ2 : L2.St} {es2 : List En} {W2 : List Cn} {as2 : List Addr} (S2 : ST K F2 Hb2 H2 σ2 es2 W2 as2) :
    (∀ e, (rngE lo n)[i]? = some e → (Itr lo n).go i H2 ∧ ∀ x H3, (Itr lo n).yld i H2 x H3 → ∃ Hb3, Same Hb2 Hb3 ∧ ST K F2 Hb3 H3 σ2 es2 W2 as2 ∧ RE K Hb3 as2 x e ∧ Same H2 H3) ∧ ((rngE lo n).length ≤ i → (Itr lo n).stop i H2) := by
  refine ⟨fun e he => ?_, fun hi => by rw [rngE_length] at hi; exact hi⟩
  obtain ⟨hi, rfl⟩ := rngE_of he
  refine ⟨hi, fun x H3 hy => ?_⟩
  obtain ⟨rfl, rfl⟩ := hy
  exact ⟨Hb2, Same.refl _, S2, .int _, Same.refl _⟩
theorem ei_rng1 {ta : TA} {n : Int} (h : EA K ta es W [.dat (.int n)] W1) (hn : -(2 ^ 62) ≤ n ∧ n < 2 ^ 62) : EI K (iRng1 ta) es W (rngE 0 n.toNat) (fun _ => True) W1 := fun F Hb H σ as S R k =>
  h F Hb H σ as S _ fun vs Hb1 H1 as1 g1 s1 S1 r1 => by
    cases r1 with
    | cons a1 t1 => cases t1 with
      | nil =>
        cases a1
        exact ⟨n, rfl, hn.1, hn.2, k _ Hb1 H1 as1 g1 s1 S1 fun i F2 Hb2 H2 σ2 es2 W2 as2 S2 _ _ _ => ei_rngJ S2⟩
theorem ei_rng2 {ta : TA} {lo n : Int} (h : EA K ta es W [.dat (.int lo), .dat (.int n)] W1) (hl : -(2 ^ 62) ≤ lo ∧ lo < 2 ^ 62) (hn : -(2 ^ 62) ≤ n ∧ n < 2 ^ 62) : EI K (iRng2 ta) es W (rngE lo (n - lo).toNat) (fun _ => True) W1 := fun F Hb H σ as S R k =>
  h F Hb H σ as S _ fun vs Hb1 H1 as1 g1 s1 S1 r1 => by
    cases r1 with
    | cons a1 t1 => cases t1 with
      | cons a2 t2 => cases t2 with
        | nil =>
          cases a1; cases a2
          exact ⟨lo, n, rfl, ⟨hl.1, hl.2, hn.1, hn.2⟩, k _ Hb1 H1 as1 g1 s1 S1 fun i F2 Hb2 H2 σ2 es2 W2 as2 S2 _ _ _ => ei_rngJ S2⟩
/-- zip of two lists (two tuples) of data -/
def zipE (l m : List D) : List En := (l.zip m).map fun p => .dat (.tup [p.1, p.2])
theorem zipE_of {l m : List D} {i : Nat} {e : En} (h : (zipE l m)[i]? = some e) : ∃ x y, l[i]? = some x ∧ m[i]? = some y ∧ e = .dat (.tup [x, y]) := by
  unfold zipE at h
  rw [List.getElem?_map] at h
  cases q : (l.zip m)[i]? with
  | none => rw [q] at h; cases h
  | some p =>
    rw [q] at h; cases h
    rw [List.getElem?_zip_eq_some] at q
    exact ⟨p.1, p.2, q.1, q.2, rfl⟩
theorem ei_zip {ta : TA} {l m : List D} (h : EA K ta es W [.dat d1, .dat d2] W1) (hh : (d1 = .lst l ∧ d2 = .lst m) ∨ (d1 = .tup l ∧ d2 = .tup m)) : EI K (RZ.iZipA K ta) es W (zipE l m) (fun _ => True) W1 := fun F Hb H σ as S R k =>
  h F Hb H σ as S _ fun vs Hb1 H1 as1 g1 s1 S1 r1 => by
    cases r1 with
    | cons a1 t1 => cases t1 with
      | cons a2 t2 => cases t2 with
        | nil =>
          have len : ∀ {xs ys : List V} {Hb2 : Hp} {i : Nat}, DtA K Hb2 xs l → DtA K Hb2 ys m → (zipE l m).length ≤ i → xs.length ≤ i ∨ ys.length ≤ i := fun {xs ys Hb2 i} p1 p2 hi => by
            have e1 := p1.length
            have e2 := p2.length
            simp [zipE] at hi
            omega
          rcases hh with ⟨rfl, rfl⟩ | ⟨rfl, rfl⟩
          · cases a1 with
            | @lst a xs _ q1 q2 => cases a2 with
              | @lst b ys _ q3 q4 =>
                refine ⟨a, b, xs, ys, rfl, .inl ⟨SqL.of (S1.base _ _ q1), SqL.of (S1.base _ _ q3), k _ Hb1 H1 as1 g1 s1 S1 fun i F2 Hb2 H2 σ2 es2 W2 as2 S2 s2 g2 _ => ?_⟩⟩
                have c1 : SqL K H2 a xs := SqL.of (S2.base _ _ (s2 _ _ q1))
                have c2 : SqL K H2 b ys := SqL.of (S2.base _ _ (s2 _ _ q3))
                have p1 : DtA K Hb2 xs l := DtA.mono s2 _ _ q2
                have p2 : DtA K Hb2 ys m := DtA.mono s2 _ _ q4
                refine ⟨fun e he => ?_, fun hi => ⟨xs, ys, c1, c2, len p1 p2 hi⟩⟩
                obtain ⟨x, y, hx, hy, rfl⟩ := zipE_of he
                obtain ⟨u, hu, du⟩ := p1.get hx
                obtain ⟨w, hw, dw⟩ := p2.get hy
                refine ⟨⟨xs, ys, u, w, c1, c2, hu, hw⟩, fun z H3 hz => ?_⟩
                obtain ⟨T, x0, y0, rfl, hT, rfl, f1, f2⟩ := hz
                have e1 := f1 xs c1
                have e2 := f2 ys c2
                rw [hu] at e1; rw [hw] at e2; cases e1; cases e2
                obtain ⟨S3, s3⟩ := S2.new (o := .tup [u, w]) hT
                exact ⟨_, s3, S3, .tup (.inl (.inl upd_same)) (.cons (Dt.mono s3 _ _ du) (.cons (Dt.mono s3 _ _ dw) .nil)), fun c o q => by rw [upd_ne (ne_of_none q hT)]; exact q⟩
          · cases a1 with
            | @tup a xs _ q1 q2 => cases a2 with
              | @tup b ys _ q3 q4 =>
                refine ⟨a, b, xs, ys, rfl, .inr ⟨same_t S1.base q1, same_t S1.base q3, k _ Hb1 H1 as1 g1 s1 S1 fun i F2 Hb2 H2 σ2 es2 W2 as2 S2 s2 g2 _ => ?_⟩⟩
                have c1 : SqT K H2 a xs := same_t S2.base (same_t s2 q1)
                have c2 : SqT K H2 b ys := same_t S2.base (same_t s2 q3)
                have p1 : DtA K Hb2 xs l := DtA.mono s2 _ _ q2
                have p2 : DtA K Hb2 ys m := DtA.mono s2 _ _ q4
                refine ⟨fun e he => ?_, fun hi => ⟨xs, ys, c1, c2, len p1 p2 hi⟩⟩
                obtain ⟨x, y, hx, hy, rfl⟩ := zipE_of he
                obtain ⟨u, hu, du⟩ := p1.get hx
                obtain ⟨w, hw, dw⟩ := p2.get hy
                refine ⟨⟨xs, ys, u, w, c1, c2, hu, hw⟩, fun z H3 hz => ?_⟩
                obtain ⟨T, x0, y0, rfl, hT, rfl, f1, f2⟩ := hz
                have e1 := f1 xs c1
                have e2 := f2 ys c2
                rw [hu] at e1; rw [hw] at e2; cases e1; cases e2
                obtain ⟨S3, s3⟩ := S2.new (o := .tup [u, w]) hT
                exact ⟨_, s3, S3, .tup (.inl (.inl upd_same)) (.cons (Dt.mono s3 _ _ du) (.cons (Dt.mono s3 _ _ dw) .nil)), fun c o q => by rw [upd_ne (ne_of_none q hT)]; exact q⟩

/-! ### for -/
theorem sd_for {wi : TI} {g : TG} {tb : TS} {l : List En} {stay : List Cn → Prop} (hi : EI K wi es W l stay W1) (I : Nat → List En → List Cn → Prop) (h0 : I 0 es W1) (hst : ∀ i e w, I i e w → stay w)
    (hs : ∀ i x e w, l[i]? = some x → I i e w → ∃ js e2, EG K g js x e w e2 ∧ SD K tb e2 w { nx := I (i + 1), rt := P.rt, bk := P.nx, ct := I (i + 1) }) (hd : ∀ e w, I l.length e w → P.nx e w) : SD K (tFor wi g tb) es W P := fun F Hb H σ as D S k =>
  hi F Hb H σ as S _ fun J Hb1 H1 as1 g1 s1 S1 walk => by
    refine ⟨fun i m σ' H' => m = l.length - i ∧ i ≤ l.length ∧ ∃ Hb' as' es' W', I i es' W' ∧ Gr as1 as' ∧ Same Hb1 Hb' ∧ ST K F Hb' H' σ' es' W' as', ⟨l.length, by simp, Nat.zero_le _, Hb1, as1, es, W1, h0, Gr.refl _, Same.refl _, S1⟩, ?_⟩
    rintro i m σ' H' ⟨rfl, hil, Hb2, as2, es2, W2, hI, g2, s2, S2⟩
    have wk := walk i F Hb2 H' σ' es2 W2 as2 S2 s2 g2 (hst i es2 W2 hI)
    by_cases hlt : i < l.length
    · obtain ⟨hgo, hyl⟩ := wk.1 l[i] (by simp [hlt])
      refine .inr ⟨hgo, fun σ3 H3 => ∃ Hb' as' es' W', I (i + 1) es' W' ∧ Gr as1 as' ∧ Same Hb1 Hb' ∧ ST K F Hb' H3 σ3 es' W' as', fun σ3 H3 h => ⟨l.length - (i + 1), by omega, rfl, hlt, h⟩, fun x H3 hy => ?_⟩
      obtain ⟨Hb3, s3, S3, r3, _⟩ := hyl x H3 hy
      obtain ⟨js, e2, hg, hb⟩ := hs i l[i] es2 W2 (by simp [hlt]) hI
      refine hg F Hb3 H3 σ' as2 x S3 r3 _ fun σ4 _ S4 => ?_
      have kk := k.on (g1.trans g2) ((s1.trans s2).trans s3)
      refine hb F Hb3 H3 σ4 as2 _ S4 ⟨?_, kk.rt, kk.nx, ?_⟩
      · intro Hb5 H5 σ5 as5 es5 W5 hI5 g5 s5 S5
        exact ⟨Hb5, as5, es5, W5, hI5, g2.trans g5, (s2.trans s3).trans s5, S5⟩
      · intro Hb5 H5 σ5 as5 es5 W5 hI5 g5 s5 S5
        exact ⟨Hb5, as5, es5, W5, hI5, g2.trans g5, (s2.trans s3).trans s5, S5⟩
    · have e : i = l.length := by omega
      subst e
      exact .inl ⟨wk.2 (Nat.le_refl _), (k.on (g1.trans g2) (s1.trans s2)).nx.here S2 (hd es2 W2 hI)⟩

/-! ### comprehensions -/
def wipeE (es : List En) : List Nat → List En
  | [] => es
  | v :: vs => (wipeE es vs).set v .un
theorem ST.wipe (S : ST K F Hb H σ es W as) : ∀ vs : List Nat, ST K F Hb H (L2.wipe σ vs) (wipeE es vs) W as
  | [] => S
  | v :: vs => (ST.wipe S vs).unset
theorem ST.slots {σ1 : L2.St} {es1 : List En} (S : ST K F Hb H σ1 es1 W as) (hl : σ.length = es.length) (h : ∀ (i : Nat) (e : En), es[i]? = some e → RS K Hb as σ[i]? e) : ST K F Hb H σ es W as := ⟨S.base, S.frm, S.dis, S.len, S.own, S.inj, hl, h⟩
/-- a foreign object comes, changes, joins the base -/
theorem ST.outside {p : Addr} {o : HO} (S : ST K F Hb H σ es W as) (hp : H p = none) : ST K (upd F p o) Hb (upd H p o) σ es W as := by
  have hb : Hb p = none := S.base.free hp
  have liveNe : ∀ (j : Nat) (b : Addr) (d : Cn), as[j]? = some b → W[j]? = some d → live d = true → b ≠ p := fun j b d h1 h2 h3 => by
    obtain ⟨_, _, k3⟩ := S.own j b d h1 h2 h3
    obtain ⟨u, hu⟩ := k3.some h3
    exact ne_of_none hu hp
  refine ⟨fun b u e => by rw [upd_ne (ne_of_none e hb)]; exact S.base b u e, fun b u e => ?_, fun b u e => ?_, S.len, fun j b d g1 g2 g3 => ?_, S.inj, S.sl, S.slot⟩
  · by_cases h : b = p
    · subst h; rw [upd_same] at e ⊢; exact e
    · rw [upd_ne h] at e ⊢; exact S.frm b u e
  · by_cases h : b = p
    · subst h; exact hb
    · rw [upd_ne h] at e; exact S.dis b u e
  · obtain ⟨k1, k2, k3⟩ := S.own j b d g1 g2 g3
    have ne := liveNe j b d g1 g2 g3
    exact ⟨k1, by rw [upd_ne ne]; exact k2, k3.mono (Gr.refl _) (Same.refl _) (by rw [upd_ne ne])⟩
theorem ST.outset {p : Addr} {o o' : HO} (S : ST K (upd F p o) Hb H σ es W as) : ST K (upd F p o') Hb (upd H p o') σ es W as := by
  have hb : Hb p = none := S.dis p o upd_same
  have liveNe : ∀ (j : Nat) (b : Addr) (d : Cn), as[j]? = some b → W[j]? = some d → live d = true → b ≠ p := fun j b d h1 h2 h3 q => by
    obtain ⟨_, k2, _⟩ := S.own j b d h1 h2 h3
    subst q
    rw [upd_same] at k2; cases k2
  refine ⟨fun b u e => by rw [upd_ne (ne_of_none e hb)]; exact S.base b u e, fun b u e => ?_, fun b u e => ?_, S.len, fun j b d g1 g2 g3 => ?_, S.inj, S.sl, S.slot⟩
  · by_cases h : b = p
    · subst h; rw [upd_same] at e ⊢; exact e
    · rw [upd_ne h] at e ⊢
      exact S.frm b u (by rw [upd_ne h]; exact e)
  · by_cases h : b = p
    · subst h; exact hb
    · rw [upd_ne h] at e; exact S.dis b u (by rw [upd_ne h]; exact e)
  · obtain ⟨k1, k2, k3⟩ := S.own j b d g1 g2 g3
    have ne := liveNe j b d g1 g2 g3
    rw [upd_ne ne] at k2
    exact ⟨k1, by rw [upd_ne ne]; exact k2, k3.mono (Gr.refl _) (Same.refl _) (by rw [upd_ne ne])⟩
theorem ST.adopt {p : Addr} {o : HO} (S : ST K (upd F p o) Hb H σ es W as) (hF : F p = none) : ST K F (upd Hb p o) H σ es W as ∧ Same Hb (upd Hb p o) := by
  have hb : Hb p = none := S.dis p o upd_same
  have s1 : Same Hb (upd Hb p o) := fun a u e => by rw [upd_ne (ne_of_none e hb)]; exact e
  have FF : ∀ a u, F a = some u → a ≠ p := fun a u e q => by subst q; rw [hF] at e; cases e
  refine ⟨⟨fun b u e => ?_, fun b u e => S.frm b u (by rw [upd_ne (FF b u e)]; exact e), fun b u e => ?_, S.len, fun j b d g1 g2 g3 => ?_, S.inj, S.sl, fun i e h => RS.mono (Gr.refl _) s1 (S.slot i e h)⟩, s1⟩
  · by_cases h : b = p
    · subst h; rw [upd_same] at e; cases e; exact S.frm b o upd_same
    · rw [upd_ne h] at e; exact S.base b u e
  · rw [upd_ne (FF b u e)]
    exact S.dis b u (by rw [upd_ne (FF b u e)]; exact e)
  · obtain ⟨k1, k2, k3⟩ := S.own j b d g1 g2 g3
    have ne : b ≠ p := fun q => by subst q; rw [upd_same] at k2; cases k2
    rw [upd_ne ne] at k2
    exact ⟨by rw [upd_ne ne]; exact k1, k2, k3.mono (Gr.refl _) s1 rfl⟩
/-- the core of a list comprehension: fs tells what each turn gives (none: left out) -/
theorem ev_lc {wi : TI} {g : TG} {vs js : List Nat} {l : List En} {stay : List Cn → Prop} {W0 : List Cn} (hi : EI K wi es W l stay W0) (fs : Nat → Option D) (Ws : Nat → List Cn) (hW0 : Ws 0 = W0) (hl : l.length ≤ 1000000) (hst : ∀ i, i ≤ l.length → stay (Ws i)) (hjs : ∀ j ∈ js, j ∈ vs)
    (step : ∀ i x, l[i]? = some x → ∃ e2, EG K g js x (wipeE es vs) (Ws i) e2 ∧ ((∃ Wt d, fs i = some d ∧ ET K tt e2 (Ws i) true Wt ∧ EV K te e2 Wt (.dat d) (Ws (i + 1))) ∨ (fs i = none ∧ ET K tt e2 (Ws i) false (Ws (i + 1))))) :
    EV K (tLc wi g tt te vs) es W (.dat (.lst ((List.range l.length).filterMap fs))) (Ws l.length) := fun F Hb H σ as S Q k =>
  hi F Hb H σ as S _ fun J Hb1 H1 as1 g1 s1 S1 walk p hp => by
    have hF : F p = none := S1.frm.free hp
    refine ⟨fun i m H' => m = l.length - i ∧ i ≤ l.length ∧ ∃ Hb' as' acc, Gr as1 as' ∧ Same Hb1 Hb' ∧ DtA K Hb' acc ((List.range i).filterMap fs) ∧ ST K (upd F p (.lst acc)) Hb' H' (L2.wipe σ vs) (wipeE es vs) (Ws i) as',
      ⟨l.length, by simp, Nat.zero_le _, Hb1, as1, [], Gr.refl _, Same.refl _, .nil, by rw [hW0]; exact (S1.outside hp).wipe vs⟩, ?_⟩
    rintro i m H' ⟨rfl, hil, Hb2, as2, acc, g2, s2, hacc, S2⟩
    have wk := walk i _ Hb2 H' _ _ _ as2 S2 s2 g2 (hst i hil)
    by_cases hlt : i < l.length
    · obtain ⟨hgo, hyl⟩ := wk.1 l[i] (by simp [hlt])
      refine .inr ⟨hgo, fun H3 => ∃ Hb' as' acc, Gr as1 as' ∧ Same Hb1 Hb' ∧ DtA K Hb' acc ((List.range (i + 1)).filterMap fs) ∧ ST K (upd F p (.lst acc)) Hb' H3 (L2.wipe σ vs) (wipeE es vs) (Ws (i + 1)) as', fun H3 h => ⟨l.length - (i + 1), by omega, rfl, hlt, h⟩, fun x H3 hy => ?_⟩
      obtain ⟨Hb3, s3, S3, r3, _⟩ := hyl x H3 hy
      obtain ⟨e2, hg, hstep⟩ := step i l[i] (by simp [hlt])
      refine hg _ Hb3 H3 _ as2 x S3 r3 _ fun σ4 hw S4 => ⟨by rw [hw vs hjs, wipe_wipe], ?_⟩
      have back : ∀ {Hb5 H5 as5 F5 W5}, ST K F5 Hb5 H5 σ4 e2 W5 as5 → Same Hb2 Hb5 → Gr as2 as5 → ST K F5 Hb5 H5 (L2.wipe σ vs) (wipeE es vs) W5 as5 := fun {Hb5 H5 as5 F5 W5} S5 s5 g5 =>
        S5.slots (by have := (S.wipe vs).sl; exact this) fun i e h => RS.mono g5 s5 (S2.slot i e h)
      have lenacc : acc.length < sizeLine := by
        rw [hacc.length, sizeLine_eq]
        have := List.length_filterMap_le fs (List.range i)
        simp at this
        omega
      rcases hstep with ⟨Wt, d, hf, ht, he⟩ | ⟨hf, ht⟩
      · refine ht _ Hb3 H3 σ4 as2 S4 _ fun Hb5 H5 as5 g5 s5 S5 => ?_
        show te σ4 H5 _
        refine he _ Hb5 H5 σ4 as5 S5 _ fun y Hb6 H6 as6 g6 s6 S6 r6 => ?_
        refine ⟨acc, S6.frm p _ upd_same, lenacc, Hb6, as6, acc ++ [y], (g2.trans g5).trans g6, ((s2.trans s3).trans s5).trans s6, ?_, back (S6.outset) ((s3.trans s5).trans s6) (g5.trans g6)⟩
        rw [List.range_succ, List.filterMap_append]
        have : [i].filterMap fs = [d] := by simp [hf]
        rw [this]
        exact (DtA.mono ((s3.trans s5).trans s6) _ _ hacc).append (.cons r6 .nil)
      · refine ht _ Hb3 H3 σ4 as2 S4 _ fun Hb5 H5 as5 g5 s5 S5 => ?_
        show ∃ Hb' as' acc, _
        refine ⟨Hb5, as5, acc, g2.trans g5, (s2.trans s3).trans s5, ?_, back S5 (s3.trans s5) g5⟩
        rw [List.range_succ, List.filterMap_append]
        have : [i].filterMap fs = [] := by simp [hf]
        rw [this, List.append_nil]
        exact DtA.mono (s3.trans s5) _ _ hacc
    · have e : i = l.length := by omega
      subst e
      refine .inl ⟨wk.2 (Nat.le_refl _), ?_⟩
      obtain ⟨S5, s5⟩ := S2.adopt hF
      have S6 : ST K F (upd Hb2 p (.lst acc)) H' σ es (Ws l.length) as2 := S5.slots S.sl fun i e h => RS.mono (g1.trans g2) ((s1.trans s2).trans s5) (S.slot i e h)
      exact k _ _ _ _ (g1.trans g2) ((s1.trans s2).trans s5) S6 (.lst upd_same (DtA.mono s5 _ _ hacc))
end
end AS
/-! AS4: calls, bodies, owned lists and dicts, slices, isinstance. -/
namespace AS
open PySem L2

/-! ### closed contents -/
def ClE (n : Nat) : En → Prop
  | .ptr j => j < n
  | _ => True
def ClC (n : Nat) : Cn → Prop
  | .gone => True
  | .lst l => ∀ e ∈ l, ClE n e
  | .dct l => ∀ p ∈ l, ClE n p.2
  | .ins _ l => ∀ p ∈ l, ClE n p.2
theorem RE.cut {K : PySem.W.Frag} {Hb : Hp} {as as' : List Addr} {v : V} {e : En} (g : Gr as as') (c : ClE as.length e) (h : RE K Hb as' v e) : RE K Hb as v e := by
  cases e with
  | un => trivial
  | dat d => exact h
  | ptr j =>
    obtain ⟨a, h1, h2⟩ := h
    obtain ⟨bs, rfl⟩ := g
    rw [List.getElem?_append_left c] at h1
    exact ⟨a, h1, h2⟩
theorem paired_mem {α β : Type} {P Q : α → β → Prop} : ∀ {l : List α} {m : List β}, (∀ a b, b ∈ m → P a b → Q a b) → Paired P l m → Paired Q l m
  | _, _, _, .nil => .nil
  | _, _, h, .cons r t => .cons (h _ _ (by simp) r) (paired_mem (fun a b hb => h a b (by simp [hb])) t)
theorem RC.cut {K : PySem.W.Frag} {Hb H : Hp} {as as' : List Addr} {a : Addr} {c : Cn} (g : Gr as as') (cl : ClC as.length c) (h : RC K Hb as' H a c) : RC K Hb as H a c := by
  cases c with
  | gone => trivial
  | lst l => obtain ⟨xs, h1, h2⟩ := h; exact ⟨xs, h1, paired_mem (fun _ b hb r => RE.cut g (cl b hb) r) h2⟩
  | dct l => obtain ⟨xs, h1, h2⟩ := h; exact ⟨xs, h1, paired_mem (fun _ b hb r => ⟨r.1, RE.cut g (cl b hb) r.2⟩) h2⟩
  | ins C l => obtain ⟨dx, xs, h1, h2⟩ := h; exact ⟨dx, xs, h1, paired_mem (fun _ b hb r => ⟨r.1, RE.cut g (cl b hb) r.2⟩) h2⟩
theorem ClC.dats {n : Nat} (l : List D) : ClC n (.lst (l.map .dat)) := fun e h => by
  obtain ⟨d, _, rfl⟩ := List.mem_map.mp h
  trivial

/-! ### promises over the abstract state -/
def spV (K : PySem.W.Frag) (args : List En) (W : List Cn) (r : En) (W' : List Cn) : List V → Hp → VK → Prop := fun vs H Q =>
  ∃ F Hb as, ST K F Hb H (vs.map some) args W as ∧ ∀ v Hb' H', Same Hb Hb' → ST K F Hb' H' [] [] W' as → RE K Hb' as v r → Q v H'
/-- what comes back is a new owned object -/
def spN (K : PySem.W.Frag) (args : List En) (W : List Cn) (W' : List Cn) (c : Cn) : List V → Hp → VK → Prop := fun vs H Q =>
  ∃ F Hb as, ST K F Hb H (vs.map some) args W as ∧ ∀ p Hb' H', Same Hb Hb' → ST K F Hb' H' [] [] (W' ++ [c]) (as ++ [p]) → Q (.ref p) H'
theorem spV.len {K : PySem.W.Frag} {args : List En} {W W' : List Cn} {r : En} {vs : List V} {H : Hp} {Q : VK} (h : spV K args W r W' vs H Q) : vs.length = args.length := by
  obtain ⟨_, _, _, S, _⟩ := h
  have := S.sl
  simpa using this
theorem spN.len {K : PySem.W.Frag} {args : List En} {W W' : List Cn} {c : Cn} {vs : List V} {H : Hp} {Q : VK} (h : spN K args W W' c vs H Q) : vs.length = args.length := by
  obtain ⟨_, _, _, S, _⟩ := h
  have := S.sl
  simpa using this

section
variable {K : PySem.W.Frag} {F Hb Hb' H H' : Hp} {σ : L2.St} {es es1 es2 : List En} {as as' : List Addr} {W W1 W2 W3 W' : List Cn} {e e1 e2 r : En} {ta tb te tc : TE} {d d1 d2 : D} {v : V} {P : Po} {t u : TS} {tt : TT}
theorem slots_of {vs : List V} {args : List En} (h : Paired (RE K Hb as) vs args) : (vs.map some).length = args.length ∧ ∀ (i : Nat) (e : En), args[i]? = some e → RS K Hb as (vs.map some)[i]? e := by
  refine ⟨by simp [paired_length h], fun i e he => ?_⟩
  obtain ⟨v, h1, h2⟩ := paired_get h he
  rw [List.getElem?_map, h1]
  exact RS.of h2
/-- a caller's objects as the callee sees them: cW its own, the others foreign -/
theorem call_in {args : List En} {cW R : List Cn} {vs : List V} (S : ST K F Hb H σ es (cW ++ R) as) (hv : Paired (RE K Hb as) vs args) (ca : ∀ e ∈ args, ClE cW.length e) (cc : ∀ c ∈ cW, ClC cW.length c) :
    ∃ F' as1, Gr as1 as ∧ as1.length = cW.length ∧ ST K F' Hb H (vs.map some) args cW as1 ∧ (∀ a, F' a = none → F a = none) ∧ (∀ a j c, F' a = none → as[cW.length + j]? = some a → R[j]? = some c → live c = true → False) ∧
      ∀ Hb' H' cW' σ' es', cW'.length = cW.length → Same Hb Hb' → ST K F' Hb' H' σ' es' cW' as1 → ST K F Hb' H' σ es (cW' ++ R) as := by
  have hlen : as.length = cW.length + R.length := by rw [S.len, List.length_append]
  let as1 := as.take cW.length
  let as2 := as.drop cW.length
  have h1 : as1.length = cW.length := by simp [as1]; omega
  have has : as = as1 ++ as2 := (List.take_append_drop _ _).symm
  let lv : List Addr := ((as2.zip R).filter fun p => live p.2).map (·.1)
  have mem_lv : ∀ a, a ∈ lv ↔ ∃ (j : Nat) (c : Cn), as[cW.length + j]? = some a ∧ R[j]? = some c ∧ live c = true := fun a => by
    constructor
    · intro h
      obtain ⟨p, hp, rfl⟩ := List.mem_map.mp h
      obtain ⟨hp1, hp2⟩ := List.mem_filter.mp hp
      obtain ⟨j, hj⟩ := List.mem_iff_getElem?.mp hp1
      rw [List.getElem?_zip_eq_some] at hj
      refine ⟨j, p.2, ?_, hj.2, hp2⟩
      rw [← hj.1]
      simp [as2]
    · rintro ⟨j, c, q1, q2, q3⟩
      refine List.mem_map.mpr ⟨(a, c), List.mem_filter.mpr ⟨List.mem_iff_getElem?.mpr ⟨j, ?_⟩, q3⟩, rfl⟩
      rw [List.getElem?_zip_eq_some]
      exact ⟨by simp [as2]; exact q1, q2⟩
  have getL : ∀ {i : Nat} {a : Addr}, as1[i]? = some a → as[i]? = some a ∧ i < cW.length := fun {i a} e => by
    have hi := (List.getElem?_eq_some_iff.mp e).1
    rw [has, List.getElem?_append_left hi]
    exact ⟨e, by omega⟩
  let F' : Hp := fun a => if a ∈ lv then H a else F a
  have F'in : ∀ a, a ∈ lv → F' a = H a := fun a h => if_pos h
  have F'out : ∀ a, a ∉ lv → F' a = F a := fun a h => if_neg h
  have lvOwn : ∀ a, a ∈ lv → Hb a = none ∧ F a = none ∧ ∃ o, H a = some o := fun a h => by
    obtain ⟨j, c, q1, q2, q3⟩ := (mem_lv a).mp h
    obtain ⟨k1, k2, k3⟩ := S.own _ a c q1 (by rw [List.getElem?_append_right (by omega)]; simpa using q2) q3
    exact ⟨k1, k2, k3.some q3⟩
  have notLv : ∀ {i : Nat} {a : Addr} {c : Cn}, as[i]? = some a → cW[i]? = some c → live c = true → a ∉ lv := fun {i a c} q1 q2 q3 h => by
    obtain ⟨j, c2, q4, q5, q6⟩ := (mem_lv a).mp h
    have hi : i < cW.length := (List.getElem?_eq_some_iff.mp q2).1
    have := S.inj i (cW.length + j) a c c2 q1 q4 (by rw [List.getElem?_append_left hi]; exact q2) (by rw [List.getElem?_append_right (by omega)]; simpa using q5) q3 q6
    omega
  have g : Gr as1 as := ⟨as2, has⟩
  have Fn : ∀ a, F' a = none → F a = none := fun a e => by
    by_cases h : a ∈ lv
    · obtain ⟨_, _, o, ho⟩ := lvOwn a h
      rw [F'in a h, ho] at e; cases e
    · rw [F'out a h] at e; exact e
  have Rn : ∀ a j c, F' a = none → as[cW.length + j]? = some a → R[j]? = some c → live c = true → False := fun a j c e q1 q2 q3 => by
    have h : a ∈ lv := (mem_lv a).mpr ⟨j, c, q1, q2, q3⟩
    obtain ⟨_, _, o, ho⟩ := lvOwn a h
    rw [F'in a h, ho] at e; cases e
  refine ⟨F', as1, g, h1, ⟨S.base, fun a o e => ?_, fun a o e => ?_, h1, fun i a c q1 q2 q3 => ?_, fun i j a c c2 q1 q2 q3 q4 q5 q6 => ?_, (slots_of hv).1, fun i e he => ?_⟩, Fn, Rn, ?_⟩
  · by_cases h : a ∈ lv
    · rw [F'in a h] at e; exact e
    · rw [F'out a h] at e; exact S.frm a o e
  · by_cases h : a ∈ lv
    · exact (lvOwn a h).1
    · rw [F'out a h] at e; exact S.dis a o e
  · obtain ⟨q1', hi⟩ := getL q1
    obtain ⟨k1, k2, k3⟩ := S.own i a c q1' (by rw [List.getElem?_append_left hi]; exact q2) q3
    refine ⟨k1, by rw [F'out a (notLv q1' q2 q3)]; exact k2, RC.cut g (by rw [h1]; exact cc c (List.mem_of_getElem? q2)) k3⟩
  · obtain ⟨q1', hi⟩ := getL q1
    obtain ⟨q2', hj⟩ := getL q2
    exact S.inj i j a c c2 q1' q2' (by rw [List.getElem?_append_left hi]; exact q3) (by rw [List.getElem?_append_left hj]; exact q4) q5 q6
  · have hv' : Paired (RE K Hb as1) vs args := paired_mem (fun _ b hb r => RE.cut g (by rw [h1]; exact ca b hb) r) hv
    exact (slots_of hv').2 i e he
  · intro Hb2 H2 cW2 σ2 es2 hl s2 S2
    have split : ∀ {i : Nat} {a : Addr} {c : Cn}, as[i]? = some a → (cW2 ++ R)[i]? = some c → (as1[i]? = some a ∧ cW2[i]? = some c) ∨ ∃ j, i = cW.length + j ∧ R[j]? = some c := fun {i a c} q1 q2 => by
      by_cases hi : i < cW.length
      · rw [has, List.getElem?_append_left (by omega)] at q1
        rw [List.getElem?_append_left (by omega)] at q2
        exact .inl ⟨q1, q2⟩
      · rw [List.getElem?_append_right (by omega), hl] at q2
        exact .inr ⟨i - cW.length, by omega, q2⟩
    have inLv : ∀ {j : Nat} {a : Addr} {c : Cn}, as[cW.length + j]? = some a → R[j]? = some c → live c = true → a ∈ lv := fun {j a c} q1 q2 q3 => (mem_lv a).mpr ⟨j, c, q1, q2, q3⟩
    have F'some : ∀ {a : Addr}, a ∈ lv → ∃ o, F' a = some o ∧ H a = some o ∧ H2 a = some o := fun {a} h => by
      obtain ⟨_, _, o, ho⟩ := lvOwn a h
      have e : F' a = some o := by rw [F'in a h]; exact ho
      exact ⟨o, e, ho, S2.frm a o e⟩
    refine ⟨S2.base, fun a o e => ?_, fun a o e => ?_, by rw [hlen, List.length_append, hl], fun i a c q1 q2 q3 => ?_, fun i j a c c2 q1 q2 q3 q4 q5 q6 => ?_, S.sl, fun i e he => RS.mono (Gr.refl _) s2 (S.slot i e he)⟩
    · have : a ∉ lv := fun h => by rw [(lvOwn a h).2.1] at e; cases e
      exact S2.frm a o (by rw [F'out a this]; exact e)
    · have : a ∉ lv := fun h => by rw [(lvOwn a h).2.1] at e; cases e
      exact S2.dis a o (by rw [F'out a this]; exact e)
    · rcases split q1 q2 with ⟨p1, p2⟩ | ⟨j, rfl, p2⟩
      · obtain ⟨k1, k2, k3⟩ := S2.own i a c p1 p2 q3
        have : a ∉ lv := fun h => by
          obtain ⟨o, e, _, _⟩ := F'some h
          rw [e] at k2; cases k2
        exact ⟨k1, by rw [← F'out a this]; exact k2, k3.mono g (Same.refl _) rfl⟩
      · have hin := inLv q1 p2 q3
        obtain ⟨o, e1, e2, e3⟩ := F'some hin
        obtain ⟨k1, k2, k3⟩ := S.own _ a c q1 (by rw [List.getElem?_append_right (by omega)]; simpa using p2) q3
        exact ⟨S2.dis a o e1, k2, k3.mono (Gr.refl _) s2 (by rw [e2, e3])⟩
    · rcases split q1 q3 with ⟨p1, p2⟩ | ⟨i', rfl, p2⟩
      · rcases split q2 q4 with ⟨p3, p4⟩ | ⟨j', rfl, p4⟩
        · exact S2.inj i j a c c2 p1 p3 p2 p4 q5 q6
        · obtain ⟨_, k2, _⟩ := S2.own i a c p1 p2 q5
          obtain ⟨o, e, _, _⟩ := F'some (inLv q2 p4 q6)
          rw [e] at k2; cases k2
      · rcases split q2 q4 with ⟨p3, p4⟩ | ⟨j', rfl, p4⟩
        · obtain ⟨_, k2, _⟩ := S2.own j a c2 p3 p4 q6
          obtain ⟨o, e, _, _⟩ := F'some (inLv q1 p2 q5)
          rw [e] at k2; cases k2
        · exact S.inj _ _ a c c2 q1 q2 (by rw [List.getElem?_append_right (by omega)]; simpa using p2) (by rw [List.getElem?_append_right (by omega)]; simpa using p4) q5 q6
theorem ev_call {sp : Sp} {E : XK} {tA : TA} {args : List En} {cW R cW' : List Cn} (ha : EA K tA es W args (cW ++ R)) (h : ∀ vs H Q, spV K args cW r cW' vs H Q → sp vs H Q E) (hl : cW'.length = cW.length)
    (ca : ∀ e ∈ args, ClE cW.length e) (cc : ∀ c ∈ cW, ClC cW.length c) : EV K (tCall sp [] E tA) es W r (cW' ++ R) := fun F Hb H σ as S Q k =>
  ha F Hb H σ as S _ fun vs Hb1 H1 as1 g1 s1 S1 r1 => by
    obtain ⟨F', as0, g0, h0, Sc, Fn, Rn, back⟩ := call_in S1 r1 ca cc
    show sp (vs ++ []) H1 Q E
    rw [List.append_nil]
    refine h vs H1 Q ⟨F', Hb1, as0, Sc, fun v Hb2 H2 s2 S2 r2 => ?_⟩
    exact k v Hb2 H2 as1 g1 (s1.trans s2) (back Hb2 H2 cW' [] [] hl s2 S2) (RE.mono g0 (Same.refl _) r2)
/-- a call that touches no owned object: args and result are data -/
theorem ev_callD {sp : Sp} {E : XK} {tA : TA} {l : List D} (ha : EA K tA es W (l.map .dat) W1) (h : ∀ vs H Q, spV K (l.map .dat) [] (.dat d) [] vs H Q → sp vs H Q E) : EV K (tCall sp [] E tA) es W (.dat d) W1 :=
  ev_call (cW := []) (R := W1) (cW' := []) ha h rfl (fun e he => by obtain ⟨d, _, rfl⟩ := List.mem_map.mp he; trivial) (fun c hc => absurd hc (by simp))
/-- an object that stands apart joins the owned ones -/
theorem ST.join {p : Addr} {c : Cn} (S : ST K F Hb H σ es W as) (k1 : Hb p = none) (k2 : F p = none) (kc : RC K Hb (as ++ [p]) H p c) (ap : ∀ (i : Nat) (d : Cn), as[i]? = some p → W[i]? = some d → live d = true → False) : ST K F Hb H σ es (W ++ [c]) (as ++ [p]) := by
  have g2 : Gr as (as ++ [p]) := ⟨[p], rfl⟩
  have hn := S.len
  have split : ∀ {i : Nat} {a : Addr} {d : Cn}, (as ++ [p])[i]? = some a → (W ++ [c])[i]? = some d → (as[i]? = some a ∧ W[i]? = some d) ∨ (a = p ∧ d = c ∧ i = as.length) := fun {i a d} h1 h2 => by
    by_cases hi : i < as.length
    · rw [List.getElem?_append_left hi] at h1
      rw [List.getElem?_append_left (by omega)] at h2
      exact .inl ⟨h1, h2⟩
    · have hlt : i < (as ++ [p]).length := (List.getElem?_eq_some_iff.mp h1).1
      have e : i = as.length := by simp at hlt; omega
      subst e
      rw [List.getElem?_append_right (Nat.le_refl _)] at h1
      rw [hn, List.getElem?_append_right (Nat.le_refl _)] at h2
      simp at h1 h2
      exact .inr ⟨h1.symm, h2.symm, rfl⟩
  refine ⟨S.base, S.frm, S.dis, by simp [hn], fun i a d h1 h2 h3 => ?_, fun i j2 a d d2 h1 h2 h3 h4 h5 h6 => ?_, S.sl, fun i e h => RS.mono g2 (Same.refl _) (S.slot i e h)⟩
  · rcases split h1 h2 with ⟨q1, q2⟩ | ⟨rfl, rfl, rfl⟩
    · obtain ⟨m1, m2, m3⟩ := S.own i a d q1 q2 h3
      exact ⟨m1, m2, m3.mono g2 (Same.refl _) rfl⟩
    · exact ⟨k1, k2, kc⟩
  · rcases split h1 h3 with ⟨q1, q2⟩ | ⟨rfl, rfl, rfl⟩
    · rcases split h2 h4 with ⟨q3, q4⟩ | ⟨rfl, rfl, rfl⟩
      · exact S.inj i j2 a d d2 q1 q3 q2 q4 h5 h6
      · exact (ap _ _ q1 q2 h5).elim
    · rcases split h2 h4 with ⟨q3, q4⟩ | ⟨_, rfl, rfl⟩
      · exact (ap _ _ q3 q4 h6).elim
      · rfl

/-! ### a def's body -/
theorem start_slots {N : List Str} {vs : List V} {args : List En} (S : ST K F Hb H (vs.map some) args W as) :
    ST K F Hb H (L2.start N vs) (args ++ List.replicate (N.length - args.length) .un) W as := by
  have hl : vs.length = args.length := by have := S.sl; simpa using this
  refine S.slots (by unfold L2.start; simp [hl]) fun i e he => ?_
  by_cases hi : i < args.length
  · rw [List.getElem?_append_left hi] at he
    unfold L2.start
    rw [List.getElem?_append_left (by simpa [hl] using hi)]
    exact S.slot i e he
  · rw [List.getElem?_append_right (by omega), List.getElem?_replicate] at he
    split at he
    · cases he; trivial
    · cases he
theorem ST.take {n : Nat} (S : ST K F Hb H σ es W as) (g : Gr as' as) (hn : as'.length = W'.length) (hW : W.take as'.length = W') (cc : ∀ c ∈ W', ClC as'.length c) : ST K F Hb H [] [] W' as' := by
  have get : ∀ {i : Nat} {a : Addr} {c : Cn}, as'[i]? = some a → W'[i]? = some c → as[i]? = some a ∧ W[i]? = some c := fun {i a c} h1 h2 => by
    refine ⟨g.get h1, ?_⟩
    have hi := (List.getElem?_eq_some_iff.mp h1).1
    rw [← hW, List.getElem?_take_of_lt hi] at h2
    exact h2
  refine ⟨S.base, S.frm, S.dis, hn, fun i a c h1 h2 h3 => ?_, fun i j a c c2 h1 h2 h3 h4 h5 h6 => S.inj i j a c c2 (get h1 h3).1 (get h2 h4).1 (get h1 h3).2 (get h2 h4).2 h5 h6, rfl, fun i e h => by simp at h⟩
  obtain ⟨q1, q2⟩ := get h1 h2
  obtain ⟨k1, k2, k3⟩ := S.own i a c q1 q2 h3
  exact ⟨k1, k2, RC.cut g (cc c (List.mem_of_getElem? h2)) k3⟩
theorem fn_go {N : List Str} {vs : List V} {args : List En} {Q : VK} (h : spV K args W r W' vs H Q) (cr : ClE W.length r) (cc : ∀ c ∈ W', ClC W.length c) (hl : W'.length = W.length)
    (hb : SD K t (args ++ List.replicate (N.length - args.length) .un) W ⟨fun _ w => r = .dat .non ∧ w.take W.length = W', fun e w => e = r ∧ w.take W.length = W', fun _ _ => False, fun _ _ => False⟩) :
    t { nx := fun _ H' => Q .non H', rt := Q } (L2.start N vs) H := by
  obtain ⟨F, Hb, as, S, k⟩ := h
  have hn : as.length = W'.length := by rw [S.len, hl]
  refine hb F Hb H _ as _ (start_slots S) ⟨?_, ?_, fun _ _ _ _ _ _ x => x.elim, fun _ _ _ _ _ _ x => x.elim⟩
  · rintro Hb' H' σ' as' es' w ⟨rfl, hw⟩ g s S'
    exact k .non Hb' H' s (S'.take (n := 0) g hn (by rw [S.len]; exact hw) (by rw [S.len]; exact cc)) .non
  · rintro v Hb' H' σ' as' es' w e ⟨rfl, hw⟩ g s S' rv
    exact k v Hb' H' s (S'.take (n := 0) g hn (by rw [S.len]; exact hw) (by rw [S.len]; exact cc)) (RE.cut g (by rw [S.len]; exact cr) rv)
/-- a def over data alone -/
theorem fn_goD {N : List Str} {vs : List V} {l : List D} {Q : VK} (h : spV K (l.map .dat) [] (.dat d) [] vs H Q)
    (hb : SD K t (l.map .dat ++ List.replicate (N.length - l.length) .un) [] ⟨fun _ _ => d = .non, fun e _ => e = .dat d, fun _ _ => False, fun _ _ => False⟩) :
    t { nx := fun _ H' => Q .non H', rt := Q } (L2.start N vs) H :=
  fn_go h trivial (fun c hc => absurd hc (by simp)) rfl (by
    rw [List.length_map]
    exact hb.imp (fun _ w x => ⟨by rw [x], by simp⟩) (fun _ w x => ⟨x, by simp⟩) (fun _ _ x => x) (fun _ _ x => x))
/-- what comes back is the owned object number k, its content c -/
theorem fn_goN {N : List Str} {vs : List V} {args : List En} {c : Cn} {Q : VK} (h : spN K args W W' c vs H Q) (cc : ∀ x ∈ W', ClC W.length x) (c0 : ClC W.length c) (hc : live c = true) (hl : W'.length = W.length)
    (hb : SD K t (args ++ List.replicate (N.length - args.length) .un) W ⟨fun _ _ => False, fun e w => ∃ k, e = .ptr k ∧ w[k]? = some c ∧ W.length ≤ k ∧ w.take W.length = W', fun _ _ => False, fun _ _ => False⟩) :
    t { nx := fun _ H' => Q .non H', rt := Q } (L2.start N vs) H := by
  obtain ⟨F, Hb, as, S, k⟩ := h
  have hn : as.length = W'.length := by rw [S.len, hl]
  refine hb F Hb H _ as _ (start_slots S) ⟨fun _ _ _ _ _ _ x => x.elim, ?_, fun _ _ _ _ _ _ x => x.elim, fun _ _ _ _ _ _ x => x.elim⟩
  rintro v Hb' H' σ' as' es' w e ⟨j, rfl, hj, hjW, hw⟩ g s S' ⟨p, hp, rfl⟩
  have S1 : ST K F Hb' H' [] [] W' as := S'.take (n := 0) g hn (by rw [S.len]; exact hw) (by rw [S.len]; exact cc)
  obtain ⟨k1, k2, k3⟩ := S'.own j p c hp hj hc
  have apart : ∀ {i : Nat} {d : Cn}, as[i]? = some p → W'[i]? = some d → live d = true → False := fun {i d} h1 h2 h3 => by
    have hi := (List.getElem?_eq_some_iff.mp h1).1
    have h2' : w[i]? = some d := by rw [← hw, List.getElem?_take_of_lt (by omega)] at h2; exact h2
    have := S'.inj i j p d c (g.get h1) hp h2' hj h3 hc
    rw [S.len] at hi; omega
  have kc : RC K Hb' as H' p c := RC.cut g (by rw [S.len]; exact c0) k3
  exact k p Hb' H' s (S1.join k1 k2 (kc.mono ⟨[p], rfl⟩ (Same.refl _) rfl) fun i d h1 h2 h3 => apart h1 h2 h3)
/-- a call whose result is a new owned object (the callee sees no owned object of ours) -/
theorem ev_callN {sp : Sp} {E : XK} {tA : TA} {l : List D} {c : Cn} (ha : EA K tA es W (l.map .dat) W1) (h : ∀ vs H Q, spN K (l.map .dat) [] [] c vs H Q → sp vs H Q E) (c0 : ClC 0 c) (hc : live c = true) : EV K (tCall sp [] E tA) es W (.ptr W1.length) (W1 ++ [c]) := fun F Hb H σ as S Q k =>
  ha F Hb H σ as S _ fun vs Hb1 H1 as1 g1 s1 S1 r1 => by
    obtain ⟨F', as0, g0, h0, Sc, Fn, Rn, back⟩ := call_in (cW := []) (R := W1) S1 r1 (fun e he => by obtain ⟨d, _, rfl⟩ := List.mem_map.mp he; trivial) (fun c hc => absurd hc (by simp))
    show sp (vs ++ []) H1 Q E
    rw [List.append_nil]
    refine h vs H1 Q ⟨F', Hb1, as0, Sc, fun p Hb2 H2 s2 S2 => ?_⟩
    have e0 : as0 = [] := List.length_eq_zero_iff.mp h0
    subst e0
    obtain ⟨k1, k2, k3⟩ := S2.own 0 p c (by simp) (by simp) hc
    have S3 : ST K F' Hb2 H2 [] [] [] [] := S2.take (n := 0) (W' := []) (as' := []) ⟨[p], by simp⟩ rfl (by simp) (fun c hc => absurd hc (by simp))
    have S4 := back Hb2 H2 [] [] [] rfl s2 S3
    have S4 : ST K F Hb2 H2 σ es W1 as1 := S4
    have g2 : Gr as1 (as1 ++ [p]) := ⟨[p], rfl⟩
    have kc : RC K Hb2 (as1 ++ [p]) H2 p c := by
      have z : RC K Hb2 [] H2 p c := RC.cut (as' := [] ++ [p]) ⟨[p], rfl⟩ c0 k3
      exact z.mono ⟨as1 ++ [p], by simp⟩ (Same.refl _) rfl
    have S5 := S4.join k1 (Fn p k2) kc fun i d h1 h2 h3 => Rn p i d k2 (by simpa using h1) h2 h3
    refine k (.ref p) Hb2 H2 (as1 ++ [p]) (g1.trans g2) (s1.trans s2) S5 ⟨p, ?_, rfl⟩
    rw [← S1.len, List.getElem?_append_right (Nat.le_refl _)]
    simp
end
end AS
/-! AS5: owned lists and dicts changed, slices, isinstance, in, sums. -/
namespace AS
open PySem L2
section
variable {K : PySem.W.Frag} {F Hb Hb' H H' : Hp} {σ : L2.St} {es es1 es2 : List En} {as as' : List Addr} {W W1 W2 W3 W' : List Cn} {e e1 e2 r : En} {ta tb te tc td ty to : TE} {d d1 d2 : D} {v : V} {P : Po} {t u : TS} {tt : TT}
theorem paired_append {α β : Type} {P : α → β → Prop} : ∀ {l l' : List α} {m m' : List β}, Paired P l m → Paired P l' m' → Paired P (l ++ l') (m ++ m')
  | _, _, _, _, .nil, h => h
  | _, _, _, _, .cons r t, h => .cons r (paired_append t h)
theorem paired_set {α β : Type} {P : α → β → Prop} {a : α} {b : β} (h : P a b) : ∀ {l : List α} {m : List β} (i : Nat), Paired P l m → Paired P (l.set i a) (m.set i b)
  | _, _, _, .nil => .nil
  | _, _, 0, .cons _ t => .cons h t
  | _, _, i + 1, .cons r t => .cons r (paired_set h i t)
theorem paired_dropLast {α β : Type} {P : α → β → Prop} : ∀ {l : List α} {m : List β}, Paired P l m → Paired P l.dropLast m.dropLast
  | _, _, .nil => .nil
  | _, _, .cons r .nil => .nil
  | _, _, .cons r (.cons q t) => .cons r (paired_dropLast (.cons q t))
theorem paired_eraseIdx {α β : Type} {P : α → β → Prop} : ∀ {l : List α} {m : List β} (i : Nat), Paired P l m → Paired P (l.eraseIdx i) (m.eraseIdx i)
  | _, _, _, .nil => .nil
  | _, _, 0, .cons _ t => t
  | _, _, i + 1, .cons r t => .cons r (paired_eraseIdx i t)
/-- the owned object number i, as it stands -/
theorem ST.at {i : Nat} {a : Addr} {l : List En} (S : ST K F Hb H σ es W as) (ha : as[i]? = some a) (hW : W[i]? = some (.lst l)) : ∃ xs, H a = some (.lst xs) ∧ Paired (RE K Hb as) xs l := (S.own i a _ ha hW rfl).2.2
/-- xs.append(e) -/
theorem ev_append {i : Nat} {l : List En} (ho : EV K to es W (.ptr i) W1) (he : EV K te es W1 e W2) (h : W2[i]? = some (.lst l)) (h1 : ∃ m, W1[i]? = some (.lst m)) (hz : l.length < 16777216) : EV K (tBM K "list" rAppend to (tCons te tNil)) es W (.dat .non) (W2.set i (.lst (l ++ [e]))) := fun F Hb H σ as S Q k =>
  ho F Hb H σ as S _ fun v Hb1 H1 as1 g1 s1 S1 r1 => by
    obtain ⟨a, ha, rfl⟩ := r1
    obtain ⟨m, hm⟩ := h1
    obtain ⟨xs0, hx0, _⟩ := S1.at ha hm
    refine ⟨.inl ⟨rfl, _, SqL.of hx0⟩, he F Hb1 H1 σ as1 S1 _ fun y Hb2 H2 as2 g2 s2 S2 r2 => ?_⟩
    obtain ⟨xs, hx, hp⟩ := S2.at (g2.get ha) h
    refine ⟨a, xs, y, rfl, rfl, hx, by rw [paired_length hp, sizeLine_eq]; exact hz, ?_⟩
    exact k .non _ _ _ (g1.trans g2) (s1.trans s2) (S2.write (g2.get ha) h rfl ⟨_, upd_same, paired_append hp (.cons r2 .nil)⟩) .non
/-- xs.pop() -/
theorem ev_pop {i : Nat} {l : List En} (ho : EV K to es W (.ptr i) W1) (h : W1[i]? = some (.lst l)) (hl : l[l.length - 1]? = some e) : EV K (tBM0 K "list" rPop to) es W e (W1.set i (.lst l.dropLast)) := fun F Hb H σ as S Q k =>
  ho F Hb H σ as S _ fun v Hb1 H1 as1 g1 s1 S1 r1 => by
    obtain ⟨a, ha, rfl⟩ := r1
    obtain ⟨xs, hx, hp⟩ := S1.at ha h
    obtain ⟨y, hy, ry⟩ := paired_get hp hl
    refine ⟨.inl ⟨rfl, _, SqL.of hx⟩, a, xs, y, rfl, rfl, hx, by rw [paired_length hp]; exact hy, ?_⟩
    exact k y _ _ _ g1 s1 (S1.write ha h rfl ⟨_, upd_same, paired_dropLast hp⟩) ry
/-- xs.pop(i) -/
theorem ev_popAt {i j : Nat} {z : Int} {l : List En} (ho : EV K to es W (.ptr i) W1) (he : EV K te es W1 (.dat (.int z)) W2) (h1 : ∃ m, W1[i]? = some (.lst m)) (h : W2[i]? = some (.lst l)) (hz : z = (j : Int)) (hj : l[j]? = some e) (hb : l.length < 1000000) :
    EV K (tBM K "list" rPopAt to (tCons te tNil)) es W e (W2.set i (.lst (l.eraseIdx j))) := fun F Hb H σ as S Q k =>
  ho F Hb H σ as S _ fun v Hb1 H1 as1 g1 s1 S1 r1 => by
    obtain ⟨a, ha, rfl⟩ := r1
    obtain ⟨m, hm⟩ := h1
    obtain ⟨xs0, hx0, _⟩ := S1.at ha hm
    refine ⟨.inl ⟨rfl, _, SqL.of hx0⟩, he F Hb1 H1 σ as1 S1 _ fun y Hb2 H2 as2 g2 s2 S2 r2 => ?_⟩
    cases r2
    subst hz
    obtain ⟨xs, hx, hp⟩ := S2.at (g2.get ha) h
    obtain ⟨y, hy, ry⟩ := paired_get hp hj
    have hlt : j < l.length := (List.getElem?_eq_some_iff.mp hj).1
    have hix : seqIndex? (j : Int) xs.length = some j := by
      have z := (ixN_seq (n := xs.length) (i := (j : Int)) (j := j) (by unfold ixN; rw [if_pos (by omega), if_pos (by rw [paired_length hp]; omega)]; simp)).1
      exact z
    refine ⟨a, xs, (j : Int), j, y, rfl, rfl, hx, by omega, by omega, hix, hy, ?_⟩
    exact k y _ _ _ (g1.trans g2) (s1.trans s2) (S2.write (g2.get ha) h rfl ⟨_, upd_same, paired_eraseIdx j hp⟩) ry
/-- a target o[i], o an owned list: told by its own judgement, as it writes -/
def EGw (K : PySem.W.Frag) (g : TG) (e : En) (es : List En) (W : List Cn) (es' : List En) (W' : List Cn) : Prop :=
  ∀ F Hb H σ as v, ST K F Hb H σ es W as → RE K Hb as v e → ∀ Q : L2.St → Hp → Prop, (∀ σ' Hb' H' as', Gr as as' → Same Hb Hb' → ST K F Hb' H' σ' es' W' as' → Q σ' H') → g v σ H Q
theorem EG.w {g : TG} {js : List Nat} (h : EG K g js e es W es1) : EGw K g e es W es1 W := fun F Hb H σ as v S r Q k => h F Hb H σ as v S r Q fun σ' _ S' => k σ' Hb H as (Gr.refl _) (Same.refl _) S'
theorem egw_name {j : Nat} : EGw K (gName j) e es W (es.set j e) W := EG.w eg_name
theorem egw_sub {i : Nat} {z : Int} {j : Nat} {l : List En} {W2 : List Cn} (ho : EV K to es W (.ptr i) W1) (hi : EV K te es W1 (.dat (.int z)) W2) (h : W2[i]? = some (.lst l)) (hj : ixN l.length z = some j) : EGw K (gSub to te rSetL) e es W es (W2.set i (.lst (l.set j e))) := fun F Hb H σ as v S r Q k =>
  ho F Hb H σ as S _ fun o Hb1 H1 as1 g1 s1 S1 r1 => hi F Hb1 H1 σ as1 S1 _ fun y Hb2 H2 as2 g2 s2 S2 r2 => by
    obtain ⟨a, ha, rfl⟩ := r1
    cases r2
    obtain ⟨xs, hx, hp⟩ := S2.at (g2.get ha) h
    refine ⟨a, xs, z, j, rfl, rfl, hx, by rw [paired_length hp]; exact hj, ?_⟩
    exact k σ Hb2 _ as2 (g1.trans g2) (s1.trans s2) (S2.write (g2.get ha) h rfl ⟨_, upd_same, paired_set (RE.mono (g1.trans g2) (s1.trans s2) r) j hp⟩)
theorem sd_asgW {g : TG} (h : EV K te es W e W1) (hg : EGw K g e es W1 es1 W2) : SDd K (tAsg te g) es W es1 W2 := fun F Hb H σ as D S k =>
  h F Hb H σ as S _ fun v Hb1 H1 as1 g1 s1 S1 r1 => hg F Hb1 H1 σ as1 v S1 r1 _ fun σ' Hb2 H2 as2 g2 s2 S2 => (k.nx.on (g1.trans g2) (s1.trans s2)).here S2 ⟨rfl, rfl⟩
/-- a, b = x, y with any targets: the tuple's items, one after the other -/
theorem sd_asgT2 {g1 g2 : TG} {ta : TA} {es2 : List En} {W2 : List Cn} {a b : En} (h : EA K ta es W [a, b] W1) (h1 : EGw K g1 a es W1 es1 W2) (h2 : EGw K g2 b es1 W2 es2 W3) : SDd K (tAsg (tTup ta) (gTup K 2 (gCons g1 (gCons g2 gNil)))) es W es2 W3 := fun F Hb H σ as D S k =>
  h F Hb H σ as S _ fun vs Hb1 H1 as1 g1' s1 S1 r1 => by
    cases r1 with
    | @cons x _ xs _ a1 t1 => cases t1 with
      | @cons y _ ys _ a2 t2 => cases t2 with
        | nil =>
          refine ⟨by show 2 ≤ sizeLine; decide, fun p hp => ?_⟩
          obtain ⟨S2, s2⟩ := S1.new (o := .tup [x, y]) hp
          refine ⟨p, [x, y], rfl, .inl (.inl upd_same), rfl, x, [y], rfl, ?_⟩
          refine h1 F _ _ σ as1 x S2 (RE.mono (Gr.refl _) s2 a1) _ fun σ3 Hb3 H3 as3 g3 s3 S3 => ⟨y, [], rfl, ?_⟩
          refine h2 F Hb3 H3 σ3 as3 y S3 (RE.mono g3 (s2.trans s3) a2) _ fun σ4 Hb4 H4 as4 g4 s4 S4 => ⟨rfl, ?_⟩
          exact (k.nx.on ((g1'.trans g3).trans g4) (((s1.trans s2).trans s3).trans s4)).here S4 ⟨rfl, rfl⟩

/-! ### dicts with written keys -/
def lookE (kvs : List (Key × En)) (k : Key) : Option En := (kvs.find? fun kv => decide (kv.1 = k)).map (·.2)
def putE (kvs : List (Key × En)) (k : Key) (v : En) : List (Key × En) :=
  if (kvs.any fun kv => decide (kv.1 = k)) = true then kvs.map (fun kv => if kv.1 = k then (kv.1, v) else kv) else kvs ++ [(k, v)]
abbrev KE2 (K : PySem.W.Frag) (Hb : Hp) (as : List Addr) : Key × V → Key × En → Prop := fun p q => p.1 = q.1 ∧ RE K Hb as p.2 q.2
theorem look_paired {k : Key} : ∀ {ys : List (Key × V)} {kvs : List (Key × En)}, Paired (KE2 K Hb as) ys kvs → lookE kvs k = some e → ∃ v, valV ys k = some v ∧ RE K Hb as v e
  | _, _, .nil, h => by simp [lookE] at h
  | _, _, @Paired.cons _ _ _ p q ys kvs r t, h => by
    by_cases hk : q.1 = k
    · have : lookE (q :: kvs) k = some q.2 := by simp [lookE, List.find?_cons, hk]
      rw [this] at h; cases h
      exact ⟨p.2, valV_pos (by rw [r.1, hk]), r.2⟩
    · have : lookE (q :: kvs) k = lookE kvs k := by simp [lookE, List.find?_cons, hk]
      rw [this] at h
      obtain ⟨v, h1, h2⟩ := look_paired t h
      exact ⟨v, by rw [valV_neg (by rw [r.1]; exact hk)]; exact h1, h2⟩
theorem any_paired {k : Key} : ∀ {ys : List (Key × V)} {kvs : List (Key × En)}, Paired (KE2 K Hb as) ys kvs → (ys.any fun kv => decide (kv.1 = k)) = (kvs.any fun kv => decide (kv.1 = k))
  | _, _, .nil => rfl
  | _, _, .cons r t => by rw [List.any_cons, List.any_cons, any_paired t, r.1]
theorem map_paired {k : Key} {w : V} (hw : RE K Hb as w e) : ∀ {ys : List (Key × V)} {kvs : List (Key × En)}, Paired (KE2 K Hb as) ys kvs → Paired (KE2 K Hb as) (ys.map fun kv => if kv.1 = k then (kv.1, w) else kv) (kvs.map fun kv => if kv.1 = k then (kv.1, e) else kv)
  | _, _, .nil => .nil
  | _, _, @Paired.cons _ _ _ p q ys kvs r t => by
    refine .cons ?_ (map_paired hw t)
    by_cases hk : q.1 = k
    · dsimp only
      rw [if_pos hk, if_pos (by rw [r.1]; exact hk)]; exact ⟨r.1, hw⟩
    · dsimp only
      rw [if_neg hk, if_neg (by rw [r.1]; exact hk)]; exact r
theorem put_paired {k : Key} {w : V} {ys : List (Key × V)} {kvs : List (Key × En)} (h : Paired (KE2 K Hb as) ys kvs) (hw : RE K Hb as w e) : Paired (KE2 K Hb as) (putK ys k w) (putE kvs k e) := by
  unfold putK putE
  rw [any_paired h]
  split
  · exact map_paired hw h
  · exact paired_append h (.cons ⟨rfl, hw⟩ .nil)
theorem ST.dct {i : Nat} {a : Addr} {l : List (Key × En)} (S : ST K F Hb H σ es W as) (ha : as[i]? = some a) (hW : W[i]? = some (.dct l)) : ∃ ys, H a = some (.dK ys) ∧ Paired (KE2 K Hb as) ys l := (S.own i a _ ha hW rfl).2.2
theorem ev_dget {i : Nat} {x : Str} {kvs : List (Key × En)} (hd : EV K td es W (.ptr i) W1) (hy : EV K ty es W1 (.dat (.str x)) W2) (h : W2[i]? = some (.dct kvs)) (hl : lookE kvs (Sum.inr x) = some e) : EV K (tDGet td ty) es W e W2 := fun F Hb H σ as S Q k =>
  hd F Hb H σ as S _ fun v Hb1 H1 as1 g1 s1 S1 r1 => hy F Hb1 H1 σ as1 S1 _ fun y Hb2 H2 as2 g2 s2 S2 r2 => by
    obtain ⟨a, ha, rfl⟩ := r1
    cases r2
    obtain ⟨ys, hx, hp⟩ := S2.dct (g2.get ha) h
    obtain ⟨w, hw, rw'⟩ := look_paired hp hl
    exact ⟨a, w, rfl, hw ▸ DGet.k (k := Sum.inr x) hx, (k.on (g1.trans g2) (s1.trans s2)).here S2 rw'⟩
theorem sd_dput {i : Nat} {x : Str} {kvs : List (Key × En)} {tv : TE} {W3 : List Cn} (hv : EV K tv es W e W1) (hd : EV K td es W1 (.ptr i) W2) (hy : EV K ty es W2 (.dat (.str x)) W3) (h : W3[i]? = some (.dct kvs)) (hz : kvs.length < 1000) :
    SDd K (sDPut td ty tv) es W es (W3.set i (.dct (putE kvs (Sum.inr x) e))) := fun F Hb H σ as D S k =>
  hv F Hb H σ as S _ fun v Hb1 H1 as1 g1 s1 S1 r1 => hd F Hb1 H1 σ as1 S1 _ fun o Hb2 H2 as2 g2 s2 S2 r2 => hy F Hb2 H2 σ as2 S2 _ fun y Hb3 H3 as3 g3 s3 S3 r3 => by
    obtain ⟨a, ha, rfl⟩ := r2
    cases r3
    obtain ⟨ys, hx, hp⟩ := S3.dct (g3.get ha) h
    refine ⟨a, _, rfl, DPut.k (k := Sum.inr x) hx (by rw [paired_length hp, sizeLine_eq]; omega), ?_⟩
    have hr := RE.mono (g2.trans g3) (s2.trans s3) r1
    exact (k.nx.on ((g1.trans g2).trans g3) ((s1.trans s2).trans s3)).here (S3.write (c' := .dct (putE kvs (Sum.inr x) e)) (g3.get ha) h rfl ⟨_, upd_same, put_paired hp hr⟩) ⟨rfl, rfl⟩
/-- the pairs of a display of a dict whose keys are texts, its values data -/
def EP (K : PySem.W.Frag) (trs : List (TE × TE)) (es : List En) (W : List Cn) (l : List (Str × D)) (W' : List Cn) : Prop :=
  ∀ F Hb H σ as, ST K F Hb H σ es W as → ∀ Q : List (V × V) → Hp → Prop,
    (∀ ps Hb' H' as', Gr as as' → Same Hb Hb' → ST K F Hb' H' σ es W' as' → Paired (fun (p : V × V) (q : Str × D) => p.1 = .str q.1 ∧ Dt K Hb' p.2 q.2) ps l → Q ps H') → tPairs trs σ H Q
theorem ep_nil : EP K [] es W [] W := fun F Hb H σ as S Q k => k [] Hb H as (Gr.refl _) (Same.refl _) S .nil
theorem ep_cons {x : Str} {trs : List (TE × TE)} {l : List (Str × D)} (hk : EV K ta es W (.dat (.str x)) W1) (hv : EV K tb es W1 (.dat d) W2) (hr : EP K trs es W2 l W3) : EP K ((ta, tb) :: trs) es W ((x, d) :: l) W3 := fun F Hb H σ as S Q k =>
  hk F Hb H σ as S _ fun v Hb1 H1 as1 g1 s1 S1 r1 => hv F Hb1 H1 σ as1 S1 _ fun u Hb2 H2 as2 g2 s2 S2 r2 => hr F Hb2 H2 σ as2 S2 _ fun ps Hb3 H3 as3 g3 s3 S3 r3 => by
    cases r1
    exact k _ Hb3 H3 as3 ((g1.trans g2).trans g3) ((s1.trans s2).trans s3) S3 (.cons ⟨rfl, Dt.mono s3 _ _ r2⟩ r3)
def mergeE (kvs more : List (Key × En)) : List (Key × En) := more.foldl (fun acc kv => putE acc kv.1 kv.2) kvs
theorem merge_paired : ∀ {more : List (Key × V)} {moreE : List (Key × En)} {ys : List (Key × V)} {kvs : List (Key × En)}, Paired (KE2 K Hb as) more moreE → Paired (KE2 K Hb as) ys kvs → Paired (KE2 K Hb as) (mergeK ys more) (mergeE kvs moreE)
  | _, _, _, _, .nil, h => h
  | _, _, _, _, @Paired.cons _ _ _ p q more moreE r t, h => by
    show Paired _ (mergeK (putK _ p.1 p.2) more) (mergeE (putE _ q.1 q.2) moreE)
    rw [r.1]
    exact merge_paired t (put_paired h r.2)
theorem ev_disp {trs : List (TE × TE)} {l : List (Str × D)} (h : EP K trs es W l W1) (hl : l.length ≤ 15) : EV K (tDisp trs) es W (.ptr W1.length) (W1 ++ [.dct (mergeE [] (l.map fun p => (Sum.inr p.1, .dat p.2)))]) := fun F Hb H σ as S Q k p hp =>
  h (upd F p (.dK [])) Hb (upd H p (.dK [])) σ as (S.outside hp) _ fun ps Hb1 H1 as1 g1 s1 S1 r1 => by
    have hps : ∀ {ps : List (V × V)} {l : List (Str × D)}, Paired (fun (p : V × V) (q : Str × D) => p.1 = .str q.1 ∧ Dt K Hb1 p.2 q.2) ps l →
        ∃ ks : List (Key × V), ps = ks.map (fun kv => (kV kv.1, kv.2)) ∧ ks.length = l.length ∧ ∀ as2, Paired (KE2 K Hb1 as2) ks (l.map fun p => (Sum.inr p.1, .dat p.2)) := by
      intro ps l r
      induction r with
      | nil => exact ⟨[], rfl, rfl, fun _ => .nil⟩
      | @cons a b x y r t ih =>
        obtain ⟨ks, e1, e2, e3⟩ := ih
        refine ⟨(Sum.inr b.1, a.2) :: ks, ?_, by simp [e2], fun as2 => .cons ⟨rfl, r.2⟩ (e3 as2)⟩
        rw [List.map_cons, ← e1]
        obtain ⟨a1, a2⟩ := a
        have q : a1 = V.str b.1 := r.1
        subst q
        rfl
    obtain ⟨ks, rfl, hkl, hkp⟩ := hps r1
    refine ⟨S1.frm p _ upd_same, ks, rfl, by omega, ?_⟩
    have hF : F p = none := S.frm.free hp
    have FF : ∀ a u, F a = some u → a ≠ p := fun a u e q => by subst q; rw [hF] at e; cases e
    have S2 : ST K (upd F p (.dK (mergeK [] ks))) Hb1 (upd H1 p (.dK (mergeK [] ks))) σ es W1 as1 := S1.outset
    have S3 : ST K F Hb1 (upd H1 p (.dK (mergeK [] ks))) σ es W1 as1 :=
      ⟨S2.base, fun b u e => S2.frm b u (by rw [upd_ne (FF b u e)]; exact e), fun b u e => S2.dis b u (by rw [upd_ne (FF b u e)]; exact e), S2.len, fun j b c q1 q2 q3 => by
        obtain ⟨k1, k2, k3⟩ := S2.own j b c q1 q2 q3
        have ne : b ≠ p := fun q => by subst q; rw [upd_same] at k2; cases k2
        rw [upd_ne ne] at k2
        exact ⟨k1, k2, k3⟩, S2.inj, S2.sl, S2.slot⟩
    have S4 := S3.join (p := p) (c := .dct (mergeE [] (l.map fun p => (Sum.inr p.1, .dat p.2)))) (S2.dis p _ upd_same) hF ⟨_, upd_same, merge_paired (hkp _) .nil⟩ fun j c q1 q2 q3 => by
      obtain ⟨_, k2, _⟩ := S2.own j p c q1 q2 q3
      rw [upd_same] at k2; cases k2
    refine k (.ref p) Hb1 _ (as1 ++ [p]) (g1.trans ⟨[p], rfl⟩) s1 S4 ⟨p, ?_, rfl⟩
    rw [← S1.len, List.getElem?_append_right (Nat.le_refl _)]
    simp

/-! ### slices -/
def cutG {α : Type} (xs : List α) (lo hi : Option Int) : List α := (xs.drop (HT.sIx xs.length 0 lo)).take (HT.sIx xs.length xs.length hi - HT.sIx xs.length 0 lo)
theorem DtA.drop {l : List D} : ∀ {vs : List V} {ds : List D} (n : Nat), DtA K H vs ds → DtA K H (vs.drop n) (ds.drop n)
  | _, _, 0, h => h
  | _, _, _ + 1, .nil => .nil
  | _, _, n + 1, .cons _ t => DtA.drop (l := l) n t
theorem DtA.take : ∀ {vs : List V} {ds : List D} (n : Nat), DtA K H vs ds → DtA K H (vs.take n) (ds.take n)
  | _, _, 0, _ => .nil
  | _, _, _ + 1, .nil => .nil
  | _, _, n + 1, .cons h t => .cons h (DtA.take n t)
theorem DtA.cut {vs : List V} {ds : List D} (lo hi : Option Int) (h : DtA K H vs ds) : DtA K H (cutV vs lo hi) (cutG ds lo hi) := by
  unfold cutV cutG
  rw [h.length]
  exact DtA.take _ (DtA.drop (l := []) _ h)
def EO (K : PySem.W.Frag) (to : TO) (es : List En) (W : List Cn) (o : Option Int) (W' : List Cn) : Prop :=
  ∀ F Hb H σ as, ST K F Hb H σ es W as → ∀ Q : Option Int → Hp → Prop, (∀ Hb' H' as', Gr as as' → Same Hb Hb' → ST K F Hb' H' σ es W' as' → Q o H') → to σ H Q
theorem eo_none : EO K tNoPart es W none W := fun F Hb H σ as S Q k => k Hb H as (Gr.refl _) (Same.refl _) S
theorem eo_some {i : Int} (h : EV K te es W (.dat (.int i)) W1) : EO K (tPart te) es W (some i) W1 := fun F Hb H σ as S Q k =>
  h F Hb H σ as S _ fun v Hb1 H1 as1 g1 s1 S1 r1 => by
    cases r1
    exact ⟨i, rfl, k Hb1 H1 as1 g1 s1 S1⟩
def rSlAny (K : PySem.W.Frag) : V → Option Int → Option Int → Hp → VK → Prop := fun x lo hi H Q => rSlL K x lo hi H Q ∨ rSlA K x lo hi H Q ∨ rSlS x lo hi H Q
theorem sl_any {X : Cx} : SlR X (rSlAny X.K) := SlR.or sl_list (SlR.or sl_tupA sl_str)
theorem ev_slT {l : List D} {tl th : TO} {lo hi : Option Int} (h : EV K te es W (.dat (.tup l)) W1) (h1 : EO K tl es W1 lo W2) (h2 : EO K th es W2 hi W3) : EV K (tSl (rSlAny K) te tl th) es W (.dat (.tup (cutG l lo hi))) W3 := fun F Hb H σ as S Q k =>
  h F Hb H σ as S _ fun v Hb1 H1 as1 g1 s1 S1 r1 => h1 F Hb1 H1 σ as1 S1 _ fun Hb2 H2 as2 g2 s2 S2 => h2 F Hb2 H2 σ as2 S2 _ fun Hb3 H3 as3 g3 s3 S3 => by
    cases r1 with
    | @tup a xs _ q1 q2 =>
      have q1' : SqT K H3 a xs := same_t S3.base (same_t (s2.trans s3) q1)
      have q2' : DtA K Hb3 xs l := DtA.mono (s2.trans s3) _ _ q2
      have kk := k.on ((g1.trans g2).trans g3) ((s1.trans s2).trans s3)
      refine .inr (.inl ⟨a, xs, rfl, q1', fun hw => ?_, fun _ p hp => kk.fresh S3 hp fun Hb4 s4 e4 => .tup (.inl (.inl e4)) (DtA.mono s4 _ _ (q2'.cut lo hi))⟩)
      have e : cutG l lo hi = l := by
        unfold cutG
        rw [← q2'.length, hw.1, hw.2, List.drop_zero, Nat.sub_zero, q2'.length, List.take_length]
      rw [e] at kk
      exact kk.here S3 (.tup (same_t (s2.trans s3) q1) q2')
theorem ev_slL {l : List D} {tl th : TO} {lo hi : Option Int} (h : EV K te es W e1 W1) (h1 : EO K tl es W1 lo W2) (h2 : EO K th es W2 hi W3) (hl : LstE W3 e1 = some (l.map .dat)) : EV K (tSl (rSlAny K) te tl th) es W (.dat (.lst (cutG l lo hi))) W3 := fun F Hb H σ as S Q k =>
  h F Hb H σ as S _ fun v Hb1 H1 as1 g1 s1 S1 r1 => h1 F Hb1 H1 σ as1 S1 _ fun Hb2 H2 as2 g2 s2 S2 => h2 F Hb2 H2 σ as2 S2 _ fun Hb3 H3 as3 g3 s3 S3 => by
    obtain ⟨a, xs, rfl, hq, hp⟩ := S3.lstE hl (RE.mono (g2.trans g3) (s2.trans s3) r1)
    exact .inl ⟨a, xs, rfl, hq, fun p hp' => (k.on ((g1.trans g2).trans g3) ((s1.trans s2).trans s3)).fresh S3 hp' fun Hb4 s4 e4 => .lst e4 (DtA.mono s4 _ _ ((DtA.of_dat (xs := xs) hp).cut lo hi))⟩
theorem ev_slS {z : Str} {tl th : TO} {lo hi : Option Int} (h : EV K te es W (.dat (.str z)) W1) (h1 : EO K tl es W1 lo W2) (h2 : EO K th es W2 hi W3) (hz : z.length ≤ 16777216) : EV K (tSl (rSlAny K) te tl th) es W (.dat (.str (cutS z lo hi))) W3 := fun F Hb H σ as S Q k =>
  h F Hb H σ as S _ fun v Hb1 H1 as1 g1 s1 S1 r1 => h1 F Hb1 H1 σ as1 S1 _ fun Hb2 H2 as2 g2 s2 S2 => h2 F Hb2 H2 σ as2 S2 _ fun Hb3 H3 as3 g3 s3 S3 => by
    cases r1
    exact .inr (.inr ⟨z, rfl, by rw [sizeLine_eq]; exact hz, (k.on ((g1.trans g2).trans g3) ((s1.trans s2).trans s3)).here S3 (.str _)⟩)

/-! ### isinstance of built-in classes -/
def D.tyN : D → Option String
  | .non => some "NoneType" | .bl _ => some "bool" | .int _ => some "int" | .str _ => some "str" | .tup _ => some "tuple" | .lst _ => some "list" | .rl _ => some "list" | _ => none
theorem Dt.tyX {v : V} {n : String} (h : Dt K H v d) (e : d.tyN = some n) : TyX K H v (.type n) := by
  cases h with
  | non => cases e; exact .base .non
  | bl b => cases e; exact .base (.bl b)
  | int i => cases e; exact .base (.int i)
  | str x => cases e; exact .base (.str x)
  | ty n => cases e
  | rf a => cases e
  | tup h1 h2 =>
    cases e
    rcases h1 with (h | ⟨o, h⟩) | ⟨o, its, n, h1, h2, _⟩
    · exact .base (.tup h)
    · exact .fTuple h
    · exact .kTuple h1 h2
  | lst h1 h2 => cases e; exact .base (.lst h1)
  | rl h1 h2 =>
    cases e
    rcases h1 with (h | ⟨o, h⟩) | ⟨o, its, n, h1, h2, _⟩
    · exact .base (.lst h)
    · exact .base (.frz h)
    · exact .kList h1 h2
  | obj h1 h2 h3 => cases e
theorem ev_isi {m n : String} {b : Bool} (ha : EV K ta es W (.dat d) W1) (ht : d.tyN = some m) (hk : kitB m n = some b) : EV K (tCB (rIsi K) (tCons ta (tCons (tC (.ty n)) tNil))) es W (.dat (.bl b)) W1 :=
  ev_cb2 ha (ev_ty n) fun F Hb H σ as v u S r1 r2 Q k => by
    cases r2
    exact ⟨v, .ty n, _, _, b, rfl, .ty n, Dt.tyX (Dt.mono S.base _ _ r1) ht, kit_ty hk, k.here S (.bl b)⟩
theorem ev_isi2 {m n n2 : String} {b : Bool} (ha : EV K ta es W (.dat d) W1) (ht : d.tyN = some m) (hk : PySem.W.kitAny K (.type m) [.type n, .type n2] = some b) : EV K (tCB (rIsiT K) (tCons ta (tCons (tTup (tCons (tC (.ty n)) (tCons (tC (.ty n2)) tNil))) tNil))) es W (.dat (.bl b)) W1 := fun F Hb H σ as S Q k =>
  ha F Hb H σ as S _ fun v Hb1 H1 as1 g1 s1 S1 r1 => ⟨by show 2 ≤ sizeLine; decide, fun p hp => by
    obtain ⟨S2, s2⟩ := S1.new (o := .tup [.ty n, .ty n2]) hp
    exact ⟨v, p, [.ty n, .ty n2], _, _, b, rfl, upd_same, .cons (.ty n) (.cons (.ty n2) .nil), Dt.tyX (Dt.mono (s2.trans S2.base) _ _ r1) ht, hk, (k.on g1 (s1.trans s2)).here S2 (.bl b)⟩⟩
theorem kit2 {m n n2 : String} {a b : Bool} (h1 : kitB m n = some a) (h2 : a = false → kitB m n2 = some b) (h3 : a = true → b = true) : PySem.W.kitAny K (.type m) [.type n, .type n2] = some b := by
  refine kitAny_cons (kit_ty h1) (fun ha => kitAny_cons (b := b) (kit_ty (h2 ha)) (fun hb => ?_) fun hb => ?_) h3
  · rw [hb]; rfl
  · exact hb

/-! ### in -/
theorem inV_int (a : Int) : ∀ ns : List Int, inV (.int a) (ns.map V.int) = decide (a ∈ ns)
  | [] => by simp [inV]
  | n :: r => by
    have ih := inV_int a r
    unfold inV at ih ⊢
    rw [List.map_cons, List.any_cons, ih]
    show ((n == a) || decide (a ∈ r)) = decide (a ∈ n :: r)
    by_cases h : n = a
    · subst h; simp
    · have h2 : ¬ a = n := fun e => h e.symm
      simp [h, h2]
theorem ev_inI {a : Int} {ns : List Int} (ha : EV K ta es W (.dat (.int a)) W1) (hb : EV K tb es W1 e2 W2) (hs : SeqE W2 e2 = some ((ns.map D.int).map .dat)) : EV K (tOp (rInA K) ta tb) es W (.dat (.bl (decide (a ∈ ns)))) W2 :=
  ev_op2 ha hb fun F Hb H σ as v u S r1 r2 Q k => by
    cases r1
    obtain ⟨p, xs, rfl, hq, hp⟩ := S.seqE hs r2
    have e : xs = ns.map V.int := DtA.ints_of ns (DtA.of_dat (xs := xs) hp)
    subst e
    refine .inl ⟨p, _, rfl, hq, rfl, by simp [flatV], ?_⟩
    show Q (.bl (inV (.int a) (ns.map V.int))) H
    rw [inV_int]
    exact k.here S (.bl _)
/-- sum(xs) of whole numbers -/
theorem ev_sum {ns : List Int} (ha : EV K ta es W e1 W1) (hs : LstE W1 e1 = some ((ns.map D.int).map .dat)) : EV K (tCB (rSum K) (tCons ta tNil)) es W (.dat (.int ns.sum)) W1 :=
  ev_cb1 ha fun F Hb H σ as v S r1 Q k => by
    obtain ⟨p, xs, rfl, hq, hp⟩ := S.lstE hs r1
    have e : xs = ns.map V.int := DtA.ints_of ns (DtA.of_dat (xs := xs) hp)
    subst e
    exact ⟨p, ns, rfl, hq, k.here S (.int _)⟩
/-- str(n), int(x) -/
theorem ev_str_int {a : Int} (ha : EV K ta es W (.dat (.int a)) W1) (hz : a.natAbs.log2 < 1920) : EV K (tCB (fun xs H Q => ∃ i, xs = [.int i] ∧ i.natAbs.log2 < 1920 ∧ Q (.str (toString i)) H) (tCons ta tNil)) es W (.dat (.str (toString a))) W1 :=
  ev_cb1 ha fun F Hb H σ as v S r1 Q k => by
    cases r1
    exact ⟨a, rfl, hz, k.here S (.str _)⟩
def rIntA : List V → Hp → VK → Prop := fun xs H Q => ((∃ i, xs = [.int i] ∧ Q (.int i) H) ∨ ∃ k, xs = [.bl k] ∧ Q (.int (if k then 1 else 0)) H) ∨ ∃ a n, xs = [.str a] ∧ PySem.intText? a = some n ∧ a.length ≤ 640 ∧ Q (.int n) H
theorem call_intA {X : Cx} : CallR X (.type "int") rIntA := CallR.or call_int1 call_int_str
theorem ev_intA {a : Int} (ha : EV K ta es W (.dat (.int a)) W1) : EV K (tCB rIntA (tCons ta tNil)) es W (.dat (.int a)) W1 :=
  ev_cb1 ha fun F Hb H σ as v S r1 Q k => by
    cases r1
    exact .inl (.inl ⟨a, rfl, k.here S (.int _)⟩)
theorem ev_intAB {a : Bool} (ha : EV K ta es W (.dat (.bl a)) W1) : EV K (tCB rIntA (tCons ta tNil)) es W (.dat (.int (if a then 1 else 0))) W1 :=
  ev_cb1 ha fun F Hb H σ as v S r1 Q k => by
    cases r1
    exact .inl (.inr ⟨a, rfl, k.here S (.int _)⟩)
theorem ev_intAS {z : Str} {n : Int} (ha : EV K ta es W (.dat (.str z)) W1) (h : PySem.intText? z = some n) (hz : z.length ≤ 640) : EV K (tCB rIntA (tCons ta tNil)) es W (.dat (.int n)) W1 :=
  ev_cb1 ha fun F Hb H σ as v S r1 Q k => by
    cases r1
    exact .inr ⟨z, n, rfl, h, hz, k.here S (.int _)⟩
/-- sorted(xs) of whole numbers: told by a function that sorts -/
theorem ev_sorted {ns ms : List Int} (ha : EV K ta es W e1 W1) (hs : LstE W1 e1 = some ((ns.map D.int).map .dat)) (hn : ns.length < 64) (hm : ∀ ns' : List Int, ns'.Perm ns → ns'.Pairwise (· ≤ ·) → ns' = ms) : EV K (tCB (rSorted K) (tCons ta tNil)) es W (.dat (.lst (ms.map D.int))) W1 :=
  ev_cb1 ha fun F Hb H σ as v S r1 Q k => by
    obtain ⟨p, xs, rfl, hq, hp⟩ := S.lstE hs r1
    have e : xs = ns.map V.int := DtA.ints_of ns (DtA.of_dat (xs := xs) hp)
    subst e
    refine ⟨p, ns, rfl, hq, hn, fun ns' q h1 h2 hq' => ?_⟩
    have := hm ns' h1 h2
    subst this
    exact k.fresh S hq' fun Hb2 s2 e2 => .lst e2 (DtA.ints _)
/-- chains of two comparisons of whole numbers -/
theorem ev_chain {f g : Int → Int → Bool} {tcc : TE} {a b c : Int} (ha : EV K ta es W (.dat (.int a)) W) (hb : EV K tb es W (.dat (.int b)) W) (hc : f a b = true → EV K tcc es W (.dat (.int c)) W) :
    EV K (tChain (rI0 fun i j => .bl (f i j)) (rI0 fun i j => .bl (g i j)) ta tb tcc) es W (.dat (.bl (f a b && g b c))) W := fun F Hb H σ as S Q k =>
  ha F Hb H σ as S _ fun v Hb1 H1 as1 g1 s1 S1 r1 => hb F Hb1 H1 σ as1 S1 _ fun u Hb2 H2 as2 g2 s2 S2 r2 => by
    cases r1; cases r2
    refine ⟨a, b, rfl, rfl, f a b, rfl, ?_⟩
    cases q : f a b with
    | true =>
      rw [q] at k
      show tcc σ H2 _
      refine hc q F Hb2 H2 σ as2 S2 _ fun w Hb3 H3 as3 g3 s3 S3 r3 => ?_
      cases r3
      exact ⟨b, c, rfl, rfl, (k.on ((g1.trans g2).trans g3) ((s1.trans s2).trans s3)).here S3 (.bl _)⟩
    | false =>
      rw [q] at k
      show Q (.bl false) H2
      exact (k.on (g1.trans g2) (s1.trans s2)).here S2 (.bl false)
end
end AS
/-! AS6: packed calls, operators of several kinds. -/
namespace AS
open PySem PySem.Spec PyProof.Rows L2
/-- a def of the top that stands behind its name and keeps its promise -/
def Cal (P : Program) (w : World) (K : PySem.W.Frag) (mg : Str → Option Value) (base : Heap) (CX : CXT) (k : Nat) (x : Str) (ps : List Str) (sp : Sp) : Prop :=
  ∃ (f : Addr) (fd : FuncData), FnOk P w K mg base CX k f fd ps sp ∧ mg x = some (.ref f) ∧ PySem.W.keepIn K (.ref f) = true ∧ Binds K fd ps []
/-- where it stands -/
def TopF (K : PySem.W.Frag) (mg : Str → Option Value) (x : Str) (st : Stmt) : Prop := ∃ (f : Addr) (fd : FuncData), Fun K x x st f fd ∧ mg x = some (.ref f)
theorem TopF.cal {P : Program} {w : World} {K : PySem.W.Frag} {mg : Str → Option Value} {base : Heap} {x : Str} {st : Stmt} {N ps : List Str} {k : Nat} {sp : Sp} (T : TopF K mg x st) (S : FnScope N ps (defScope st)) (len : ∀ vs H Q E, sp vs H Q E → vs.length = ps.length)
    (hb : ∀ (kV doc pm : Value) (an : Option Addr) (cdv ct : Value) (us : List Value), us.length = ps.length → bindArgs (PySem.W.fnOf x x (defArgs st) (defBody st) (defScope st) .none kV doc pm an cdv ct) ⟨us, []⟩ = pure (ps.zip us))
    (hbody : ∀ (f : Addr) (cdv : Value) (A : Around) (outer : List Env) (s : Shared) (H : Hp) (vs : List V) (Q : VK) (E : XK), Room k (A.deeper (envOfC x (defScope st) s.heap.objs.size f cdv)) → sp vs H Q E →
      ∃ t, PSs (cxOf CX0 P w K mg base N x (defScope st) f cdv A outer s H E).nox (defBody st) t ∧ t { nx := fun _ H' => Q .non H', rt := Q } (L2.start N vs) H) : Cal P w K mg base CX0 (k + 1) x ps sp := by
  obtain ⟨f, fd, F, hm⟩ := T
  exact ⟨f, fd, F.ok S len (fun cdv A outer s H vs Q E => hbody f cdv A outer s H vs Q E), hm, F.kp, F.binds hb⟩
section
variable {X : Cx} {x : Str} {p pos : Pos} {e : Expr} {es : List Expr} {t : TA} {k : Nat} {ps : List Str} {sp : Sp}
theorem pe_cal (C : Cal X.prog X.w X.K X.mg X.base CX0 k x ps sp) (hr : Room k X.A) (hg : Gl X x) (ha : PA X (e :: es) t) (hdb : (x == ("__debug__" : Str)) = false := by decide) (he : starEach (e :: es) X.env = (false, eval e X.env) :: starEach es X.env := by rfl) (hpl : (backTo pos (starEach es X.env)).any (·.1) = false := by rfl) :
    PE X (.Call (.Name x p) (e :: es) [] pos) (tCall sp [] E0 t) := by
  obtain ⟨f, fd, F, hm, hk, hb⟩ := C
  exact pe_call F hr hg hm hk hb .nil pass0 ha hdb he hpl
theorem op_addX : OpR X (binaryOp .Add) (fun x y H Q => rI0 (fun i j => .int (i + j)) x y H Q ∨ rCat x y H Q ∨ rCatA X.K x y H Q ∨ ∃ i j, x = .str i ∧ y = .str j ∧ i.length + j.length ≤ sizeLine ∧ Q (.str (i ++ j)) H) :=
  OpR.or op_add (OpR.or op_cat (OpR.or op_catA op_add_str))
theorem op_mulX : OpR X (binaryOp .Mult) (fun x y H Q => rI IntMulOk (fun i j => .int (i * j)) x y H Q ∨ rRep x y H Q ∨ rRepT X.K x y H Q) := OpR.or op_mulA (OpR.or op_rep op_repT)
theorem u65 {k : Nat} {A : Around} (r : Room k A) : A.units + 65 < cLine := by have := r.un; omega
def rNotInA (K : PySem.W.Frag) : R2 := fun x y H Q => rIn K true x y H Q ∨ rNotInD K x y H Q
theorem op_inA (hu : X.A.units + 65 < cLine) : OpR X (compareOp .In) (rInA X.K) := OpR.or op_in_seq (op_inD hu)
theorem op_notInA (hu : X.A.units + 65 < cLine) : OpR X (compareOp .NotIn) (rNotInA X.K) := OpR.or op_notIn_seq (op_notInD hu)
end
section
variable {K : PySem.W.Frag} {F Hb Hb' H H' : Hp} {σ : L2.St} {es es1 es2 : List En} {as as' : List Addr} {W W1 W2 W3 W' : List Cn} {e e1 e2 r : En} {ta tb te tc td ty to : TE} {d d1 d2 : D} {v : V}
abbrev rAddX (K : PySem.W.Frag) : R2 := fun x y H Q => rI0 (fun i j => .int (i + j)) x y H Q ∨ rCat x y H Q ∨ rCatA K x y H Q ∨ ∃ i j, x = .str i ∧ y = .str j ∧ i.length + j.length ≤ sizeLine ∧ Q (.str (i ++ j)) H
abbrev rMulX (K : PySem.W.Frag) : R2 := fun x y H Q => rI IntMulOk (fun i j => .int (i * j)) x y H Q ∨ rRep x y H Q ∨ rRepT K x y H Q
theorem ev_addI {a b : Int} (ha : EV K ta es W (.dat (.int a)) W1) (hb : EV K tb es W1 (.dat (.int b)) W2) : EV K (tOp (rAddX K) ta tb) es W (.dat (.int (a + b))) W2 :=
  ev_op2 ha hb fun F Hb H σ as v u S r1 r2 Q k => by
    cases r1; cases r2
    exact .inl ⟨a, b, rfl, rfl, k.here S (.int _)⟩
theorem ev_mulI {a b : Int} (ha : EV K ta es W (.dat (.int a)) W1) (hb : EV K tb es W1 (.dat (.int b)) W2) (hc : IntMulOk a b) : EV K (tOp (rMulX K) ta tb) es W (.dat (.int (a * b))) W2 :=
  ev_op2 ha hb fun F Hb H σ as v u S r1 r2 Q k => by
    cases r1; cases r2
    exact .inl ⟨a, b, rfl, rfl, hc, k.here S (.int _)⟩
/-- a list as an object that the heap holds: data, or owned -/
def LstH (W : List Cn) : En → Option (List En)
  | .dat (.lst l) => some (l.map .dat)
  | .ptr i => match W[i]? with
    | some (.lst l) => some l
    | _ => none
  | _ => none
theorem ST.lstH {l : List En} (S : ST K F Hb H σ es W as) (h : LstH W e = some l) (r : RE K Hb as v e) : ∃ a xs, v = .ref a ∧ H a = some (.lst xs) ∧ Paired (RE K Hb as) xs l := by
  cases e with
  | un => cases h
  | dat d =>
    cases d with
    | lst ds =>
      cases h
      cases r with
      | lst h1 h2 => exact ⟨_, _, rfl, S.base _ _ h1, DtA.to_dat h2⟩
    | _ => cases h
  | ptr i =>
    obtain ⟨a, h1, rfl⟩ := r
    unfold LstH at h
    cases q : W[i]? with
    | none => simp only [q] at h; cases h
    | some c =>
      simp only [q] at h
      cases c with
      | lst m =>
        cases h
        obtain ⟨_, _, xs, k3, k4⟩ := S.own i a _ h1 q rfl
        exact ⟨a, xs, rfl, k3, k4⟩
      | _ => cases h
/-- xs + ys of lists: a new list of data -/
theorem ev_cat {l m : List D} (ha : EV K ta es W e1 W1) (hb : EV K tb es W1 e2 W2) (h1 : LstH W2 e1 = some (l.map .dat)) (h2 : LstH W2 e2 = some (m.map .dat)) (hl : l.length + m.length ≤ 16777216) : EV K (tOp (rAddX K) ta tb) es W (.dat (.lst (l ++ m))) W2 :=
  ev_op2 ha hb fun F Hb H σ as v u S r1 r2 Q k => by
    obtain ⟨a, xs, rfl, ha', pa⟩ := S.lstH h1 r1
    obtain ⟨b, ys, rfl, hb', pb⟩ := S.lstH h2 r2
    have e1 := paired_length pa
    have e2 := paired_length pb
    refine .inr (.inl ⟨a, b, xs, ys, rfl, rfl, ha', hb', by rw [sizeLine_eq, e1, e2]; simpa using hl, fun p hp => k.fresh S hp fun Hb2 s2 e4 => .lst e4 (DtA.mono s2 _ _ ((DtA.of_dat (xs := xs) pa).append (DtA.of_dat (xs := ys) pb)))⟩)
/-- .. that will be changed -/
theorem ev_catO {l m : List En} (ha : EV K ta es W e1 W1) (hb : EV K tb es W1 e2 W2) (h1 : LstH W2 e1 = some l) (h2 : LstH W2 e2 = some m) (hl : l.length + m.length ≤ 16777216) : EV K (tOp (rAddX K) ta tb) es W (.ptr W2.length) (W2 ++ [.lst (l ++ m)]) :=
  ev_op2 ha hb fun F Hb H σ as v u S r1 r2 Q k => by
    obtain ⟨a, xs, rfl, ha', pa⟩ := S.lstH h1 r1
    obtain ⟨b, ys, rfl, hb', pb⟩ := S.lstH h2 r2
    have e1 := paired_length pa
    have e2 := paired_length pb
    refine .inr (.inl ⟨a, b, xs, ys, rfl, rfl, ha', hb', by rw [sizeLine_eq, e1, e2]; exact hl, fun p hp => ?_⟩)
    have g2 : Gr as (as ++ [p]) := ⟨[p], rfl⟩
    refine k _ _ _ _ g2 (Same.refl _) (S.newOwn hp ⟨_, upd_same, paired_mono (fun _ _ => RE.mono g2 (Same.refl _)) (paired_append pa pb)⟩) ⟨p, ?_, rfl⟩
    rw [← S.len, List.getElem?_append_right (Nat.le_refl _)]
    simp
/-! ### truth -/
abbrev tTru (K : PySem.W.Frag) (ta : TE) : TT := fun σ H Q => ta σ H fun x H' => ∃ k, TruV K x H' k ∧ Q k H'
theorem et_truB {b : Bool} (h : EV K ta es W (.dat (.bl b)) W1) : ET K (tTru K ta) es W b W1 := fun F Hb H σ as S Q k => h F Hb H σ as S _ fun v Hb1 H1 as1 g1 s1 S1 r1 => by
  cases r1
  exact ⟨b, rfl, k Hb1 H1 as1 g1 s1 S1⟩
theorem et_truI {i : Int} (h : EV K ta es W (.dat (.int i)) W1) : ET K (tTru K ta) es W (i != 0) W1 := fun F Hb H σ as S Q k => h F Hb H σ as S _ fun v Hb1 H1 as1 g1 s1 S1 r1 => by
  cases r1
  exact ⟨_, rfl, k Hb1 H1 as1 g1 s1 S1⟩
end
end AS
/-! AS7: kinds of built-in values; small facts of whole numbers. -/
namespace AS
open PySem PySem.Spec PyProof.Rows L2
def kbT : String → String → Bool
  | "bool", "int" => true
  | a, b => a == b
theorem kb_int : ∀ d : D, ∀ m, d.tyN = some m → kitB m "int" = some (kbT m "int") := by
  intro d m h; cases d <;> cases h <;> decide +kernel
theorem kb_bool : ∀ d : D, ∀ m, d.tyN = some m → kitB m "bool" = some (kbT m "bool") := by
  intro d m h; cases d <;> cases h <;> decide +kernel
theorem kb_tuple : ∀ d : D, ∀ m, d.tyN = some m → kitB m "tuple" = some (kbT m "tuple") := by
  intro d m h; cases d <;> cases h <;> decide +kernel
theorem kb_list : ∀ d : D, ∀ m, d.tyN = some m → kitB m "list" = some (kbT m "list") := by
  intro d m h; cases d <;> cases h <;> decide +kernel
theorem kb_str : ∀ d : D, ∀ m, d.tyN = some m → kitB m "str" = some (kbT m "str") := by
  intro d m h; cases d <;> cases h <;> decide +kernel
def D.whole : D → Bool
  | .int _ => true
  | _ => false
def D.isTup : D → Bool
  | .tup _ => true
  | _ => false
def D.isLst : D → Bool
  | .lst _ => true
  | .rl _ => true
  | _ => false
/-- a value whose kind isinstance knows -/
def D.kn (d : D) : Bool := d.tyN.isSome
theorem kbT_tuple {d : D} {m : String} (h : d.tyN = some m) : kbT m "tuple" = d.isTup := by cases d <;> cases h <;> rfl
theorem kbT_list {d : D} {m : String} (h : d.tyN = some m) : kbT m "list" = d.isLst := by cases d <;> cases h <;> rfl
theorem kbT_whole {d : D} {m : String} (h : d.tyN = some m) : (kbT m "int" && !(kbT m "bool")) = d.whole := by cases d <;> cases h <;> rfl
theorem D.kn_of {d : D} (h : d.kn = true) : ∃ m, d.tyN = some m := Option.isSome_iff_exists.mp h
section
variable {K : PySem.W.Frag} {es : List En} {W W1 : List Cn} {ta : TE} {d : D}
theorem ev_isTuple (ha : EV K ta es W (.dat d) W1) (h : d.kn = true) : EV K (tCB (rIsi K) (tCons ta (tCons (tC (.ty "tuple")) tNil))) es W (.dat (.bl d.isTup)) W1 := by
  obtain ⟨m, hm⟩ := D.kn_of h
  exact ev_is (ev_isi ha hm (kb_tuple d m hm)) (by rw [kbT_tuple hm])
theorem ev_isInt (ha : EV K ta es W (.dat d) W1) (h : d.kn = true) : ∃ b, (b = true ↔ (d.whole = true ∨ ∃ k, d = .bl k)) ∧ EV K (tCB (rIsi K) (tCons ta (tCons (tC (.ty "int")) tNil))) es W (.dat (.bl b)) W1 := by
  obtain ⟨m, hm⟩ := D.kn_of h
  refine ⟨_, ?_, ev_isi ha hm (kb_int d m hm)⟩
  cases d <;> cases hm <;> simp [kbT, D.whole]
end
/-- a ratio as it may be passed -/
def D.ratio : D → Bool
  | .int _ => true
  | .tup [.int _, .int b] => decide (0 < b)
  | _ => false
theorem ratio_len : ∀ l : List D, l.length ≠ 2 → (D.tup l).ratio = false
  | [], _ => rfl
  | [x], _ => by cases x <;> rfl
  | [_, _], h => absurd rfl h
  | x :: y :: z :: r, _ => by cases x <;> first | rfl | (cases y <;> rfl)
def lowS (t b : Int) : Int := if b < 0 then -(Int.gcd t b : Int) else (Int.gcd t b : Int)
def Lw (t b : Int) : Int × Int := (t.fdiv (lowS t b), b.fdiv (lowS t b))
theorem lowS_ne {t b : Int} (h : b ≠ 0) : lowS t b ≠ 0 := by
  have : Int.gcd t b ≠ 0 := fun e => h (Int.gcd_eq_zero_iff.mp e).2
  unfold lowS; split <;> omega
theorem lowS_abs (t b : Int) : (lowS t b).natAbs = Int.gcd t b := by unfold lowS; split <;> omega
theorem log2_mono {a b : Nat} (h : a ≤ b) : a.log2 ≤ b.log2 := by
  by_cases ha : a = 0
  · subst ha; simp
  · have hb : b ≠ 0 := by omega
    exact (Nat.le_log2 hb).mpr (Nat.le_trans (Nat.log2_self_le ha) h)
theorem lowS_div {t b : Int} (h : b ≠ 0) (hb : b.natAbs.log2 < 9000) : CDivA t (lowS t b) ∧ CDivA b (lowS t b) := by
  have e : (lowS t b).natAbs ≤ b.natAbs := by
    rw [lowS_abs]
    have := Int.gcd_dvd_right t b
    have h2 : ((Int.gcd t b : Int)).natAbs ≤ b.natAbs := Nat.le_of_dvd (by omega) (Int.natAbs_dvd_natAbs.mpr this)
    simpa using h2
  have := log2_mono e
  exact ⟨⟨lowS_ne h, by omega⟩, lowS_ne h, by omega⟩
/-- above 0: plain division by the greatest common divisor -/
theorem Lw_pos {t b : Int} (h : 0 < b) : Lw t b = (t / (Int.gcd t b : Int), b / (Int.gcd t b : Int)) := by
  unfold Lw lowS
  rw [if_neg (by omega), Int.fdiv_eq_ediv_of_nonneg _ (by omega), Int.fdiv_eq_ediv_of_nonneg _ (by omega)]
def toldQ : D → Int × Int
  | .int i => (i, 1)
  | .tup [.int a, .int b] => Lw a b
  | _ => (0, 1)
abbrev dq (q : Int × Int) : D := .tup [.int q.1, .int q.2]
end AS
/-! AS8: the laws' pen: the source of all draws, as a plain record. -/
namespace AS
open PySem PySem.Spec PyProof.Rows L2
structure Pen where
  cells : List Int
  pos : Nat
  digits : Int
  count : Int
  fold : Int
def Pen.kvs (p : Pen) : List (Key × En) := [(Sum.inr "cells", .dat (.lst (p.cells.map .int))), (Sum.inr "at", .dat (.int p.pos)), (Sum.inr "digits", .dat (.int p.digits)), (Sum.inr "count", .dat (.int p.count)), (Sum.inr "fold", .dat (.int p.fold))]
def Pen.cn (p : Pen) : Cn := .dct p.kvs
theorem Pen.cl (n : Nat) (p : Pen) : ClC n p.cn := by
  intro q hq
  unfold Pen.kvs at hq
  simp at hq
  rcases hq with rfl | rfl | rfl | rfl | rfl <;> trivial
theorem ks {a b : Str} (h : ¬ a = b) : ¬ (Sum.inr a : Key) = Sum.inr b := fun e => h (Sum.inr.inj e)
def kNe (a b : Str) : Bool := !decide ((Sum.inr a : Key) = Sum.inr b)
theorem look_cells (p : Pen) : lookE p.kvs (Sum.inr "cells") = some (.dat (.lst (p.cells.map .int))) := by
  simp [lookE, Pen.kvs, List.find?_cons]
theorem look_at (p : Pen) : lookE p.kvs (Sum.inr "at") = some (.dat (.int p.pos)) := by
  have h1 : ¬ ("cells" : Str) = "at" := by decide +kernel
  simp [lookE, Pen.kvs, List.find?_cons, h1]
theorem look_digits (p : Pen) : lookE p.kvs (Sum.inr "digits") = some (.dat (.int p.digits)) := by
  have h1 : ¬ ("cells" : Str) = "digits" := by decide +kernel
  have h2 : ¬ ("at" : Str) = "digits" := by decide +kernel
  simp [lookE, Pen.kvs, List.find?_cons, h1, h2]
theorem look_count (p : Pen) : lookE p.kvs (Sum.inr "count") = some (.dat (.int p.count)) := by
  have h1 : ¬ ("cells" : Str) = "count" := by decide +kernel
  have h2 : ¬ ("at" : Str) = "count" := by decide +kernel
  have h3 : ¬ ("digits" : Str) = "count" := by decide +kernel
  simp [lookE, Pen.kvs, List.find?_cons, h1, h2, h3]
theorem look_fold (p : Pen) : lookE p.kvs (Sum.inr "fold") = some (.dat (.int p.fold)) := by
  have h1 : ¬ ("cells" : Str) = "fold" := by decide +kernel
  have h2 : ¬ ("at" : Str) = "fold" := by decide +kernel
  have h3 : ¬ ("digits" : Str) = "fold" := by decide +kernel
  have h4 : ¬ ("count" : Str) = "fold" := by decide +kernel
  simp [lookE, Pen.kvs, List.find?_cons, h1, h2, h3, h4]
theorem put_at (p : Pen) (z : Nat) : putE p.kvs (Sum.inr "at") (.dat (.int z)) = { p with pos := z }.kvs := by
  have h1 : ¬ ("cells" : Str) = "at" := by decide +kernel
  have h2 : ¬ ("digits" : Str) = "at" := by decide +kernel
  have h3 : ¬ ("count" : Str) = "at" := by decide +kernel
  have h4 : ¬ ("fold" : Str) = "at" := by decide +kernel
  simp [putE, Pen.kvs, h1, h2, h3, h4]
theorem put_digits (p : Pen) (z : Int) : putE p.kvs (Sum.inr "digits") (.dat (.int z)) = { p with digits := z }.kvs := by
  have h1 : ¬ ("cells" : Str) = "digits" := by decide +kernel
  have h2 : ¬ ("at" : Str) = "digits" := by decide +kernel
  have h3 : ¬ ("count" : Str) = "digits" := by decide +kernel
  have h4 : ¬ ("fold" : Str) = "digits" := by decide +kernel
  simp [putE, Pen.kvs, h1, h2, h3, h4]
theorem put_count (p : Pen) (z : Int) : putE p.kvs (Sum.inr "count") (.dat (.int z)) = { p with count := z }.kvs := by
  have h1 : ¬ ("cells" : Str) = "count" := by decide +kernel
  have h2 : ¬ ("at" : Str) = "count" := by decide +kernel
  have h3 : ¬ ("digits" : Str) = "count" := by decide +kernel
  have h4 : ¬ ("fold" : Str) = "count" := by decide +kernel
  simp [putE, Pen.kvs, h1, h2, h3, h4]
theorem put_fold (p : Pen) (z : Int) : putE p.kvs (Sum.inr "fold") (.dat (.int z)) = { p with fold := z }.kvs := by
  have h1 : ¬ ("cells" : Str) = "fold" := by decide +kernel
  have h2 : ¬ ("at" : Str) = "fold" := by decide +kernel
  have h3 : ¬ ("digits" : Str) = "fold" := by decide +kernel
  have h4 : ¬ ("count" : Str) = "fold" := by decide +kernel
  simp [putE, Pen.kvs, h1, h2, h3, h4]
/-- the pen's display, as the pen -/
theorem pen_made (cells : List Int) (f : Int) : mergeE [] (([("cells", D.lst (cells.map .int)), ("at", .int 0), ("digits", .int 0), ("count", .int 0), ("fold", .int f)] : List (Str × D)).map fun (p : Str × D) => ((Sum.inr p.1 : Key), En.dat p.2)) = ({ cells := cells, pos := 0, digits := 0, count := 0, fold := f } : Pen).kvs := by
  have h1 : ¬ ("cells" : Str) = "at" := by decide +kernel
  have h2 : ¬ ("cells" : Str) = "digits" := by decide +kernel
  have h3 : ¬ ("cells" : Str) = "count" := by decide +kernel
  have h4 : ¬ ("cells" : Str) = "fold" := by decide +kernel
  have h5 : ¬ ("at" : Str) = "digits" := by decide +kernel
  have h6 : ¬ ("at" : Str) = "count" := by decide +kernel
  have h7 : ¬ ("at" : Str) = "fold" := by decide +kernel
  have h8 : ¬ ("digits" : Str) = "count" := by decide +kernel
  have h9 : ¬ ("digits" : Str) = "fold" := by decide +kernel
  have h10 : ¬ ("count" : Str) = "fold" := by decide +kernel
  simp [mergeE, putE, Pen.kvs, h1, h2, h3, h4, h5, h6, h7, h8, h9, h10]

def Pen.fill (p : Pen) : Pen :=
  let c : Pen := { p with count := p.count + 1 }
  if c.digits = 0 ∧ c.pos < c.cells.length then
    let z := c.cells.getD c.pos 0
    let d : Pen := { c with pos := c.pos + 1 }
    if 10 ^ 18 ≤ z then { d with digits := z - 10 ^ 18 } else { d with fold := (d.fold * 69069 + z) % 2147483587 }
  else c
def draw (p : Pen) (m : Int) : Int × Pen :=
  let q := p.fill
  if 0 < q.digits then (q.digits % m, { q with digits := q.digits / m }) else ((q.fold + q.count * 7907 + 37) ^ 17 % 2305843009213693951 / 128 % m, q)
/-- a pen that has made at most n draws -/
structure PenOk (n : Nat) (p : Pen) : Prop where
  digits : 0 ≤ p.digits
  fold0 : 0 ≤ p.fold
  fold1 : p.fold < 2147483648
  count0 : 0 ≤ p.count
  count1 : p.count ≤ n
theorem PenOk.mono {n m : Nat} {p : Pen} (h : PenOk n p) (hm : n ≤ m) : PenOk m p := ⟨h.digits, h.fold0, h.fold1, h.count0, by have := h.count1; omega⟩
theorem PenOk.fill {n : Nat} {p : Pen} (h : PenOk n p) : PenOk (n + 1) p.fill := by
  have h1 := h.count0
  have h2 := h.count1
  unfold Pen.fill
  dsimp only
  split
  · split
    · rename_i h3
      exact ⟨by show 0 ≤ _ - (10 : Int) ^ 18; omega, h.fold0, h.fold1, by show 0 ≤ p.count + 1; omega, by show p.count + 1 ≤ _; omega⟩
    · refine ⟨h.digits, Int.emod_nonneg _ (by decide), ?_, by show 0 ≤ p.count + 1; omega, by show p.count + 1 ≤ _; omega⟩
      exact Int.lt_trans (Int.emod_lt_of_pos _ (by decide)) (by decide)
  · exact ⟨h.digits, h.fold0, h.fold1, by show 0 ≤ p.count + 1; omega, by show p.count + 1 ≤ _; omega⟩
theorem PenOk.draw {n : Nat} {p : Pen} (h : PenOk n p) {m : Int} (hm : 0 < m) : PenOk (n + 1) (draw p m).2 := by
  have f := h.fill
  unfold AS.draw
  dsimp only
  split
  · exact ⟨Int.ediv_nonneg f.digits (by omega), f.fold0, f.fold1, f.count0, f.count1⟩
  · exact f
theorem draw_range (p : Pen) {m : Int} (hm : 0 < m) : 0 ≤ (draw p m).1 ∧ (draw p m).1 < m := by
  unfold draw
  dsimp only
  split
  · exact ⟨Int.emod_nonneg _ (by omega), Int.emod_lt_of_pos _ hm⟩
  · exact ⟨Int.emod_nonneg _ (by omega), Int.emod_lt_of_pos _ hm⟩
section
variable {K : PySem.W.Frag} {es : List En} {W R : List Cn} {tv : TE} {p : Pen} {z : Int} {j : Nat}
theorem ev_pcells (h : es[j]? = some (.ptr 0)) : EV K (tDGet (tVar j) (tC (.str "cells"))) es (p.cn :: R) (.dat (.lst (p.cells.map .int))) (p.cn :: R) := ev_dget (ev_vp h) (ev_str _) rfl (look_cells p)
theorem ev_pat (h : es[j]? = some (.ptr 0)) : EV K (tDGet (tVar j) (tC (.str "at"))) es (p.cn :: R) (.dat (.int p.pos)) (p.cn :: R) := ev_dget (ev_vp h) (ev_str _) rfl (look_at p)
theorem ev_pdigits (h : es[j]? = some (.ptr 0)) : EV K (tDGet (tVar j) (tC (.str "digits"))) es (p.cn :: R) (.dat (.int p.digits)) (p.cn :: R) := ev_dget (ev_vp h) (ev_str _) rfl (look_digits p)
theorem ev_pcount (h : es[j]? = some (.ptr 0)) : EV K (tDGet (tVar j) (tC (.str "count"))) es (p.cn :: R) (.dat (.int p.count)) (p.cn :: R) := ev_dget (ev_vp h) (ev_str _) rfl (look_count p)
theorem ev_pfold (h : es[j]? = some (.ptr 0)) : EV K (tDGet (tVar j) (tC (.str "fold"))) es (p.cn :: R) (.dat (.int p.fold)) (p.cn :: R) := ev_dget (ev_vp h) (ev_str _) rfl (look_fold p)
theorem sd_pput {x : Str} {q : Pen} {e : En} (hv : EV K tv es W e (p.cn :: R)) (h : es[j]? = some (.ptr 0)) (hq : putE p.kvs (Sum.inr x) e = q.kvs) : SDd K (sDPut (tVar j) (tC (.str x)) tv) es W es (q.cn :: R) := by
  have := sd_dput (x := x) hv (ev_vp h) (ev_str _) rfl (by simp [Pen.kvs])
  rw [hq] at this
  exact this
theorem sd_pat {n : Nat} (hv : EV K tv es W (.dat (.int n)) (p.cn :: R)) (h : es[j]? = some (.ptr 0)) : SDd K (sDPut (tVar j) (tC (.str "at")) tv) es W es ({ p with pos := n }.cn :: R) := sd_pput hv h (put_at p n)
theorem sd_pdigits (hv : EV K tv es W (.dat (.int z)) (p.cn :: R)) (h : es[j]? = some (.ptr 0)) : SDd K (sDPut (tVar j) (tC (.str "digits")) tv) es W es ({ p with digits := z }.cn :: R) := sd_pput hv h (put_digits p z)
theorem sd_pcount (hv : EV K tv es W (.dat (.int z)) (p.cn :: R)) (h : es[j]? = some (.ptr 0)) : SDd K (sDPut (tVar j) (tC (.str "count")) tv) es W es ({ p with count := z }.cn :: R) := sd_pput hv h (put_count p z)
theorem sd_pfold (hv : EV K tv es W (.dat (.int z)) (p.cn :: R)) (h : es[j]? = some (.ptr 0)) : SDd K (sDPut (tVar j) (tC (.str "fold")) tv) es W es ({ p with fold := z }.cn :: R) := sd_pput hv h (put_fold p z)
end
end AS
/-! AS9: promises told by a relation; Euclid's laps; sizes of ratios. -/
namespace AS
open PySem PySem.Spec PyProof.Rows L2
/-! ### promises told by what holds of the answer -/
def spP (K : PySem.W.Frag) (args : List En) (W : List Cn) (post : En → List Cn → Prop) : List V → Hp → VK → Prop := fun vs H Q =>
  ∃ F Hb as, ST K F Hb H (vs.map some) args W as ∧ ∀ v Hb' H' r W', post r W' → Same Hb Hb' → ST K F Hb' H' [] [] W' as → RE K Hb' as v r → Q v H'
theorem spP.len {K : PySem.W.Frag} {args : List En} {W : List Cn} {post : En → List Cn → Prop} {vs : List V} {H : Hp} {Q : VK} (h : spP K args W post vs H Q) : vs.length = args.length := by
  obtain ⟨_, _, _, S, _⟩ := h
  have := S.sl
  simpa using this
def EVp (K : PySem.W.Frag) (te : TE) (es : List En) (W : List Cn) (post : En → List Cn → Prop) : Prop :=
  ∀ F Hb H σ as, ST K F Hb H σ es W as → ∀ Q : VK, (∀ v Hb' H' as' e W', post e W' → Gr as as' → Same Hb Hb' → ST K F Hb' H' σ es W' as' → RE K Hb' as' v e → Q v H') → te σ H Q
section
variable {K : PySem.W.Frag} {F Hb Hb' H H' : Hp} {σ : L2.St} {es es1 es2 : List En} {as as' : List Addr} {W W1 W2 W3 W' : List Cn} {e e1 e2 r : En} {te : TE} {d : D} {v : V} {P : Po} {t u : TS} {post : En → List Cn → Prop}
theorem EV.p (h : EV K te es W e W1) : EVp K te es W fun e' w => e' = e ∧ w = W1 := fun F Hb H σ as S Q k => h F Hb H σ as S Q fun v Hb' H' as' g s S' r => k v Hb' H' as' e W1 ⟨rfl, rfl⟩ g s S' r
theorem evp_call {sp : Sp} {E : XK} {tA : TA} {args : List En} {cW R : List Cn} (ha : EA K tA es W args (cW ++ R)) (h : ∀ vs H Q, spP K args cW post vs H Q → sp vs H Q E) (hl : ∀ r w, post r w → w.length = cW.length)
    (ca : ∀ e ∈ args, ClE cW.length e) (cc : ∀ c ∈ cW, ClC cW.length c) : EVp K (tCall sp [] E tA) es W fun e w => ∃ w', post e w' ∧ w = w' ++ R := fun F Hb H σ as S Q k =>
  ha F Hb H σ as S _ fun vs Hb1 H1 as1 g1 s1 S1 r1 => by
    obtain ⟨F', as0, g0, h0, Sc, Fn, Rn, back⟩ := call_in S1 r1 ca cc
    show sp (vs ++ []) H1 Q E
    rw [List.append_nil]
    refine h vs H1 Q ⟨F', Hb1, as0, Sc, fun v Hb2 H2 r w' hp s2 S2 r2 => ?_⟩
    exact k v Hb2 H2 as1 r (w' ++ R) ⟨w', hp, rfl⟩ g1 (s1.trans s2) (back Hb2 H2 w' [] [] (hl r w' hp) s2 S2) (RE.mono g0 (Same.refl _) r2)
theorem sd_asgP {i : Nat} (h : EVp K te es W post) (h2 : ∀ e w, post e w → SD K u (es.set i e) w P) : SD K (tSeq (tAsg te (gName i)) u) es W P := fun F Hb H σ as D S k =>
  h F Hb H σ as S _ fun v Hb1 H1 as1 e w hp g s S1 r1 => h2 e w hp F Hb1 H1 _ as1 D (S1.set r1) (k.on g s)
theorem sd_retP (h : EVp K te es W post) (h2 : ∀ e w, post e w → P.rt e w) : SD K (tRet te) es W P := fun F Hb H σ as D S k =>
  h F Hb H σ as S _ fun v Hb1 H1 as1 e w hp g s S1 r1 => k.rt v Hb1 H1 σ as1 es w e (h2 e w hp) g s S1 r1
theorem fn_goP {N : List Str} {vs : List V} {args : List En} {Q : VK} (h : spP K args W post vs H Q) (hc : ∀ r w, post r w → ClE W.length r ∧ w.length = W.length ∧ ∀ c ∈ w, ClC W.length c)
    (hb : SD K t (args ++ List.replicate (N.length - args.length) .un) W ⟨fun _ w => post (.dat .non) (w.take W.length), fun e w => post e (w.take W.length), fun _ _ => False, fun _ _ => False⟩) :
    t { nx := fun _ H' => Q .non H', rt := Q } (L2.start N vs) H := by
  obtain ⟨F, Hb, as, S, k⟩ := h
  refine hb F Hb H _ as _ (start_slots S) ⟨?_, ?_, fun _ _ _ _ _ _ x => x.elim, fun _ _ _ _ _ _ x => x.elim⟩
  · intro Hb' H' σ' as' es' w hp g s S'
    obtain ⟨c1, c2, c3⟩ := hc _ _ hp
    exact k .non Hb' H' _ _ hp s (S'.take (n := 0) g (by rw [S.len]; exact c2.symm) (by rw [S.len]) (by rw [S.len]; exact c3)) .non
  · intro v Hb' H' σ' as' es' w e hp g s S' rv
    obtain ⟨c1, c2, c3⟩ := hc _ _ hp
    exact k v Hb' H' _ _ hp s (S'.take (n := 0) g (by rw [S.len]; exact c2.symm) (by rw [S.len]) (by rw [S.len]; exact c3)) (RE.cut g (by rw [S.len]; exact c1) rv)
/-- .. over data alone -/
theorem fn_goPD {N : List Str} {vs : List V} {l : List D} {Q : VK} {pd : D → Prop} (h : spP K (l.map .dat) [] (fun e w => w = [] ∧ ∃ d, e = .dat d ∧ pd d) vs H Q)
    (hb : SD K t (l.map .dat ++ List.replicate (N.length - l.length) .un) [] ⟨fun _ _ => pd .non, fun e _ => ∃ d, e = .dat d ∧ pd d, fun _ _ => False, fun _ _ => False⟩) :
    t { nx := fun _ H' => Q .non H', rt := Q } (L2.start N vs) H :=
  fn_goP h (fun r w ⟨hw, d, he, _⟩ => by subst hw he; exact ⟨trivial, rfl, fun c hc => absurd hc (by simp)⟩) (by
    rw [List.length_map]
    exact hb.imp (fun _ w x => ⟨by simp, _, rfl, x⟩) (fun _ w x => ⟨by simp, x⟩) (fun _ _ x => x) (fun _ _ x => x))
theorem evp_callD {sp : Sp} {E : XK} {tA : TA} {l : List D} {pd : D → Prop} (ha : EA K tA es W (l.map .dat) W1) (h : ∀ vs H Q, spP K (l.map .dat) [] (fun e w => w = [] ∧ ∃ d, e = .dat d ∧ pd d) vs H Q → sp vs H Q E) :
    EVp K (tCall sp [] E tA) es W fun e w => w = W1 ∧ ∃ d, e = .dat d ∧ pd d := fun F Hb H σ as S Q k =>
  evp_call (cW := []) (R := W1) ha h (fun r w x => by rw [x.1]) (fun e he => by obtain ⟨d, _, rfl⟩ := List.mem_map.mp he; trivial) (fun c hc => absurd hc (by simp)) F Hb H σ as S Q
    fun v Hb' H' as' e w ⟨w', ⟨q1, q2⟩, q3⟩ g s S' rv => k v Hb' H' as' e w ⟨by rw [q3, q1]; rfl, q2⟩ g s S' rv
end

/-! ### Euclid by laps -/
def reach : Nat → Nat → Nat → Prop
  | 0, _, y => y = 0
  | n + 1, x, y => y = 0 ∨ reach n y (x % y)
theorem reach_zero : ∀ n x, reach n x 0
  | 0, _ => rfl
  | _ + 1, _ => .inl rfl
theorem reach_mono : ∀ {n m : Nat} {x y : Nat}, n ≤ m → reach n x y → reach m x y
  | 0, m, x, y, _, h => by
    have h : y = 0 := h
    subst h
    exact reach_zero m x
  | n + 1, 0, _, _, hm, _ => absurd hm (by omega)
  | n + 1, m + 1, x, y, hm, h => by
    rcases h with h | h
    · exact .inl h
    · exact .inr (reach_mono (by omega) h)
theorem reach_pow : ∀ (k x y : Nat), y < 2 ^ k → reach (2 * k) x y
  | 0, x, y, h => by
    have : y = 0 := by simpa using h
    exact this
  | k + 1, x, y, h => by
    show y = 0 ∨ reach (2 * k + 1) y (x % y)
    by_cases hy : y = 0
    · exact .inl hy
    · refine .inr ?_
      show x % y = 0 ∨ reach (2 * k) (x % y) (y % (x % y))
      by_cases hr : x % y = 0
      · exact .inl hr
      · refine .inr (reach_pow k _ _ ?_)
        have h1 : x % y < y := Nat.mod_lt _ (by omega)
        have h2 : y % (x % y) < x % y := Nat.mod_lt _ (by omega)
        have h3 : y % (x % y) + (x % y) ≤ y := by
          have := Nat.div_add_mod y (x % y)
          have h4 : 1 ≤ y / (x % y) := Nat.div_pos (by omega) (by omega)
          have h5 : (x % y) * 1 ≤ (x % y) * (y / (x % y)) := Nat.mul_le_mul_left _ h4
          omega
        have : 2 ^ (k + 1) = 2 * 2 ^ k := by rw [Nat.pow_succ]; omega
        omega
/-- factors of so many bits -/
theorem mulOk_bits {a b : Int} {n m : Nat} (ha : a.natAbs < 2 ^ n) (hb : b.natAbs < 2 ^ m) (h : n + m ≤ 1000000) : IntMulOk a b := by
  by_cases hn : n = 0
  · subst hn
    have : a = 0 := by simp at ha; omega
    subst this
    exact .of_left (by decide)
  · by_cases hm : m = 0
    · subst hm
      have : b = 0 := by simp at hb; omega
      subst this
      exact .of_right (by decide)
    · exact CMulW.ok (wide_mul ha hb (by omega) (by omega) h)
theorem log2_lt {a : Int} {n : Nat} (h : a.natAbs < 2 ^ n) (hn : n ≤ 9000) (h0 : 0 < n) : a.natAbs.log2 < 9000 := by
  have := PySem.Flt.log2_lt_of h0 h
  omega
end AS
/-! AS10: the laws' big numbers: some draws of three figures each, the last figures of the number's text. -/
namespace AS
open PySem PySem.Spec PyProof.Rows L2
theorem digitsVal_lt : ∀ (l : List Nat) (a : Nat), NumText.AllDigits l → l.foldl (fun acc c => acc * 10 + (c - 48)) a < (a + 1) * 10 ^ l.length
  | [], a, _ => by simp
  | c :: r, a, h => by
    have hc := h.head
    have ih := digitsVal_lt r (a * 10 + (c - 48)) h.tail
    rw [List.foldl_cons]
    refine Nat.lt_of_lt_of_le ih ?_
    rw [List.length_cons, Nat.pow_succ, Nat.mul_comm (10 ^ r.length) 10, ← Nat.mul_assoc]
    exact Nat.mul_le_mul_right _ (by omega)
def lastT (t f : Int) : Str := cutS (toString t) (some (-f)) none
def lastD (t f : Int) : Int := (PySem.intText? (lastT t f)).getD 0
theorem last_facts (t f : Nat) (hf : 0 < f) (hf2 : f ≤ 600) : PySem.intText? (lastT t f) = some (lastD t f) ∧ (lastT t f).length ≤ 640 ∧ 0 ≤ lastD t f ∧ lastD t f < 10 ^ f := by
  have hL : (Str.ofString (toString ((t : Nat) : Int))).cps.toList = TL.numL t := TL.tl_num t
  have hlen : (Str.ofString (toString ((t : Nat) : Int))).length = (TL.numL t).length := by
    show (Str.ofString (toString ((t : Nat) : Int))).cps.size = _
    rw [← hL]; simp
  have hz : (lastT t f).cps.toList = (TL.numL t).drop ((TL.numL t).length - f) := by
    unfold lastT cutS
    show (((Str.ofString (toString ((t : Nat) : Int))).cps.toList.drop (HT.sIx (Str.ofString (toString ((t : Nat) : Int))).length 0 (some (-(f : Int))))).take (HT.sIx (Str.ofString (toString ((t : Nat) : Int))).length (Str.ofString (toString ((t : Nat) : Int))).length none - HT.sIx (Str.ofString (toString ((t : Nat) : Int))).length 0 (some (-(f : Int))))).toArray.toList = _
    rw [hL, hlen]
    have e1 : HT.sIx (TL.numL t).length 0 (some (-(f : Int))) = (TL.numL t).length - f := by
      show (if (-(f : Int)) < 0 then (-(f : Int) + ((TL.numL t).length : Int)).toNat else _) = _
      rw [if_pos (by omega)]
      omega
    rw [e1, HT.sIx_none]
    exact List.take_of_length_le (by rw [List.length_drop]; exact Nat.le_refl _)
  have hne := TL.numL_ne t
  have hpos : 0 < (TL.numL t).length := List.length_pos_iff.mpr hne
  have hdl : ((TL.numL t).drop ((TL.numL t).length - f)).length ≤ f := by rw [List.length_drop]; omega
  have hd : NumText.AllDigits (lastT t f).cps.toList := by
    rw [hz]
    exact fun c hc => TL.numL_digits t c (List.mem_of_mem_drop hc)
  have hn : (lastT t f).cps.toList ≠ [] := by
    rw [hz]
    intro e
    have := congrArg List.length e
    rw [List.length_drop] at this
    simp at this
    omega
  have hl : (lastT t f).length ≤ f := by
    show (lastT t f).cps.size ≤ f
    have : (lastT t f).cps.size = (lastT t f).cps.toList.length := by simp
    rw [this, hz]; exact hdl
  have hi := intText_digits hd hn (by omega)
  have hv : lastD t f = ((NumText.digitsVal (lastT t f).cps.toList : Nat) : Int) := by
    unfold lastD
    rw [hi]; rfl
  refine ⟨by rw [hv]; exact hi, by omega, by rw [hv]; omega, ?_⟩
  rw [hv]
  have h1 := digitsVal_lt (lastT t f).cps.toList 0 hd
  have h2 : (lastT t f).cps.toList.length ≤ f := by rw [hz]; exact hdl
  have h3 : 10 ^ (lastT t f).cps.toList.length ≤ 10 ^ f := Nat.pow_le_pow_right (by decide) h2
  have h4 : NumText.digitsVal (lastT t f).cps.toList < 10 ^ f := by
    unfold NumText.digitsVal
    omega
  exact_mod_cast h4
def bigL (p : Pen) : Nat → Int × Pen
  | 0 => (0, p)
  | n + 1 => ((bigL p n).1 * 1000 + (draw (bigL p n).2 1000).1, (draw (bigL p n).2 1000).2)
theorem bigL_ok {n : Nat} {p : Pen} (h : PenOk n p) : ∀ k, PenOk (n + k) (bigL p k).2 ∧ 0 ≤ (bigL p k).1 ∧ (bigL p k).1 < 1000 ^ k
  | 0 => ⟨h, Int.le_refl _, by show (0 : Int) < 1000 ^ 0; decide⟩
  | k + 1 => by
    obtain ⟨h1, h2, h3⟩ := bigL_ok h k
    have d := draw_range (bigL p k).2 (m := 1000) (by decide)
    refine ⟨h1.draw (by decide), ?_, ?_⟩
    · show 0 ≤ (bigL p k).1 * 1000 + (draw (bigL p k).2 1000).1
      omega
    · show (bigL p k).1 * 1000 + (draw (bigL p k).2 1000).1 < 1000 ^ (k + 1)
      rw [Int.pow_succ]
      omega
def bigN (p : Pen) (f : Int) : Int := ([1, 1, 1, 2, 3, (f + 2) / 3] : List Int).getD (draw p 6).1.toNat 0
def big (p : Pen) (f : Int) : Int × Pen := (lastD (bigL (draw p 6).2 (bigN p f).toNat).1 f, (bigL (draw p 6).2 (bigN p f).toNat).2)
theorem bigN_range (p : Pen) {f : Int} (h1 : 1 ≤ f) (h2 : f ≤ 30) : 1 ≤ bigN p f ∧ bigN p f ≤ 10 := by
  have d := draw_range p (m := 6) (by decide)
  unfold bigN
  generalize hj : (draw p 6).1.toNat = j
  have hj6 : j < 6 := by omega
  match j, hj6 with
  | 0, _ => exact ⟨by show (1 : Int) ≤ 1; decide, by show (1 : Int) ≤ 10; decide⟩
  | 1, _ => exact ⟨by show (1 : Int) ≤ 1; decide, by show (1 : Int) ≤ 10; decide⟩
  | 2, _ => exact ⟨by show (1 : Int) ≤ 1; decide, by show (1 : Int) ≤ 10; decide⟩
  | 3, _ => exact ⟨by show (1 : Int) ≤ 2; decide, by show (2 : Int) ≤ 10; decide⟩
  | 4, _ => exact ⟨by show (1 : Int) ≤ 3; decide, by show (3 : Int) ≤ 10; decide⟩
  | 5, _ =>
    show 1 ≤ (f + 2) / 3 ∧ (f + 2) / 3 ≤ 10
    omega
theorem big_ok {n : Nat} {p : Pen} (h : PenOk n p) {f : Nat} (h1 : 1 ≤ f) (h2 : f ≤ 30) : PenOk (n + 11) (big p f).2 ∧ 0 ≤ (big p f).1 ∧ (big p f).1 < 10 ^ f := by
  have hb := bigN_range p (f := (f : Int)) (by omega) (by omega)
  obtain ⟨k1, k2, k3⟩ := bigL_ok (h.draw (m := 6) (by decide)) (bigN p f).toNat
  refine ⟨k1.mono (by omega), ?_⟩
  obtain ⟨t, ht⟩ := Int.eq_ofNat_of_zero_le k2
  obtain ⟨_, _, l3, l4⟩ := last_facts t f (by omega) (by omega)
  show 0 ≤ lastD (bigL (draw p 6).2 (bigN p f).toNat).1 f ∧ lastD (bigL (draw p 6).2 (bigN p f).toNat).1 f < _
  rw [ht]
  exact ⟨l3, l4⟩
end AS
/-! AS11: comprehensions over known lists, owned or data; == and != with []. -/
namespace AS
open PySem PySem.Spec PyProof.Rows L2
section
variable {K : PySem.W.Frag} {F Hb Hb' H H' : Hp} {σ : L2.St} {es es1 es2 : List En} {as as' : List Addr} {W W1 W2 W3 W' : List Cn} {e e1 e2 : En} {ta tb te tc : TE} {d d1 d2 : D} {v : V} {P : Po} {t u : TS} {tt : TT}
/-- a list comprehension whose list is owned -/
theorem ev_lcO {wi : TI} {g : TG} {vs js : List Nat} {l : List En} {stay : List Cn → Prop} {W0 : List Cn} (hi : EI K wi es W l stay W0) (fs : Nat → Option D) (Ws : Nat → List Cn) (hW0 : Ws 0 = W0) (hl : l.length ≤ 1000000) (hst : ∀ i, i ≤ l.length → stay (Ws i)) (hjs : ∀ j ∈ js, j ∈ vs)
    (step : ∀ i x, l[i]? = some x → ∃ e2, EG K g js x (wipeE es vs) (Ws i) e2 ∧ ((∃ Wt d, fs i = some d ∧ ET K tt e2 (Ws i) true Wt ∧ EV K te e2 Wt (.dat d) (Ws (i + 1))) ∨ (fs i = none ∧ ET K tt e2 (Ws i) false (Ws (i + 1))))) :
    EV K (tLc wi g tt te vs) es W (.ptr (Ws l.length).length) (Ws l.length ++ [.lst (((List.range l.length).filterMap fs).map .dat)]) := fun F Hb H σ as S Q k =>
  hi F Hb H σ as S _ fun J Hb1 H1 as1 g1 s1 S1 walk p hp => by
    have hF : F p = none := S1.frm.free hp
    refine ⟨fun i m H' => m = l.length - i ∧ i ≤ l.length ∧ ∃ Hb' as' acc, Gr as1 as' ∧ Same Hb1 Hb' ∧ DtA K Hb' acc ((List.range i).filterMap fs) ∧ ST K (upd F p (.lst acc)) Hb' H' (L2.wipe σ vs) (wipeE es vs) (Ws i) as',
      ⟨l.length, by simp, Nat.zero_le _, Hb1, as1, [], Gr.refl _, Same.refl _, .nil, by rw [hW0]; exact (S1.outside hp).wipe vs⟩, ?_⟩
    rintro i m H' ⟨rfl, hil, Hb2, as2, acc, g2, s2, hacc, S2⟩
    have wk := walk i _ Hb2 H' _ _ _ as2 S2 s2 g2 (hst i hil)
    by_cases hlt : i < l.length
    · obtain ⟨hgo, hyl⟩ := wk.1 l[i] (by simp [hlt])
      refine .inr ⟨hgo, fun H3 => ∃ Hb' as' acc, Gr as1 as' ∧ Same Hb1 Hb' ∧ DtA K Hb' acc ((List.range (i + 1)).filterMap fs) ∧ ST K (upd F p (.lst acc)) Hb' H3 (L2.wipe σ vs) (wipeE es vs) (Ws (i + 1)) as', fun H3 h => ⟨l.length - (i + 1), by omega, rfl, hlt, h⟩, fun x H3 hy => ?_⟩
      obtain ⟨Hb3, s3, S3, r3, _⟩ := hyl x H3 hy
      obtain ⟨e2, hg, hstep⟩ := step i l[i] (by simp [hlt])
      refine hg _ Hb3 H3 _ as2 x S3 r3 _ fun σ4 hw S4 => ⟨by rw [hw vs hjs, wipe_wipe], ?_⟩
      have back : ∀ {Hb5 H5 as5 F5 W5}, ST K F5 Hb5 H5 σ4 e2 W5 as5 → Same Hb2 Hb5 → Gr as2 as5 → ST K F5 Hb5 H5 (L2.wipe σ vs) (wipeE es vs) W5 as5 := fun {Hb5 H5 as5 F5 W5} S5 s5 g5 =>
        S5.slots (by have := (S.wipe vs).sl; exact this) fun i e h => RS.mono g5 s5 (S2.slot i e h)
      have lenacc : acc.length < sizeLine := by
        rw [hacc.length, sizeLine_eq]
        have := List.length_filterMap_le fs (List.range i)
        simp at this
        omega
      rcases hstep with ⟨Wt, d, hf, ht, he⟩ | ⟨hf, ht⟩
      · refine ht _ Hb3 H3 σ4 as2 S4 _ fun Hb5 H5 as5 g5 s5 S5 => ?_
        show te σ4 H5 _
        refine he _ Hb5 H5 σ4 as5 S5 _ fun y Hb6 H6 as6 g6 s6 S6 r6 => ?_
        refine ⟨acc, S6.frm p _ upd_same, lenacc, Hb6, as6, acc ++ [y], (g2.trans g5).trans g6, ((s2.trans s3).trans s5).trans s6, ?_, back (S6.outset) ((s3.trans s5).trans s6) (g5.trans g6)⟩
        rw [List.range_succ, List.filterMap_append]
        have : [i].filterMap fs = [d] := by simp [hf]
        rw [this]
        exact (DtA.mono ((s3.trans s5).trans s6) _ _ hacc).append (.cons r6 .nil)
      · refine ht _ Hb3 H3 σ4 as2 S4 _ fun Hb5 H5 as5 g5 s5 S5 => ?_
        show ∃ Hb' as' acc, _
        refine ⟨Hb5, as5, acc, g2.trans g5, (s2.trans s3).trans s5, ?_, back S5 (s3.trans s5) g5⟩
        rw [List.range_succ, List.filterMap_append]
        have : [i].filterMap fs = [] := by simp [hf]
        rw [this, List.append_nil]
        exact DtA.mono (s3.trans s5) _ _ hacc
    · have e : i = l.length := by omega
      subst e
      refine .inl ⟨wk.2 (Nat.le_refl _), ?_⟩
      have gg := g1.trans g2
      have ss := s1.trans s2
      have FF : ∀ a u, F a = some u → a ≠ p := fun a u e q => by subst q; rw [hF] at e; cases e
      have S3 : ST K F Hb2 H' (L2.wipe σ vs) (wipeE es vs) (Ws l.length) as2 :=
        ⟨S2.base, fun b u e => S2.frm b u (by rw [upd_ne (FF b u e)]; exact e), fun b u e => S2.dis b u (by rw [upd_ne (FF b u e)]; exact e), S2.len, fun j b c q1 q2 q3 => by
          obtain ⟨k1, k2, k3⟩ := S2.own j b c q1 q2 q3
          have ne : b ≠ p := fun q => by subst q; rw [upd_same] at k2; cases k2
          rw [upd_ne ne] at k2
          exact ⟨k1, k2, k3⟩, S2.inj, S2.sl, S2.slot⟩
      have S4 := S3.join (p := p) (c := .lst (((List.range l.length).filterMap fs).map .dat)) (S2.dis p _ upd_same) hF ⟨acc, S2.frm p _ upd_same, DtA.to_dat hacc⟩ fun j c q1 q2 q3 => by
        obtain ⟨_, k2, _⟩ := S2.own j p c q1 q2 q3
        rw [upd_same] at k2; cases k2
      have g3 : Gr as2 (as2 ++ [p]) := ⟨[p], rfl⟩
      have S5 : ST K F Hb2 H' σ es (Ws l.length ++ [.lst (((List.range l.length).filterMap fs).map .dat)]) (as2 ++ [p]) := S4.slots S.sl fun i e h => RS.mono (gg.trans g3) ss (S.slot i e h)
      refine k (.ref p) _ _ _ (gg.trans g3) ss S5 ⟨p, ?_, rfl⟩
      rw [← S2.len, List.getElem?_append_right (Nat.le_refl _)]
      simp
theorem et_yes : ET K tYes es W true W := fun F Hb H σ as S Q k => k Hb H as (Gr.refl _) (Same.refl _) S
theorem fm_range {α β : Type} (f : α → Option β) : ∀ (l : List α), (List.range l.length).filterMap (fun i => l[i]?.bind f) = l.filterMap f
  | [] => rfl
  | a :: r => by
    rw [List.length_cons, List.range_succ_eq_map, List.filterMap_cons, List.filterMap_map]
    have ih := fm_range f r
    have e : (fun i => (a :: r)[i]?.bind f) ∘ Nat.succ = fun i => r[i]?.bind f := by
      funext i
      simp
    rw [e, ih, List.filterMap_cons]
    rfl
/-- over a known list, the owned objects staying as they are -/
theorem ev_lcF {α : Type} {m : List α} {g0 : α → En} {f : α → Option D} {wi : TI} {g : TG} {vs js : List Nat} {stay : List Cn → Prop} (hi : EI K wi es W (m.map g0) stay W1) (hl : m.length ≤ 1000000) (hst : stay W1) (hjs : ∀ j ∈ js, j ∈ vs)
    (step : ∀ a ∈ m, ∃ e2, EG K g js (g0 a) (wipeE es vs) W1 e2 ∧ ((∃ d, f a = some d ∧ ET K tt e2 W1 true W1 ∧ EV K te e2 W1 (.dat d) W1) ∨ (f a = none ∧ ET K tt e2 W1 false W1))) : EV K (tLc wi g tt te vs) es W (.dat (.lst (m.filterMap f))) W1 := by
  have z := ev_lc (W := W) hi (fun i => m[i]?.bind f) (fun _ => W1) rfl (by simpa using hl) (fun _ _ => hst) hjs (tt := tt) (te := te) (by
    intro i x hx
    rw [List.getElem?_map] at hx
    cases q : m[i]? with
    | none => rw [q] at hx; cases hx
    | some a =>
      rw [q] at hx; cases hx
      obtain ⟨e2, h1, h2⟩ := step a (List.mem_of_getElem? q)
      refine ⟨e2, h1, ?_⟩
      rcases h2 with ⟨d, h3, h4, h5⟩ | ⟨h3, h4⟩
      · exact .inl ⟨W1, d, h3, h4, h5⟩
      · exact .inr ⟨h3, h4⟩)
  rw [List.length_map, fm_range] at z
  exact z
theorem ev_lcFO {α : Type} {m : List α} {g0 : α → En} {f : α → Option D} {wi : TI} {g : TG} {vs js : List Nat} {stay : List Cn → Prop} (hi : EI K wi es W (m.map g0) stay W1) (hl : m.length ≤ 1000000) (hst : stay W1) (hjs : ∀ j ∈ js, j ∈ vs)
    (step : ∀ a ∈ m, ∃ e2, EG K g js (g0 a) (wipeE es vs) W1 e2 ∧ ((∃ d, f a = some d ∧ ET K tt e2 W1 true W1 ∧ EV K te e2 W1 (.dat d) W1) ∨ (f a = none ∧ ET K tt e2 W1 false W1))) : EV K (tLc wi g tt te vs) es W (.ptr W1.length) (W1 ++ [.lst ((m.filterMap f).map .dat)]) := by
  have z := ev_lcO (W := W) hi (fun i => m[i]?.bind f) (fun _ => W1) rfl (by simpa using hl) (fun _ _ => hst) hjs (tt := tt) (te := te) (by
    intro i x hx
    rw [List.getElem?_map] at hx
    cases q : m[i]? with
    | none => rw [q] at hx; cases hx
    | some a =>
      rw [q] at hx; cases hx
      obtain ⟨e2, h1, h2⟩ := step a (List.mem_of_getElem? q)
      refine ⟨e2, h1, ?_⟩
      rcases h2 with ⟨d, h3, h4, h5⟩ | ⟨h3, h4⟩
      · exact .inl ⟨W1, d, h3, h4, h5⟩
      · exact .inr ⟨h3, h4⟩)
  rw [List.length_map, fm_range] at z
  exact z
/-- over a known list, no test -/
theorem ev_lcM {α : Type} {m : List α} {g0 : α → En} {f : α → D} {wi : TI} {g : TG} {vs js : List Nat} {stay : List Cn → Prop} (hi : EI K wi es W (m.map g0) stay W1) (hl : m.length ≤ 1000000) (hst : stay W1) (hjs : ∀ j ∈ js, j ∈ vs)
    (step : ∀ a ∈ m, ∃ e2, EG K g js (g0 a) (wipeE es vs) W1 e2 ∧ EV K te e2 W1 (.dat (f a)) W1) : EV K (tLc wi g tYes te vs) es W (.dat (.lst (m.map f))) W1 := by
  have z := ev_lcF (f := fun a => some (f a)) (te := te) (tt := tYes) hi hl hst hjs fun a ha => by
    obtain ⟨e2, h1, h2⟩ := step a ha
    exact ⟨e2, h1, .inl ⟨_, rfl, et_yes, h2⟩⟩
  have e : m.filterMap (fun a => some (f a)) = m.map f := by simp
  rw [e] at z
  exact z
theorem D.pys_len : ∀ {l : List D} {p : List PyData}, D.pys l = some p → p.isEmpty = l.isEmpty
  | [], _, h => by cases h; rfl
  | d :: l, p, h => by
    unfold D.pys at h
    cases q1 : D.py d with
    | none => rw [q1] at h; simp at h
    | some x =>
      cases q2 : D.pys l with
      | none => rw [q1, q2] at h; simp at h
      | some y => rw [q1, q2] at h; cases h; rfl
theorem eqvAll_nil (p : List PyData) : PyData.eqvAll p [] = p.isEmpty := by cases p <;> rfl
theorem shaped_nil : SeqAt.shaped (.list []) = true := by decide +kernel
/-- whole numbers, truth values, None, and what is built of them, so deep -/
def D.flat : Nat → D → Bool
  | _, .non => true
  | _, .bl _ => true
  | _, .int _ => true
  | n + 1, .tup l => l.all (D.flat n)
  | n + 1, .lst l => l.all (D.flat n)
  | n + 1, .rl l => l.all (D.flat n)
  | _, _ => false
theorem flat_all {n : Nat} (h : ∀ d, D.flat n d = true → ∃ p, d.py = some p ∧ p.canLay0 = true ∧ p.depth ≤ n) : ∀ l : List D, l.all (D.flat n) = true → ∃ p, D.pys l = some p ∧ PyData.canLayAll0 p = true ∧ PyData.depthAll p ≤ n
  | [], _ => ⟨[], rfl, rfl, by simp [PyData.depthAll]⟩
  | d :: l, hl => by
    rw [List.all_cons, Bool.and_eq_true] at hl
    obtain ⟨p, a1, a2, a3⟩ := h d hl.1
    obtain ⟨ps, b1, b2, b3⟩ := flat_all h l hl.2
    refine ⟨p :: ps, by unfold D.pys; rw [a1, b1], by simp only [PyData.canLayAll0, a2, b2, Bool.and_self], ?_⟩
    simp only [PyData.depthAll]
    omega
theorem flat_py : ∀ (n : Nat) (d : D), D.flat n d = true → ∃ p, d.py = some p ∧ p.canLay0 = true ∧ p.depth ≤ n
  | n, .non, _ => ⟨_, rfl, rfl, by simp [PyData.depth]⟩
  | n, .bl _, _ => ⟨_, rfl, rfl, by simp [PyData.depth]⟩
  | n, .int _, _ => ⟨_, rfl, rfl, by simp [PyData.depth]⟩
  | n + 1, .tup l, h => by
    obtain ⟨ps, b1, b2, b3⟩ := flat_all (flat_py n) l h
    exact ⟨.tuple ps, by unfold D.py; rw [b1]; rfl, by simp only [PyData.canLay0]; exact b2, by simp only [PyData.depth]; omega⟩
  | n + 1, .lst l, h => by
    obtain ⟨ps, b1, b2, b3⟩ := flat_all (flat_py n) l h
    exact ⟨.list ps, by unfold D.py; rw [b1]; rfl, by simp only [PyData.canLay0]; exact b2, by simp only [PyData.depth]; omega⟩
  | n + 1, .rl l, h => by
    obtain ⟨ps, b1, b2, b3⟩ := flat_all (flat_py n) l h
    exact ⟨.list ps, by unfold D.py; rw [b1]; rfl, by simp only [PyData.canLay0]; exact b2, by simp only [PyData.depth]; omega⟩
  | 0, .tup _, h => by cases h
  | 0, .lst _, h => by cases h
  | 0, .rl _, h => by cases h
  | 0, .str _, h => by cases h
  | 0, .ty _, h => by cases h
  | 0, .rf _, h => by cases h
  | 0, .obj _ _ _, h => by cases h
  | n + 1, .str _, h => by cases h
  | n + 1, .ty _, h => by cases h
  | n + 1, .rf _, h => by cases h
  | n + 1, .obj _ _ _, h => by cases h
theorem flat_list {l : List D} (h : l.all (D.flat 9) = true) : ∃ p, D.pys l = some p ∧ SeqAt.shaped (.list p) = true := by
  obtain ⟨ps, b1, b2, b3⟩ := flat_all (flat_py 9) l h
  refine ⟨ps, b1, ?_⟩
  unfold SeqAt.shaped
  rw [Bool.and_eq_true]
  exact ⟨by simp only [PyData.canLay0]; exact b2, decide_eq_true (by simp only [PyData.depth]; omega)⟩
theorem flat_shaped {d : D} (h : D.flat 9 d = true) : ∃ p, d.py = some p ∧ SeqAt.shaped p = true := by
  obtain ⟨p, b1, b2, b3⟩ := flat_py 9 d h
  refine ⟨p, b1, ?_⟩
  unfold SeqAt.shaped
  rw [Bool.and_eq_true]
  exact ⟨b2, decide_eq_true (by omega)⟩
/-- xs == [], xs != [] -/
theorem ev_eqNil {l : List D} (ha : EV K ta es W e1 W1) (hs : LstE W1 e1 = some (l.map .dat)) (hf : l.all (D.flat 9) = true) : EV K (tOp (rEqA K) ta (tLst tNil)) es W (.dat (.bl l.isEmpty)) W1 := by
  obtain ⟨p, hp, s1⟩ := flat_list hf
  exact ev_op2 (W2 := W1) ha (ev_lst (l := []) ea_nil (by simp)) fun F Hb H σ as v u S r1 r2 Q k => by
    obtain ⟨a, xs, rfl, hq, hpp⟩ := S.lstE hs r1
    refine .inr ⟨.list p, .list [], .lst hq (DtA.py _ _ _ (DtA.mono S.base _ _ (DtA.of_dat (xs := xs) hpp)) hp), Dt.py _ _ _ (Dt.mono S.base _ _ r2) rfl, s1, shaped_nil, ?_⟩
    rw [show PyData.eqv (.list p) (.list []) = PyData.eqvAll p [] from rfl, eqvAll_nil, D.pys_len hp]
    exact k.here S (.bl _)
theorem ev_neNil {l : List D} (ha : EV K ta es W e1 W1) (hs : LstE W1 e1 = some (l.map .dat)) (hf : l.all (D.flat 9) = true) : EV K (tOp (rNeA K) ta (tLst tNil)) es W (.dat (.bl (!l.isEmpty))) W1 := by
  obtain ⟨p, hp, s1⟩ := flat_list hf
  exact ev_op2 (W2 := W1) ha (ev_lst (l := []) ea_nil (by simp)) fun F Hb H σ as v u S r1 r2 Q k => by
    obtain ⟨a, xs, rfl, hq, hpp⟩ := S.lstE hs r1
    refine .inr ⟨.list p, .list [], .lst hq (DtA.py _ _ _ (DtA.mono S.base _ _ (DtA.of_dat (xs := xs) hpp)) hp), Dt.py _ _ _ (Dt.mono S.base _ _ r2) rfl, s1, shaped_nil, ?_⟩
    rw [show PyData.eqv (.list p) (.list []) = PyData.eqvAll p [] from rfl, eqvAll_nil, D.pys_len hp]
    exact k.here S (.bl _)
/-- a list of data and a list of data -/
theorem ev_eqL {l m : List D} {p q : List PyData} (ha : EV K ta es W e1 W1) (hb : EV K tb es W1 e2 W2) (hs : LstE W2 e1 = some (l.map .dat)) (hs2 : LstE W2 e2 = some (m.map .dat)) (hp : D.pys l = some p) (hq : D.pys m = some q) (s1 : SeqAt.shaped (.list p) = true) (s2 : SeqAt.shaped (.list q) = true) : EV K (tOp (rEqA K) ta tb) es W (.dat (.bl (PyData.eqvAll p q))) W2 :=
  ev_op2 ha hb fun F Hb H σ as v u S r1 r2 Q k => by
    obtain ⟨a, xs, rfl, h1, hpp⟩ := S.lstE hs r1
    obtain ⟨b, ys, rfl, h2, hqq⟩ := S.lstE hs2 r2
    exact .inr ⟨.list p, .list q, .lst h1 (DtA.py _ _ _ (DtA.mono S.base _ _ (DtA.of_dat (xs := xs) hpp)) hp), .lst h2 (DtA.py _ _ _ (DtA.mono S.base _ _ (DtA.of_dat (xs := ys) hqq)) hq), s1, s2, k.here S (.bl _)⟩
end
end AS
/-! R1: coprime bases: the plain law of `refined` (no program in sight). -/
namespace Cb
inductive Gen (S : List Nat) : Nat → Prop
  | one : Gen S 1
  | mul {x n : Nat} : x ∈ S → Gen S n → Gen S (x * n)
theorem Gen.mem {S : List Nat} {x : Nat} (h : x ∈ S) : Gen S x := by
  have := Gen.mul h .one
  rwa [Nat.mul_one] at this
theorem Gen.times {S : List Nat} {a b : Nat} (ha : Gen S a) (hb : Gen S b) : Gen S (a * b) := by
  induction ha with
  | one => rwa [Nat.one_mul]
  | mul h _ ih => rw [Nat.mul_assoc]; exact .mul h ih
theorem Gen.trans {S T : List Nat} {n : Nat} (h : ∀ x ∈ S, Gen T x) (hn : Gen S n) : Gen T n := by
  induction hn with
  | one => exact .one
  | mul hx _ ih => exact (h _ hx).times ih
/-- closed for divisors -/
def Dc (p : Nat → Prop) : Prop := ∀ a b, a ∣ b → 0 < b → p b → p a
structure Inv (orig base wait : List Nat) : Prop where
  two : ∀ b ∈ base, 2 ≤ b
  pos : ∀ w ∈ wait, 1 ≤ w
  cop : base.Pairwise fun a b => Nat.gcd a b = 1
  gen : ∀ n ∈ orig, Gen (base ++ wait) n
  her : ∀ p : Nat → Prop, Dc p → (∀ n ∈ orig, p n) → ∀ x ∈ base ++ wait, p x
theorem Inv.start {orig : List Nat} (h : ∀ n ∈ orig, 1 ≤ n) : Inv orig [] orig :=
  ⟨fun _ h => absurd h (by simp), h, .nil, fun n hn => .mem (by simpa using hn), fun p _ hp x hx => hp x (by simpa using hx)⟩
variable {orig base wait : List Nat} {x o : Nat}
theorem Inv.drop (h : Inv orig base (wait ++ [x])) (hx : x = 1 ∨ x ∈ base) : Inv orig base wait := by
  refine ⟨h.two, fun w hw => h.pos w (by simp [hw]), h.cop, fun n hn => (h.gen n hn).trans fun y hy => ?_, fun p dp hp y hy => h.her p dp hp y (by simp at hy ⊢; rcases hy with h | h <;> simp [h])⟩
  simp at hy
  rcases hy with hy | hy | rfl
  · exact .mem (by simp [hy])
  · exact .mem (by simp [hy])
  · rcases hx with rfl | hx
    · exact .one
    · exact .mem (by simp [hx])
theorem Inv.put (h : Inv orig base (wait ++ [x])) (h1 : x ≠ 1) (hc : ∀ b ∈ base, Nat.gcd x b ≤ 1) : Inv orig (base ++ [x]) wait := by
  have hx := h.pos x (by simp)
  refine ⟨fun b hb => ?_, fun w hw => h.pos w (by simp [hw]), ?_, fun n hn => (h.gen n hn).trans fun y hy => .mem (by simp at hy ⊢; rcases hy with h | h | h <;> simp [h]), fun p dp hp y hy => h.her p dp hp y (by simp at hy ⊢; rcases hy with h | h | h <;> simp [h])⟩
  · simp at hb
    rcases hb with hb | rfl
    · exact h.two b hb
    · omega
  · rw [List.pairwise_append]
    refine ⟨h.cop, by simp, fun a ha b hb => ?_⟩
    simp at hb
    subst hb
    have := hc a ha
    have g : 0 < Nat.gcd b a := Nat.gcd_pos_of_pos_left _ (by omega)
    rw [Nat.gcd_comm]
    omega
theorem Inv.split (h : Inv orig base (wait ++ [x])) (ho : o ∈ base) (hg : 1 < Nat.gcd x o) : Inv orig (base.filter fun b => decide (b ≠ o)) (wait ++ [Nat.gcd x o, o / Nat.gcd x o, x / Nat.gcd x o]) := by
  have hx := h.pos x (by simp)
  have h2 := h.two o ho
  have d1 := Nat.gcd_dvd_left x o
  have d2 := Nat.gcd_dvd_right x o
  have e1 : Nat.gcd x o * (x / Nat.gcd x o) = x := Nat.mul_div_cancel' d1
  have e2 : Nat.gcd x o * (o / Nat.gcd x o) = o := Nat.mul_div_cancel' d2
  refine ⟨fun b hb => h.two b (List.mem_filter.mp hb).1, fun w hw => ?_, h.cop.filter _, fun n hn => (h.gen n hn).trans fun y hy => ?_, fun p dp hp y hy => ?_⟩
  · simp at hw
    rcases hw with hw | rfl | rfl | rfl
    · exact h.pos w (by simp [hw])
    · omega
    · exact Nat.div_pos (Nat.le_of_dvd (by omega) d2) (by omega)
    · exact Nat.div_pos (Nat.le_of_dvd (by omega) d1) (by omega)
  · simp at hy
    rcases hy with hy | hy | rfl
    · by_cases q : y = o
      · subst q
        have z : Gen (base.filter (fun b => decide (b ≠ y)) ++ (wait ++ [Nat.gcd x y, y / Nat.gcd x y, x / Nat.gcd x y])) (Nat.gcd x y * (y / Nat.gcd x y)) := (Gen.mem (by simp)).times (Gen.mem (by simp))
        rwa [e2] at z
      · exact .mem (by simp [hy, q])
    · exact .mem (by simp [hy])
    · have z : Gen (base.filter (fun b => decide (b ≠ o)) ++ (wait ++ [Nat.gcd y o, o / Nat.gcd y o, y / Nat.gcd y o])) (Nat.gcd y o * (y / Nat.gcd y o)) := (Gen.mem (by simp)).times (Gen.mem (by simp))
      rwa [e1] at z
  · have px := h.her p dp hp x (by simp)
    have po := h.her p dp hp o (by simp [ho])
    simp at hy
    rcases hy with hy | hy | rfl | rfl | rfl
    · exact h.her p dp hp y (by simp [hy.1])
    · exact h.her p dp hp y (by simp [hy])
    · exact dp _ _ d1 (by omega) px
    · exact dp _ _ ⟨_, by rw [Nat.mul_comm]; exact e2.symm⟩ (by omega) po
    · exact dp _ _ ⟨_, by rw [Nat.mul_comm]; exact e1.symm⟩ (by omega) px
/-! the measure -/
def lg : List Nat → Nat
  | [] => 0
  | x :: r => x.log2 + lg r
theorem lg_append : ∀ a b : List Nat, lg (a ++ b) = lg a + lg b
  | [], b => by simp [lg]
  | x :: r, b => by rw [List.cons_append, lg, lg, lg_append r b]; omega
def mu (base wait : List Nat) : Nat := 3 * (lg base + lg wait) + wait.length
theorem log2_mul_le {a b : Nat} (ha : 0 < a) (hb : 0 < b) : a.log2 + b.log2 ≤ (a * b).log2 := by
  have h1 := Nat.log2_self_le (n := a) (by omega)
  have h2 := Nat.log2_self_le (n := b) (by omega)
  have hab : a * b ≠ 0 := Nat.ne_of_gt (Nat.mul_pos ha hb)
  rw [Nat.le_log2 hab, Nat.pow_add]
  exact Nat.mul_le_mul h1 h2
theorem log2_two {a : Nat} (h : 2 ≤ a) : 1 ≤ a.log2 := (Nat.le_log2 (by omega)).mpr h
theorem lg_filter : ∀ {l : List Nat}, o ∈ l → lg (l.filter fun b => decide (b ≠ o)) + o.log2 ≤ lg l
  | y :: r, h => by
    have aux : ∀ l : List Nat, lg (l.filter fun b => decide (b ≠ o)) ≤ lg l := by
      intro l
      induction l with
      | nil => simp [lg]
      | cons a r ih =>
        by_cases q : a = o
        · rw [List.filter_cons_of_neg (by simp [q]), lg]; omega
        · rw [List.filter_cons_of_pos (by simp [q]), lg, lg]; omega
    by_cases q : y = o
    · subst q
      rw [List.filter_cons_of_neg (by simp), lg]
      have := aux r
      omega
    · rw [List.filter_cons_of_pos (by simp [q]), lg, lg]
      have h' : o ∈ r := by simpa [Ne.symm q] using h
      have := lg_filter h'
      omega
theorem mu_drop : mu base wait < mu base (wait ++ [x]) := by
  unfold mu
  rw [lg_append, List.length_append]
  show _ < 3 * (lg base + (lg wait + lg [x])) + (wait.length + 1)
  omega
theorem mu_put : mu (base ++ [x]) wait < mu base (wait ++ [x]) := by
  unfold mu
  rw [lg_append, lg_append, List.length_append]
  show _ < 3 * (lg base + (lg wait + lg [x])) + (wait.length + 1)
  omega
theorem mu_split (hx : 1 ≤ x) (h2 : 2 ≤ o) (ho : o ∈ base) (hg : 1 < Nat.gcd x o) : mu (base.filter fun b => decide (b ≠ o)) (wait ++ [Nat.gcd x o, o / Nat.gcd x o, x / Nat.gcd x o]) < mu base (wait ++ [x]) := by
  have d1 := Nat.gcd_dvd_left x o
  have d2 := Nat.gcd_dvd_right x o
  have e1 : Nat.gcd x o * (x / Nat.gcd x o) = x := Nat.mul_div_cancel' d1
  have e2 : Nat.gcd x o * (o / Nat.gcd x o) = o := Nat.mul_div_cancel' d2
  have p1 := log2_mul_le (a := Nat.gcd x o) (b := x / Nat.gcd x o) (by omega) (Nat.div_pos (Nat.le_of_dvd (by omega) d1) (by omega))
  have p2 := log2_mul_le (a := Nat.gcd x o) (b := o / Nat.gcd x o) (by omega) (Nat.div_pos (Nat.le_of_dvd (by omega) d2) (by omega))
  rw [e1] at p1
  rw [e2] at p2
  have p3 := log2_two (a := Nat.gcd x o) (by omega)
  have p4 := lg_filter ho
  unfold mu
  rw [lg_append, lg_append, List.length_append, List.length_append]
  show 3 * (lg _ + (lg wait + ((Nat.gcd x o).log2 + ((o / Nat.gcd x o).log2 + ((x / Nat.gcd x o).log2 + 0))))) + (wait.length + 3) < 3 * (lg base + (lg wait + (x.log2 + 0))) + (wait.length + 1)
  omega
theorem len_le : ∀ {l : List Nat}, (∀ b ∈ l, 2 ≤ b) → l.length ≤ lg l
  | [], _ => by simp [lg]
  | y :: r, h => by
    have h1 := log2_two (h y (by simp))
    have h2 := len_le (l := r) fun b hb => h b (by simp [hb])
    rw [List.length_cons, lg]
    omega
/-- how many laps at most -/
theorem mu_le {s : Nat} : ∀ {l : List Nat}, (∀ n ∈ l, n < 2 ^ s) → 0 < s → mu [] l ≤ l.length * (3 * s + 1)
  | [], _, _ => by simp [mu, lg]
  | y :: r, h, hs => by
    have ih := mu_le (l := r) (fun n hn => h n (by simp [hn])) hs
    have hy : y.log2 ≤ s := by
      by_cases q : y = 0
      · subst q; simp
      · have := (Nat.log2_lt q).mpr (h y (by simp)); omega
    unfold mu at ih ⊢
    simp only [lg, List.length_cons] at ih ⊢
    rw [Nat.add_mul]
    omega
end Cb
/-! R2: how many numbers without common divisors there are below a bound. -/
namespace Cb
def prod : List Nat → Nat
  | [] => 1
  | x :: r => x * prod r
def fac : Nat → Nat
  | 0 => 1
  | n + 1 => (n + 1) * fac n
theorem prod_pos : ∀ {l : List Nat}, (∀ x ∈ l, 0 < x) → 0 < prod l
  | [], _ => by decide
  | x :: r, h => Nat.mul_pos (h x (by simp)) (prod_pos fun y hy => h y (by simp [hy]))
/-- of distinct positive numbers one is as great as their count -/
theorem big_of : ∀ (n : Nat) (l : List Nat), l.Nodup → (∀ x ∈ l, 1 ≤ x ∧ x ≤ n) → l.length ≤ n
  | 0, [], _, _ => Nat.le_refl _
  | 0, x :: r, _, h => by have := h x (by simp); omega
  | n + 1, l, hn, h => by
    have h1 : (l.filter fun y => decide (y ≠ n + 1)).length ≤ n := big_of n _ (hn.filter _) fun x hx => by
      obtain ⟨a, b⟩ := List.mem_filter.mp hx
      have := h x a
      have : x ≠ n + 1 := of_decide_eq_true b
      omega
    have h2 : ∀ l : List Nat, l.Nodup → l.length ≤ (l.filter fun y => decide (y ≠ n + 1)).length + 1 := by
      intro l hl
      induction l with
      | nil => simp
      | cons a r ih =>
        rw [List.nodup_cons] at hl
        by_cases q : a = n + 1
        · rw [List.filter_cons_of_neg (by simp [q]), List.length_cons]
          have : r.filter (fun y => decide (y ≠ n + 1)) = r := by
            rw [List.filter_eq_self]
            intro y hy
            exact decide_eq_true fun e => hl.1 (by rw [q, ← e]; exact hy)
          rw [this]
          omega
        · rw [List.filter_cons_of_pos (by simp [q]), List.length_cons, List.length_cons]
          have := ih hl.2
          omega
    have := h2 l hn
    omega
theorem prod_filter {m : Nat} : ∀ {l : List Nat}, m ∈ l → l.Nodup → prod l = m * prod (l.filter fun y => decide (y ≠ m))
  | a :: r, h, hn => by
    rw [List.nodup_cons] at hn
    by_cases q : a = m
    · have : r.filter (fun y => decide (y ≠ m)) = r := by
        rw [List.filter_eq_self]
        intro y hy
        exact decide_eq_true fun e => hn.1 (by rw [q, ← e]; exact hy)
      rw [List.filter_cons_of_neg (by simp [q]), this, prod, q]
    · rw [List.filter_cons_of_pos (by simp [q]), prod, prod]
      have h' : m ∈ r := by simpa [Ne.symm q] using h
      rw [prod_filter h' hn.2, ← Nat.mul_assoc, ← Nat.mul_assoc, Nat.mul_comm a m]
theorem len_filter {m : Nat} : ∀ {l : List Nat}, m ∈ l → l.Nodup → l.length = (l.filter fun y => decide (y ≠ m)).length + 1
  | a :: r, h, hn => by
    rw [List.nodup_cons] at hn
    by_cases q : a = m
    · have : r.filter (fun y => decide (y ≠ m)) = r := by
        rw [List.filter_eq_self]
        intro y hy
        exact decide_eq_true fun e => hn.1 (by rw [q, ← e]; exact hy)
      rw [List.filter_cons_of_neg (by simp [q]), this, List.length_cons]
    · rw [List.filter_cons_of_pos (by simp [q]), List.length_cons, List.length_cons]
      have h' : m ∈ r := by simpa [Ne.symm q] using h
      rw [← len_filter h' hn.2]
theorem fac_le : ∀ (n : Nat) (l : List Nat), l.length = n → l.Nodup → (∀ x ∈ l, 1 ≤ x) → fac n ≤ prod l
  | 0, l, h, _, _ => by
    have : l = [] := List.length_eq_zero_iff.mp h
    subst this; exact Nat.le_refl _
  | n + 1, l, h, hn, hp => by
    have ⟨m, hm, hge⟩ : ∃ m ∈ l, n + 1 ≤ m := by
      apply Classical.byContradiction
      intro hc
      have := big_of n l hn fun x hx => ⟨hp x hx, by
        apply Classical.byContradiction
        intro h2
        exact hc ⟨x, hx, by omega⟩⟩
      omega
    have e := len_filter hm hn
    have ih := fac_le n (l.filter fun y => decide (y ≠ m)) (by omega) (hn.filter _) fun x hx => hp x (List.mem_filter.mp hx).1
    rw [prod_filter hm hn]
    exact Nat.mul_le_mul hge ih
/-- numbers ≥ 2 without common divisors -/
structure Cop (l : List Nat) : Prop where
  two : ∀ b ∈ l, 2 ≤ b
  cop : l.Pairwise fun a b => Nat.gcd a b = 1
theorem Cop.nodup {l : List Nat} (h : Cop l) : l.Nodup := by
  have z : l.Pairwise fun a b => 2 ≤ a ∧ Nat.gcd a b = 1 := h.cop.imp_of_mem fun {a b} ha _ hab => ⟨h.two a ha, hab⟩
  exact z.imp fun {a b} ⟨h1, h2⟩ e => by subst e; rw [Nat.gcd_self] at h2; omega
theorem Cop.filter {l : List Nat} (h : Cop l) (p : Nat → Bool) : Cop (l.filter p) := ⟨fun b hb => h.two b (List.mem_filter.mp hb).1, h.cop.filter p⟩
theorem Cop.get {l : List Nat} (h : Cop l) {a b : Nat} (ha : a ∈ l) (hb : b ∈ l) (hne : a ≠ b) : Nat.gcd a b = 1 := by
  induction l with
  | nil => simp at ha
  | cons x r ih =>
    have hc := List.pairwise_cons.mp h.cop
    have hr : Cop r := ⟨fun b hb => h.two b (by simp [hb]), hc.2⟩
    simp at ha hb
    rcases ha with rfl | ha
    · rcases hb with rfl | hb
      · exact absurd rfl hne
      · exact hc.1 b hb
    · rcases hb with rfl | hb
      · rw [Nat.gcd_comm]; exact hc.1 a ha
      · exact ih hr ha hb
/-- at most one of them is divided by p -/
theorem Cop.one {l : List Nat} (h : Cop l) (p : Nat) (hp : 2 ≤ p) : l.length ≤ (l.filter fun b => decide (b % p ≠ 0)).length + 1 := by
  induction l with
  | nil => simp
  | cons x r ih =>
    have hc := List.pairwise_cons.mp h.cop
    have hr : Cop r := ⟨fun b hb => h.two b (by simp [hb]), hc.2⟩
    by_cases q : x % p = 0
    · have : r.filter (fun b => decide (b % p ≠ 0)) = r := by
        rw [List.filter_eq_self]
        intro y hy
        refine decide_eq_true fun e => ?_
        have h1 : p ∣ Nat.gcd x y := Nat.dvd_gcd (Nat.dvd_of_mod_eq_zero q) (Nat.dvd_of_mod_eq_zero e)
        rw [hc.1 y hy] at h1
        have := Nat.le_of_dvd (by decide) h1
        omega
      rw [List.filter_cons_of_neg (by simp [q]), this, List.length_cons]
      omega
    · rw [List.filter_cons_of_pos (by simp [q]), List.length_cons, List.length_cons]
      have := ih hr
      omega
theorem prod_le_filter (p : Nat → Bool) : ∀ {l : List Nat}, (∀ x ∈ l, 0 < x) → prod (l.filter p) ≤ prod l
  | [], _ => by simp [prod]
  | x :: r, h => by
    have ih := prod_le_filter p (l := r) fun y hy => h y (by simp [hy])
    have hx := h x (by simp)
    by_cases q : p x = true
    · rw [List.filter_cons_of_pos q, prod, prod]
      exact Nat.mul_le_mul_left _ ih
    · rw [List.filter_cons_of_neg q, prod]
      have := Nat.mul_le_mul hx ih
      omega
theorem prod_third : ∀ {l : List Nat}, (∀ x ∈ l, 3 * (x / 3) ≤ x) → 3 ^ l.length * prod (l.map fun x => x / 3) ≤ prod l
  | [], _ => by simp [prod]
  | x :: r, h => by
    have ih := prod_third (l := r) fun y hy => h y (by simp [hy])
    have hx := h x (by simp)
    rw [List.length_cons, List.map_cons, prod, prod, Nat.pow_succ]
    have := Nat.mul_le_mul hx ih
    have e : 3 ^ r.length * 3 * (x / 3 * prod (r.map fun x => x / 3)) = 3 * (x / 3) * (3 ^ r.length * prod (r.map fun x => x / 3)) := by
      simp only [Nat.mul_assoc, Nat.mul_left_comm, Nat.mul_comm]
    omega
theorem Cop.count {l : List Nat} (h : Cop l) {n : Nat} (hn : prod l < 3 ^ n * fac n) : l.length < n + 2 := by
  have c2 := h.filter fun b => decide (b % 2 ≠ 0)
  have c3 := c2.filter fun b => decide (b % 3 ≠ 0)
  have l2 := h.one 2 (by decide)
  have l3 := c2.one 3 (by decide)
  generalize hm : ((l.filter fun b => decide (b % 2 ≠ 0)).filter fun b => decide (b % 3 ≠ 0)) = m at c3 l3
  have hmod : ∀ x ∈ m, 2 ≤ x ∧ x % 2 ≠ 0 ∧ x % 3 ≠ 0 := fun x hx => by
    refine ⟨c3.two x hx, ?_⟩
    rw [← hm] at hx
    obtain ⟨a, b⟩ := List.mem_filter.mp hx
    obtain ⟨_, c⟩ := List.mem_filter.mp a
    exact ⟨of_decide_eq_true c, of_decide_eq_true b⟩
  have nd : (m.map fun x => x / 3).Nodup := by
    rw [List.nodup_iff_pairwise_ne, List.pairwise_map]
    refine c3.nodup.imp_of_mem fun {a b} ha hb hab e => hab ?_
    have := hmod a ha
    have := hmod b hb
    omega
  have f1 := fac_le m.length (m.map fun x => x / 3) (by simp) nd fun y hy => by
    obtain ⟨x, hx, rfl⟩ := List.mem_map.mp hy
    have := hmod x hx
    omega
  have f2 := prod_third (l := m) fun x _ => Nat.mul_div_le x 3
  have f3 : prod m ≤ prod l := by
    rw [← hm]
    exact Nat.le_trans (prod_le_filter _ fun x hx => by have := c2.two x hx; omega) (prod_le_filter _ fun x hx => by have := h.two x hx; omega)
  have f4 : 3 ^ m.length * fac m.length < 3 ^ n * fac n := Nat.lt_of_le_of_lt (Nat.le_trans (Nat.mul_le_mul_left _ f1) (Nat.le_trans f2 f3)) hn
  have mono : ∀ d, 3 ^ n * fac n ≤ 3 ^ (n + d) * fac (n + d) := by
    intro d
    induction d with
    | zero => exact Nat.le_refl _
    | succ d ih =>
      refine Nat.le_trans ih (Nat.mul_le_mul (Nat.pow_le_pow_right (by decide) (by omega)) ?_)
      show fac (n + d) ≤ (n + d + 1) * fac (n + d)
      have := Nat.mul_le_mul_right (fac (n + d)) (show 1 ≤ n + d + 1 by omega)
      omega
  have : m.length < n := by
    apply Classical.byContradiction
    intro hc
    have := mono (m.length - n)
    rw [show n + (m.length - n) = m.length by omega] at this
    omega
  omega
/-- numbers without common divisors whose prime factors divide L: not many -/
theorem Cop.prod_dvd : ∀ {l : List Nat} {L : Nat}, Cop l → (∀ x ∈ l, x ∣ L) → prod l ∣ L
  | [], L, _, _ => Nat.one_dvd L
  | x :: r, L, h, hd => by
    have hc := List.pairwise_cons.mp h.cop
    have hr : Cop r := ⟨fun b hb => h.two b (by simp [hb]), hc.2⟩
    have ih := Cop.prod_dvd hr fun y hy => hd y (by simp [hy])
    have co : ∀ l : List Nat, (∀ y ∈ l, Nat.gcd x y = 1) → Nat.Coprime x (prod l) := by
      intro l
      induction l with
      | nil => intro _; exact Nat.coprime_one_right x
      | cons a r ih => intro h; exact Nat.Coprime.mul_right (h a (by simp)) (ih fun y hy => h y (by simp [hy]))
    exact Nat.Coprime.mul_dvd_of_dvd_of_dvd (co r hc.1) (hd x (by simp)) ih
def Pw (L x : Nat) : Prop := ∃ n, x ∣ L ^ n
theorem Pw.dc (L : Nat) : Dc (Pw L) := fun a b h _ ⟨n, hn⟩ => ⟨n, Nat.dvd_trans h hn⟩
theorem Pw.mul {L a b : Nat} (ha : Pw L a) (hb : Pw L b) : Pw L (a * b) := by
  obtain ⟨n, hn⟩ := ha
  obtain ⟨m, hm⟩ := hb
  exact ⟨n + m, by rw [Nat.pow_add]; exact Nat.mul_dvd_mul hn hm⟩
theorem gcd_pow_one {x L : Nat} (h : Nat.gcd x L = 1) : ∀ n, Nat.gcd x (L ^ n) = 1
  | 0 => by rw [Nat.pow_zero]; exact Nat.gcd_one_right x
  | n + 1 => by rw [Nat.pow_succ]; exact Nat.Coprime.mul_right (gcd_pow_one h n) h
theorem Cop.few {l : List Nat} (h : Cop l) {L : Nat} (hL : 0 < L) (hp : ∀ x ∈ l, Pw L x) {n : Nat} (hn : L < 3 ^ n * fac n) : l.length < n + 2 := by
  have g2 : ∀ x ∈ l, 2 ≤ Nat.gcd x L := fun x hx => by
    have h1 : 0 < Nat.gcd x L := Nat.gcd_pos_of_pos_right _ hL
    obtain ⟨k, hk⟩ := hp x hx
    apply Classical.byContradiction
    intro hc
    have e : Nat.gcd x L = 1 := by omega
    have := gcd_pow_one e k
    rw [Nat.gcd_eq_left hk] at this
    have := h.two x hx
    omega
  have c : Cop (l.map fun x => Nat.gcd x L) := by
    refine ⟨fun b hb => ?_, ?_⟩
    · obtain ⟨x, hx, rfl⟩ := List.mem_map.mp hb
      exact g2 x hx
    · rw [List.pairwise_map]
      refine h.cop.imp fun {a b} hab => ?_
      exact Nat.Coprime.coprime_dvd_left (Nat.gcd_dvd_left a L) (Nat.Coprime.coprime_dvd_right (Nat.gcd_dvd_left b L) hab)
  have hd := c.prod_dvd (L := L) fun x hx => by
    obtain ⟨y, _, rfl⟩ := List.mem_map.mp hx
    exact Nat.gcd_dvd_right y L
  have := c.count (Nat.lt_of_le_of_lt (Nat.le_of_dvd hL hd) hn)
  simpa using this
end Cb
namespace Cb
/-- the part of a number that is no power of b -/
theorem Gen.nil {n : Nat} (h : Gen [] n) : n = 1 := by
  cases h with
  | one => rfl
  | mul h _ => simp at h
theorem Gen.split {b : Nat} {r : List Nat} {n : Nat} (h : Gen (b :: r) n) : ∃ k m, n = b ^ k * m ∧ Gen r m := by
  induction h with
  | one => exact ⟨0, 1, by simp, .one⟩
  | mul hx _ ih =>
    obtain ⟨k, m, rfl, hm⟩ := ih
    simp at hx
    rcases hx with rfl | hx
    · exact ⟨k + 1, m, by rw [Nat.pow_succ, ← Nat.mul_assoc, Nat.mul_comm _ (_ ^ k)], hm⟩
    · exact ⟨k, _, by rw [Nat.mul_left_comm], .mul hx hm⟩
theorem Gen.cop {b : Nat} {r : List Nat} {n : Nat} (h : Gen r n) (hc : ∀ x ∈ r, Nat.gcd b x = 1) : Nat.gcd b n = 1 := by
  induction h with
  | one => exact Nat.gcd_one_right b
  | mul hx _ ih => exact Nat.Coprime.mul_right (hc _ hx) ih
theorem Gen.pos {r : List Nat} {n : Nat} (h : Gen r n) (hp : ∀ x ∈ r, 2 ≤ x) : 0 < n := by
  induction h with
  | one => decide
  | mul hx _ ih => exact Nat.mul_pos (by have := hp _ hx; omega) ih
theorem pow_lt_of {b k m s : Nat} (hb : 2 ≤ b) (hm : 0 < m) (h : b ^ k * m < 2 ^ s) : k < s := by
  have h1 : 2 ^ k ≤ b ^ k := Nat.pow_le_pow_left hb k
  have h2 : 2 ^ k ≤ b ^ k * m := Nat.le_trans h1 (Nat.le_mul_of_pos_right _ hm)
  exact (Nat.pow_lt_pow_iff_right (by decide)).mp (Nat.lt_of_le_of_lt h2 h)
end Cb
/-! AS12: lists of natural numbers in the state; sorted ones. -/
namespace AS
open PySem PySem.Spec PyProof.Rows L2
def nE (l : List Nat) : List En := l.map fun o : Nat => .dat (.int (o : Int))
def zI (l : List Nat) : List Int := l.map fun o : Nat => (o : Int)
theorem nE_eq (l : List Nat) : nE l = ((zI l).map D.int).map En.dat := by simp [nE, zI]
theorem nE_eq2 (l : List Nat) : nE l = (l.map fun o : Nat => D.int (o : Int)).map En.dat := by simp [nE]
theorem nE_append (a b : List Nat) : nE (a ++ b) = nE a ++ nE b := by simp [nE]
theorem nE_length (a : List Nat) : (nE a).length = a.length := by simp [nE]
theorem zI_flat (l : List Nat) : ((zI l).map D.int).all (D.flat 9) = true := by simp [D.flat]
theorem zI_mem {x : Nat} {l : List Nat} : (x : Int) ∈ zI l ↔ x ∈ l := by
  unfold zI
  rw [List.mem_map]
  exact ⟨fun ⟨a, h, e⟩ => by have : a = x := by omega
                             subst this; exact h, fun h => ⟨x, h, rfl⟩⟩
theorem fdiv_nat (a b : Nat) : Int.fdiv (a : Int) (b : Int) = ((a / b : Nat) : Int) := by
  rw [Int.fdiv_eq_ediv_of_nonneg _ (by omega)]; rfl
theorem fmod_nat (a b : Nat) : Int.fmod (a : Int) (b : Int) = ((a % b : Nat) : Int) := by
  rw [Int.fmod_eq_emod_of_nonneg _ (by omega)]; rfl
theorem lstE_ptr {W : List Cn} {i : Nat} {l : List En} (h : W[i]? = some (.lst l)) : LstE W (.ptr i) = some l := by simp only [LstE, h]
theorem lstH_ptr {W : List Cn} {i : Nat} {l : List En} (h : W[i]? = some (.lst l)) : LstH W (.ptr i) = some l := by simp only [LstH, h]
theorem seqE_ptr {W : List Cn} {i : Nat} {l : List En} (h : W[i]? = some (.lst l)) : SeqE W (.ptr i) = some l := by simp only [SeqE, lstE_ptr h]
def srt (l : List Nat) : List Nat := l.mergeSort
theorem srt_perm (l : List Nat) : (srt l).Perm l := List.mergeSort_perm _ _
theorem srt_le (l : List Nat) : (srt l).Pairwise (· ≤ ·) := by
  have := List.pairwise_mergeSort (le := fun a b : Nat => decide (a ≤ b)) (fun a b c h1 h2 => by simp at *; omega) (fun a b => by simp; omega) l
  exact this.imp fun h => by simpa using h
theorem srt_uni (l : List Nat) (ns : List Int) (h1 : ns.Perm (zI l)) (h2 : ns.Pairwise (· ≤ ·)) : ns = zI (srt l) := by
  have p : ns.Perm (zI (srt l)) := h1.trans ((srt_perm l).symm.map (fun o : Nat => (o : Int)))
  have q : (zI (srt l)).Pairwise (· ≤ ·) := by
    unfold zI
    rw [List.pairwise_map]
    exact (srt_le l).imp fun h => by omega
  exact p.eq_of_pairwise (fun a b _ _ h3 h4 => by omega) h2 q
section
variable {K : PySem.W.Frag} {es : List En} {W W1 : List Cn} {ta : TE}
/-- x is None, x told by what holds of it -/
theorem et_isNP {b : Bool} (h : EVp K ta es W fun e w => w = W1 ∧ ∃ d, e = .dat d ∧ d.isN = b) : ET K (tTest (tOp (fun x y H Q => y = .non ∧ Q (.bl (decide (x = .non))) H) ta (tC .non))) es W b W1 := fun F Hb H σ as S Q k =>
  h F Hb H σ as S _ fun v Hb1 H1 as1 e w hp g s S1 r => by
    obtain ⟨rfl, d, rfl, hb⟩ := hp
    have r : Dt K Hb1 v d := r
    show V.non = V.non ∧ ∃ k, V.bl (decide (v = .non)) = .bl k ∧ Q k H1
    refine ⟨rfl, _, rfl, ?_⟩
    rw [r.isN, hb]
    exact k Hb1 H1 as1 g s S1
end
/-- what `refined` tells -/
structure Bs (ns ms : List Nat) : Prop where
  asc : ms.Pairwise (· < ·)
  two : ∀ b ∈ ms, 2 ≤ b
  cop : ms.Pairwise fun a b => Nat.gcd a b = 1
  gen : ∀ n ∈ ns, Cb.Gen ms n
  her : ∀ p : Nat → Prop, Cb.Dc p → (∀ n ∈ ns, p n) → ∀ x ∈ ms, p x
theorem Bs.of {ns base : List Nat} (h : Cb.Inv ns base []) : Bs ns (srt base) := by
  have pm := srt_perm base
  have c : Cb.Cop base := ⟨h.two, h.cop⟩
  refine ⟨?_, fun b hb => h.two b (pm.mem_iff.mp hb), (pm.pairwise_iff fun {x y} e => by rw [Nat.gcd_comm]; exact e).mpr h.cop, fun n hn => (h.gen n hn).trans fun x hx => .mem (pm.mem_iff.mpr (by simpa using hx)), fun p dp hp x hx => h.her p dp hp x (by simpa using pm.mem_iff.mp hx)⟩
  have nd : (srt base).Nodup := pm.nodup_iff.mpr c.nodup
  exact ((srt_le base).and nd).imp fun ⟨h1, h2⟩ => by omega
end AS
/-! X1: an exception of a callee that leaves a list comprehension (the library's blocks let none out). -/
namespace XC
open PySem PySem.Spec PyProof.Rows L2
/-- a callee of the block Y let an exception out that EB tells of -/
def Let (Y : Cx) (EB : XK) (u : Value) (s' : Shared) : Prop :=
  ∃ (pins : List (Addr × Obj)) (σ : L2.St) (H : Hp) (s : Shared), Inv Y pins σ H s ∧ L2.CX Y.prog Y.w Y.stack H s EB u s'
theorem Let.passes {Y : Cx} {EB : XK} : Passes (L2.CX Y.prog Y.w) (Y.wish (Let Y EB)) EB := fun pins σ H s _ _ I c => ⟨pins, σ, H, s, I.unwish, c⟩
/-- a frame is no address that lies higher -/
theorem frs_lt {X : Cx} {pins : List (Addr × Obj)} {σ : L2.St} {H : Hp} {s : Shared} (I : Inv X pins σ H s) {b : Addr} (hb : b ∈ frs X.stack) : b < s.heap.objs.size := by
  obtain ⟨_, o, ho, _⟩ := I.stack.mem hb
  exact Heap.lt_size ho
/-- it leaves the block: noted in the def's frame, the block's names let go, in the def's air -/
theorem block_fails {X : Cx} {pins : List (Addr × Obj)} {σ : L2.St} {H3 : Hp} {s3 : Shared} {scope : Scope} {ce : Env} {fp : List Addr} {EB : XK} {W : WX} {u : Value} {s' : Shared}
    (hst : X.stack = X.env :: X.outer) (hfr : X.env.frame = some X.env.locals) (tk : Takes X W) (hW : ∀ c d H, EB c d H → W c d σ H) (I3 : Inv X pins σ H3 s3) (hfp : ∀ b ∈ fp, FpOk X pins H3 b)
    (hC : ce.locals = s3.heap.objs.size) (hcf : ce.frame = X.env.frame) (hu : Let (X.blk s3 H3 scope ce fp) EB u s') :
    notedBy (model X.prog X.w) X.A ce (CompFails (model X.prog X.w) X.A X.xe ce) u s' := by
  obtain ⟨pins', σ', H1, s, I, a, B, H2, cls, d, rfl, fl, hok, ub, na, os, ag, hE⟩ := hu
  have below : ∀ b o, s3.heap.get? b = some o → b ≠ ce.locals := fun b o e => by
    rw [hC]; exact Nat.ne_of_lt (Heap.lt_size e)
  have Cfr : ce.locals ∉ frs X.stack := fun h => by
    have := frs_lt I3 h
    rw [hC] at this
    exact Nat.lt_irrefl _ this
  obtain ⟨m, ⟨oC, esC, epC, hoC, hdC, hsC⟩, _⟩ := I.loc
  have hoC : s.heap.get? ce.locals = some oC := hoC
  have nC1 : H1 ce.locals = none := I.free
  have nC2 : H2 ce.locals = none := ub.free _ _ hoC nC1
  have BC : B.get? ce.locals = some oC := ub.keep _ _ hoC nC1 Cfr
  have hoC' : s'.heap.get? ce.locals = some oC := fl.1 _ _ BC
  have nsC : s'.heap.Ns ce.locals m := ⟨oC, esC, epC, hoC', hdC, hsC⟩
  -- the ground without the block's names
  obtain ⟨B', hB', hBn⟩ := restrict B fun b => decide (b ≠ ce.locals)
  have toB : ∀ b o, B'.get? b = some o → B.get? b = some o ∧ b ≠ ce.locals := fun b o e => by
    by_cases q : b = ce.locals
    · rw [hBn b (by simp [q])] at e; cases e
    · rw [hB' b (by simp [q])] at e; exact ⟨e, q⟩
  have inB : ∀ b o, B.get? b = some o → b ≠ ce.locals → B'.get? b = some o := fun b o e q => by rw [hB' b (by simp [q])]; exact e
  have noB : ∀ b, B.get? b = none → B'.get? b = none := fun b e => by
    cases q : B'.get? b with
    | none => rfl
    | some o => rw [(toB b o q).1] at e; cases e
  -- the state that the def has behind it
  obtain ⟨G, g1, g2⟩ := restrict s'.heap fun b => decide (b ≠ ce.locals) && ((B.get? b).isSome || decide (b ∈ frs X.stack))
  have gB : ∀ b o, B.get? b = some o → b ≠ ce.locals → G.get? b = some o := fun b o e q => by
    rw [g1 b (by simp [e, q])]; exact fl.1 b o e
  have gF : ∀ b, b ∈ frs X.stack → G.get? b = s'.heap.get? b := fun b hb => g1 b (by simp [hb]; rintro rfl; exact Cfr hb)
  have gO : ∀ b o, G.get? b = some o → s'.heap.get? b = some o ∧ b ≠ ce.locals ∧ ((B.get? b).isSome = true ∨ b ∈ frs X.stack) := fun b o e => by
    cases q : (decide (b ≠ ce.locals) && ((B.get? b).isSome || decide (b ∈ frs X.stack))) with
    | false => rw [g2 b q] at e; cases e
    | true =>
      rw [g1 b q] at e
      rw [Bool.and_eq_true, Bool.or_eq_true] at q
      exact ⟨e, of_decide_eq_true q.1, q.2.imp id of_decide_eq_true⟩
  have U : Un (frs X.stack) fp H3 H1 s3.heap s.heap := I.base
  have J : Inv X pins σ H2 { s3 with heap := G, gens := s'.gens, toks := s'.toks, drawn := s'.drawn } := by
    refine I3.call' (ch := fp) rfl ⟨fun b o e n hb hx => ?_, fun b o e n hb hx => ?_, fun b o e n hx => ?_, fun b o e hx => ?_, fun b xs e => ub.tups _ _ (U.tups _ _ e), fun b o xs e => ub.frzs _ _ _ (U.frzs _ _ _ e), fun b ps e => ?_⟩ (fun b o q => ?_) ag fun b hb => ?_
    · exact gB b o (ub.keep b o (U.keep b o e n hb hx) (U.free b o e n hx) hb) (below b o e)
    · obtain ⟨sl, q⟩ := U.slot b o e n hb hx
      obtain ⟨sl', q'⟩ := ub.slot b _ q hb
      exact ⟨sl', by show G.get? b = _; rw [gF b hb]; exact q'⟩
    · obtain ⟨o', q⟩ := U.there b o e hx
      exact ub.free b o' q (U.free b o e n hx)
    · obtain ⟨o', q⟩ := U.there b o e hx
      by_cases hb : b ∈ frs X.stack
      · obtain ⟨sl, q'⟩ := ub.slot b _ q hb
        exact ⟨_, by show G.get? b = _; rw [gF b hb]; exact q'⟩
      · obtain ⟨o'', q'⟩ := ub.there b _ q hb
        exact ⟨o'', gB b _ q' (below b o e)⟩
    · obtain ⟨m1, e1⟩ := U.tbls b ps e
      obtain ⟨m2, e2⟩ := ub.tbls b _ e1
      exact ⟨m1 ++ m2, by rw [e2, Array.append_assoc]⟩
    · refine (hok b o q).stay (fun c v hc r => gB c v r ?_) (fun _ r => r) fun _ _ r => r
      rintro rfl
      rcases hc with hc | hc
      · rw [hc, q] at nC2; cases nC2
      · rw [hc] at nC2; cases nC2
    · obtain ⟨_, f1, f2, f3, f4, f5⟩ := hfp b hb
      exact ⟨f3, f1, f4, f5⟩
  obtain ⟨st, nB, ff, oe, vs, Tr, oT, ts, he, hz, hd, h1, hnT, hTe, hT, hdT, h3⟩ := fl
  rw [show (X.blk s3 H3 scope ce fp).stack = X.stack from rfl, hst] at ff
  have fl' : HandSPX.FlyingZ B' (X.env :: X.outer) a (Zc cls d) s'.heap := by
    refine ⟨fun b o e => st b o (toB b o e).1, noB _ nB, funFrames_none ff fun b hb => noB _ ?_, oe, vs, Tr, oT, ts, he, hz, hd, h1, noB _ hnT, hTe, hT, hdT, h3⟩
    obtain ⟨hn, _⟩ := ff.mem hb
    exact hn
  show wpAny _ _ (noteFrame (.ref a) ce) _ _ _
  rw [noteFrame_env _ hcf]
  refine HandSPX.looks_onZ Zc.steady (by rw [I3.ok.frames, hst]) hfr fl' fun h4 hh up4 => ?_
  obtain ⟨slC, hoC4⟩ := up4 _ _ hoC' fun vs q => by rw [hdC] at q; cases q
  refine ⟨m, ⟨_, esC, epC, hoC4, hdC, hsC⟩, fun h5 m5 ns5 sb5 => ?_⟩
  obtain ⟨k1, k2, k3, oe4, vs4, T4, oT4, ts4, he4, hz4, hd4, h14, hnT4, hTe4, hT4, hdT4, h34⟩ := hh
  have ne4 : ∀ {b : Addr} {o : Obj} {f : Array Value}, h4.get? b = some o → o.data = .fields f → b ≠ ce.locals := fun {b o f} e q z => by
    subst z
    rw [hoC4] at e; cases e
    rw [show ({ oC with slots := slC } : Obj).data = oC.data from rfl, hdC] at q; cases q
  have he5 : h5.get? a = some oe4 := (sb5.2 a (ne4 he4 hd4)).trans he4
  have hT5 : h5.get? T4 = some oT4 := (sb5.2 T4 (ne4 hT4 hdT4)).trans hT4
  have hh5 : HandSPX.HeldZ B' (X.env :: X.outer) a (Zc cls d) X.env.locals h5 :=
    ⟨fun b o e => (sb5.2 b (toB b o e).2).trans (k1 b o e), k2, Heap.FunFrames.sameBut sb5 ns5 k3, oe4, vs4, T4, oT4, ts4, he5, hz4, hd4, h14, hnT4, hTe4, hT5, hdT4, h34⟩
  unfold PySem.passOn
  refine wpAny_bind (wpAny_field he5 hd4 h14 ?_)
  rw [if_neg (by simp), hcf, hfr]
  refine wpAny_bind (HandSPX.setFlight_onZ hh5 fun h6 hh6 up6 => wpAny_throw (tk _ _ ?_))
  refine ⟨a, B', _, pins, σ, H2, cls, d, rfl, J, fun b o e hb => ?_, fun b o e nf => ?_, .inr (.inr ?_), na, os.trans I.os, ag, hW _ _ _ hE⟩
  · obtain ⟨e', hq, hx⟩ := gO b o e
    rcases hx with hx | hx
    · obtain ⟨o', q⟩ := Option.isSome_iff_exists.mp hx
      have z := st b o' q
      rw [e'] at z; cases z
      exact inB b o q hq
    · exact absurd hx hb
  · obtain ⟨e', hq, _⟩ := gO b o e
    obtain ⟨sl, e4⟩ := up4 b o e' nf
    obtain ⟨sl', e6⟩ := up6 b { o with slots := sl } ((sb5.2 b hq).trans e4) nf
    exact ⟨sl', e6⟩
  · rw [hst]; exact hh6
/-- as the library's rule, but what the element's callee lets out goes on -/
theorem lcx_core {X : Cx} {pins : List (Addr × Obj)} {s : Shared} {σ : L2.St} {H : Hp} {Q : VK} {elt tg iter : Expr} {ifs : List Expr} {scope : Scope} {own : List (Str × Nat)} {pos pos' : Pos} {wi : TI} {g : TG} {tt : TT} {te : TE} {use : Option (Value → Sem Unit)} {Qf : Value → Shared → Prop} {EB : XK} {W : WX}
    (hst : X.stack = X.env :: X.outer) (hfr : X.env.frame = some X.env.locals) (tk : Takes X W) (hW : ∀ c d H, EB c d H → W c d σ H)
    (hc : X.calm = true) (hN : X.N.Nodup) (I : Inv X pins σ H s) (hi : PI X tg iter wi) (ok : BlkOk X.N X.env.scope scope own)
    (hg : ∀ (s : Shared) (H : Hp) (C : Addr) (cl : List (Str × Addr)) (fp : List Addr), PG (X.blk s H scope (compEnvC scope cl C X.env) fp) tg g)
    (ht : ∀ (s : Shared) (H : Hp) (C : Addr) (cl : List (Str × Addr)) (fp : List Addr), PTs (X.blk s H scope (compEnvC scope cl C X.env) fp) ifs tt)
    (he : ∀ (s : Shared) (H : Hp) (C : Addr) (cl : List (Str × Addr)) (fp : List Addr), PE ((X.blk s H scope (compEnvC scope cl C X.env) fp).wish (Let (X.blk s H scope (compEnvC scope cl C X.env) fp) EB)) elt te)
    (hs : ∀ x, foldedSetIterable iter X.env x = pure x) (h : tLc wi g tt te (own.map (·.2)) σ H Q)
    (end_ok : ∀ D ce s' m H', Inv X pins σ H' s' → Q (.ref D) H' → s'.heap.Ns ce.locals m → FpOk X pins H' ce.locals → compEnds (model X.prog X.w) X.A X.xe use Qf (.ref D) ce (.ok .next) s') :
    wpAny (model X.prog X.w) X.A (comprehension (.ListComp elt [⟨tg, iter, ifs, 0⟩] scope pos) scope X.env pos' (newList []) false (eval iter X.env) use) Qf X.xe s := by
  have clo : ∀ y ∈ scope.names, y.2 = .free → ∃ c, X.env.cells.lookup y.1 = some c := fun y hy q => I.ok.has _ (ok.free y hy q)
  have nm : ∀ y ∈ scope.names, y.2 = .local → scope.names.lookup y.1 = some .local := fun y hy q => (ok.uniq y hy).trans (by rw [q])
  refine comprehension_at (use := use) rfl hs (closure_ok clo) ok.kind nm (thn (hi.run pins s σ H _ I h) fun _ _ came => thn came fun _ s2 came2 => ?_)
  obtain ⟨it, fp, tn, J, H2, rfl, I2, T, st2, f2, body⟩ := came2
  refine wpAny_newObj_type (newEnv_comp ?_) (Nat.zero_le _)
  obtain ⟨D, eD⟩ : ∃ D, s2.heap.objs.size = D := ⟨_, rfl⟩
  rw [eD]
  obtain ⟨Wt, ⟨m0, w0⟩, turn⟩ := body D (I2.hok.fresh (Nat.le_of_eq eD))
  obtain ⟨s3, e3⟩ : ∃ s3 : Shared, s3 = { s2 with heap := s2.heap.push { cls := .type "list", data := .seq ([] : List Value).toArray } } := ⟨_, rfl⟩
  have old3 : ∀ b o, s2.heap.get? b = some o → s3.heap.get? b = some o := fun b o q => by
    rw [e3]; exact Heap.get?_push_of_some _ q
  have I3 : Inv X pins σ (upd H2 D (.lst [])) s3 := by
    rw [e3]
    exact I2.laid (t' := s2.toks) (fun b o q => Heap.get?_push_of_some _ q) (Nat.le_of_eq eD) ⟨Nat.zero_le _, [], 0, .nil, by rw [← eD]; exact Heap.get?_push_size _ rfl⟩
  have f3 : ∀ b ∈ fp, FpOk X pins (upd H2 D (.lst [])) b ∧ b < s3.heap.objs.size := fun b hb => by
    obtain ⟨o, q, _⟩ := T.obj _ _ st2 b hb
    have lt := Heap.lt_size q
    exact ⟨⟨(upd_ne (by rw [← eD]; exact Nat.ne_of_lt lt)).trans (f2 b hb).1, (f2 b hb).2⟩, Heap.lt_size (old3 b o q)⟩
  have st3 : tn 0 s3.heap := T.keep _ _ _ st2 fun b _ => old3 b
  rw [← e3]
  obtain ⟨cl, ecl⟩ : ∃ cl, cellsFrom (s3.heap.objs.size + 1) scope.names (cloFrom X.env.cells scope.names []) = cl := ⟨_, rfl⟩
  have I4 := block_start I3 ok hN f3
  have nfp : ∀ b ∈ fp, (upd H2 D (.lst [])) b = none := fun b hb => (f3 b hb).1.1
  show codeAny _ _ (.compStart (.ListComp elt [⟨tg, iter, ifs, 0⟩] scope pos) 0 (.ref it) (.ref D) (compEnvC scope (cellsFrom (s3.heap.objs.size + 1) scope.names (cloFrom X.env.cells scope.names [])) s3.heap.objs.size X.env))
    (compEnds (model X.prog X.w) X.A X.xe use Qf (.ref D) (compEnvC scope (cellsFrom (s3.heap.objs.size + 1) scope.names (cloFrom X.env.cells scope.names [])) s3.heap.objs.size X.env)) { s3 with heap := pushCells (s3.heap.push { cls := .type "dict", data := .dict #[] }) scope.names }
  rw [ecl] at I4 ⊢
  have pg := hg s3 (upd H2 D (.lst [])) s3.heap.objs.size cl fp
  have pt := ht s3 (upd H2 D (.lst [])) s3.heap.objs.size cl fp
  have pe := he s3 (upd H2 D (.lst [])) s3.heap.objs.size cl fp
  obtain ⟨H3, eH⟩ : ∃ H3, upd H2 D (.lst []) = H3 := ⟨_, rfl⟩
  rw [eH] at I3 I4 pg pt pe w0 nfp f3
  obtain ⟨ce, ece⟩ : ∃ ce, compEnvC scope cl s3.heap.objs.size X.env = ce := ⟨_, rfl⟩
  have ceC : ce.locals = s3.heap.objs.size := by rw [← ece]; rfl
  have ceF : ce.frame = X.env.frame := by rw [← ece]; rfl
  rw [ece] at I4 pg pt pe ⊢
  obtain ⟨s4, e4⟩ : ∃ s4 : Shared, s4 = { s3 with heap := pushCells (s3.heap.push { cls := .type "dict", data := .dict #[] }) scope.names } := ⟨_, rfl⟩
  rw [← e4] at I4 ⊢
  have st4 : tn 0 s4.heap := T.keep _ _ _ st3 fun b _ o q => by rw [e4]; exact pushCells_keeps _ _ _ _ (Heap.get?_push_of_some _ q)
  have fpY : ∀ {σ' : L2.St} {H' : Hp} {s' : Shared}, Inv (X.blk s3 H3 scope ce fp) [] σ' H' s' → (∀ b ∈ fp, H' b = none) → ∀ b ∈ fp, FpOk (X.blk s3 H3 scope ce fp) [] H' b := fun I' nn b hb =>
    ⟨nn b hb, (I'.ok.exf b hb).1, I'.ok.exfs b hb, Or.inl hb, (I'.ok.exf b hb).2, fun p hp => by cases hp⟩
  have gone : ∀ {u : Value} {s' : Shared}, Let (X.blk s3 H3 scope ce fp) EB u s' → notedBy (model X.prog X.w) X.A ce (fun e s'' => compEnds (model X.prog X.w) X.A X.xe use Qf (.ref D) ce (.error e) s'') u s' := fun {u s'} hu => by
    have z := block_fails hst hfr tk hW I3 (fun b hb => (f3 b hb).1) ceC ceF hu
    cases use <;> exact wpAny_mono z (fun _ _ q => q) fun _ _ q => (by
      first
        | exact q
        | skip)
  have loop : codeAny (model X.prog X.w) X.A (.compLoop (.ListComp elt [⟨tg, iter, ifs, 0⟩] scope pos) 0 (.ref it) (.ref D) ce) (compEnds (model X.prog X.w) X.A X.xe use Qf (.ref D) ce) s4 := by
    refine compLoop_any (fun n s' => ∃ i H', Inv (X.blk s3 H3 scope ce fp) [] (wipe σ (own.map (·.2))) H' s' ∧ tn i s'.heap ∧ (∀ b ∈ fp, H' b = none) ∧ Wt i n H') ?_ m0 ⟨0, H3, I4, st4, nfp, w0⟩
    rintro n s5 ⟨i, H5, I5, st5, n5, w5⟩
    rcases turn i n H5 w5 with ⟨halt, wish⟩ | ⟨going, Nx, less, step⟩
    · refine thnF (T.done (X.blk s3 H3 scope ce fp) rfl rfl rfl hc i [] s5 _ H5 (fun _ _ => False) I5 (fpY I5 n5) st5 halt) ?_
      rintro _ s6 ⟨rfl, I6⟩
      have J : Inv X pins σ H5 s6 := I3.call' (ch := fp) I6.os I6.base I6.hok I6.bare fun b hb => by
        obtain ⟨_, q1, q2, q3, q4, q5⟩ := (f3 b hb).1
        exact ⟨q3, q1, q4, q5⟩
      obtain ⟨m, ns, _⟩ := I6.loc
      refine end_ok D ce s6 m H5 J wish ns (I3.fpOk (Nat.le_of_eq ceC.symm) ?_)
      exact I6.free
    · refine thnF (T.item (X.blk s3 H3 scope ce fp) rfl rfl rfl hc i [] s5 _ H5 (fun _ _ => False) I5 (fpY I5 n5) st5 going) ?_
      rintro _ s6 ⟨u, rfl, handed⟩
      refine thnF handed ?_
      rintro _ s7 ⟨x, H7, I7, r7, y7, st7, n7⟩
      refine thnF (pg.run _ s7 _ H7 x u _ (I7.pinned (fpY I7 n7) (T.obj _ _ st7)) r7 (step x H7 y7)) ?_
      rintro _ s8 ⟨σ8, H8, I8, same, tested⟩
      refine thnF (pt.run _ s8 σ8 H8 _ I8 tested) ?_
      rintro b s9 ⟨H9, I9, given⟩
      have on : ∀ {s' : Shared} {H' : Hp}, Inv (X.blk s3 H3 scope ce fp) ([] ++ pinsAt fp s7.heap) σ8 H' s' → Nx H' → ∃ m, m < n ∧ ∃ i H', Inv (X.blk s3 H3 scope ce fp) [] (wipe σ (own.map (·.2))) H' s' ∧ tn i s'.heap ∧ (∀ b ∈ fp, H' b = none) ∧ Wt i m H' := by
        intro s' H' I' nx
        obtain ⟨m', lt, w'⟩ := less H' nx
        have kept : ∀ b ∈ fp, ∀ o, s7.heap.get? b = some o → s'.heap.get? b = some o ∧ H' b = none := fun b hb o q =>
          ⟨(I'.pin (b, o) (List.mem_append_right _ (List.mem_append_right _ (mem_pinsAt hb q)))).1, (I'.pin (b, o) (List.mem_append_right _ (List.mem_append_right _ (mem_pinsAt hb q)))).2.1⟩
        refine ⟨m', lt, i + 1, H', (I'.unpinned (pins := [])).weak (by rw [← same, wipe_length]) (fun j v q => ?_), T.keep _ _ _ st7 fun b hb o q => (kept b hb o q).1, fun b hb => ?_, w'⟩
        · rw [← same] at q
          exact (wipe_some q).1
        · obtain ⟨o, q, _⟩ := T.obj _ _ st7 b hb
          exact (kept b hb o q).2
      cases b with
      | false => exact on I9 given
      | true =>
        refine wpAny_mono (pe.run _ s9 σ8 H9 _ (I9.wish _) given) ?_ fun _ _ q => gone q
        rintro z s10 ⟨yv, H10, I10, r10, acc, at10, small, nx⟩
        exact app_ok (X := X.blk s3 H3 scope ce fp) I10.unwish at10 small r10 fun s11 I11 => on I11 nx
  exact codeAny_compStart_list loop (T.self X.A 0 _ _ _ st4 loop)
/-- as a value -/
theorem pe_lcX {X : Cx} {elt tg iter : Expr} {ifs : List Expr} {scope : Scope} {own : List (Str × Nat)} {pos : Pos} {wi : TI} {g : TG} {tt : TT} {te : TE} {EB : XK} {W : WX}
    (hst : X.stack = X.env :: X.outer) (hfr : X.env.frame = some X.env.locals) (tk : Takes X W) (hW : ∀ c d σ H, EB c d H → W c d σ H)
    (hc : X.calm = true) (hN : X.N.Nodup) (hi : PI X tg iter wi) (ok : BlkOk X.N X.env.scope scope own)
    (hg : ∀ (s : Shared) (H : Hp) (C : Addr) (cl : List (Str × Addr)) (fp : List Addr), PG (X.blk s H scope (compEnvC scope cl C X.env) fp) tg g)
    (ht : ∀ (s : Shared) (H : Hp) (C : Addr) (cl : List (Str × Addr)) (fp : List Addr), PTs (X.blk s H scope (compEnvC scope cl C X.env) fp) ifs tt)
    (he : ∀ (s : Shared) (H : Hp) (C : Addr) (cl : List (Str × Addr)) (fp : List Addr), PE ((X.blk s H scope (compEnvC scope cl C X.env) fp).wish (Let (X.blk s H scope (compEnvC scope cl C X.env) fp) EB)) elt te)
    (hs : ∀ x, foldedSetIterable iter X.env x = pure x := by intro _; rfl) : PE X (.ListComp elt [⟨tg, iter, ifs, 0⟩] scope pos) (tLc wi g tt te (own.map (·.2))) := by
  refine ⟨fun pins s σ H Q I h => ?_⟩
  rw [eval_ListComp]
  refine lcx_core hst hfr tk (fun c d H => hW c d σ H) hc hN I hi ok hg ht he hs h ?_
  intro D ce s' m H' I' q ns far
  refine ⟨m, ns, fun h2 sb => ⟨.ref D, H', ?_, rfl, q⟩⟩
  exact I'.turned (t' := s'.toks) (fun b o ne e => (sb.2 b ne).trans e) far.1 far.2.1 far.2.2.2.1 far.2.2.2.2.1 far.2.2.2.2.2
/-- name = [..] on one line, the name a local -/
theorem ps_setLcX {X : Cx} {i : Nat} {y : Str} {py : Pos} {elt tg iter : Expr} {ifs : List Expr} {scope : Scope} {own : List (Str × Nat)} {pos spos : Pos} {wi : TI} {g : TG} {tt : TT} {te : TE} {EB : XK} {W : WX}
    (hst : X.stack = X.env :: X.outer) (hfr : X.env.frame = some X.env.locals) (tk : Takes X W) (hW : ∀ c d σ H, EB c d H → W c d σ H)
    (hc : X.calm = true) (hN : X.N.Nodup) (hy : X.N[i]? = some y) (hyl : X.env.scope.names.lookup y = some .local)
    (hsw : swapsWith (.ListComp elt [⟨tg, iter, ifs, 0⟩] scope pos) (some (.Name y py)) spos.line X.env = pure true) (hi : PI X tg iter wi) (ok : BlkOk X.N X.env.scope scope own)
    (hg : ∀ (s : Shared) (H : Hp) (C : Addr) (cl : List (Str × Addr)) (fp : List Addr), PG (X.blk s H scope (compEnvC scope cl C X.env) fp) tg g)
    (ht : ∀ (s : Shared) (H : Hp) (C : Addr) (cl : List (Str × Addr)) (fp : List Addr), PTs (X.blk s H scope (compEnvC scope cl C X.env) fp) ifs tt)
    (he : ∀ (s : Shared) (H : Hp) (C : Addr) (cl : List (Str × Addr)) (fp : List Addr), PE ((X.blk s H scope (compEnvC scope cl C X.env) fp).wish (Let (X.blk s H scope (compEnvC scope cl C X.env) fp) EB)) elt te)
    (hs : ∀ x, foldedSetIterable iter X.env x = pure x := by intro _; rfl) : PS X (.Assign [.Name y py] (.ListComp elt [⟨tg, iter, ifs, 0⟩] scope pos) spos) (tAsg (tLc wi g tt te (own.map (·.2))) (gName i)) := by
  refine ⟨fun pins s σ H D I h => ?_⟩
  rw [exec_Assign_Name_used _ _ _ _ hsw]
  refine wpAny_bind (wpAny_standAt (wpAny_bind (wpAny_bind ?_)))
  have h : tLc wi g tt te (own.map (·.2)) σ H (fun x H1 => gName i x σ H1 D.nx) := h
  refine wpAny_mono (lcx_core (use := some (assign (.Name y py) X.env)) (Qf := fun _ s' => SP X pins D .next s') hst hfr tk (fun c d H => hW c d σ H) hc hN I hi ok hg ht he hs h ?_) (fun _ s' q => wpAny_pure (wpAny_pure q)) fun _ _ q => q
  intro L ce s' m H' I' q ns far
  show wpAny _ _ (assign (.Name y py) X.env (.ref L)) _ _ _
  refine wpAny_assign_Name (store_ok2 (v := V.ref L) I' hN hy (.inl hyl) rfl ?_ (.inr hyl))
  rintro s2 I2 ⟨a, sb, ha⟩
  have ne : ce.locals ≠ a := by
    rcases ha with rfl | z
    · exact far.2.1
    · exact fun e => far.2.2.2.2.1 y a z e.symm
  exact ⟨m, ns.sameBut sb ne, fun h3 sb3 => ⟨_, H', I2.turned (t' := s2.toks) (fun b o nb e => (sb3.2 b nb).trans e) far.1 far.2.1 far.2.2.2.1 far.2.2.2.2.1 far.2.2.2.2.2, q⟩⟩
end XC
/-! X2: defs whose bodies ask for repr of lists and tuples: nothing that guards against repr within repr may be under way. -/
namespace XC
open PySem PySem.Spec PyProof.Rows L2
/-- as FnOk, but only where no repr is under way -/
structure FnG (P : Program) (w : World) (K : PySem.W.Frag) (mg : Str → Option Value) (base : Heap) (CX : CXT) (k : Nat) (f : Addr) (fd : FuncData) (ps : List Str) (sp : Sp) : Prop where
  len : ∀ vs H Q E, sp vs H Q E → vs.length = ps.length
  run : ∀ (A : Around) (outer : List Env) (s : Shared) (H : Hp) (args : Args) (us : List Value) (vs : List V) (Q : VK) (E : XK), A.guards = some [] → Room k A → Env0 P w K mg base A outer s H → BindsTo s fd args (ps.zip us) → Vals vs us → sp vs H Q E →
    codeAny (model P w) A (.call (.ref f) args) (CR CX outer P w H s Q E) s
theorem fn_ofG {CX : CXT} {P : Program} {w : World} {K : PySem.W.Frag} {mg : Str → Option Value} {base : Heap} {k : Nat} {f : Addr} {x qual : Str} {st : Stmt} {fd : FuncData} {N ps : List Str} {sp : Sp} (T : Fun K x qual st f fd) (S : FnScope N ps (defScope st))
    (len : ∀ vs H Q E, sp vs H Q E → vs.length = ps.length)
    (hbody : ∀ (cdv : Value) (A : Around) (outer : List Env) (s : Shared) (H : Hp) (vs : List V) (Q : VK) (E : XK), A.guards = some [] → Room k (A.deeper (envOfC qual (defScope st) s.heap.objs.size f cdv)) → sp vs H Q E →
      ∃ t, PSs (cxOf CX P w K mg base N qual (defScope st) f cdv A outer s H E) (defBody st) t ∧ t { nx := fun _ H' => Q .non H', rt := Q } (L2.start N vs) H) : FnG P w K mg base CX (k + 1) f fd ps sp := by
  obtain ⟨oc, od, kV, doc, pm, an, cdv, ct, osl, rfl, lk, hcd⟩ := T.ex
  refine ⟨len, ?_⟩
  intro A outer s H args us vs Q E hg hr e0 hb r hsp
  have stay : ∀ b o, base.get? b = some o → s.heap.get? b = some o := fun b o e => (e0.bs b o e).1
  have lim := e0.mod.nolimit.keeps stay
  have at_ := e0.mod.kin.keeps stay
  have params : ∀ y ∈ ps.zip us, (defScope st).names.lookup y.1 = some .local ∨ ((defScope st).names.lookup y.1 = some .cell ∧ ((cellsFrom (s.heap.objs.size + 1) (defScope st).names []).lookup y.1).isSome = true) := by
    rintro ⟨n, v⟩ hy
    rcases S.par n (List.of_mem_zip hy).1 with q | q
    · exact Or.inl q
    · exact Or.inr ⟨q, PySem.W.cellsFrom_some _ _ _ (Or.inl q)⟩
  refine codeAny_call_function hr.depth (at_ _ _ lk) rfl S.co S.gen rfl (PySem.W.codeRec_of at_ hcd) (hb _ _ _ _ (wpAny_newFunctionEnv_cells S.kind params ?_))
  rintro env rfl s1 x
  refine ⟨lim.keeps x.toInCall.keep, codeAny_func ?_⟩
  obtain ⟨t, ht, hq⟩ := hbody cdv A outer s H vs Q E hg (hr.deeper _) hsp
  refine wpAny_mono (ht.run [] s1 (L2.start N vs) H _ (inv_start S hr.hd e0 (len _ _ _ _ hsp) r x) hq) ?_ fun _ _ q => q
  intro fl s' hs
  cases fl with
  | next => obtain ⟨_, H', J, q⟩ := hs; exact ⟨V.non, H', J.os, J.bare, J.base, J.hok, rfl, q⟩
  | ret u => obtain ⟨v, _, H', J, rv, q⟩ := hs; exact ⟨v, H', J.os, J.bare, J.base, J.hok, rv, q⟩
  | brk => obtain ⟨_, _, _, q⟩ := hs; exact q.elim
  | cont => obtain ⟨_, _, _, q⟩ := hs; exact q.elim
theorem pe_callG {X : Cx} {CX : CXT} {k : Nat} {f : Addr} {fd : FuncData} {ps : List Str} {sp : Sp} {E : XK} {x : Str} {p pos : Pos} {e : Expr} {es : List Expr} {t : TA} (F : FnG X.prog X.w X.K X.mg X.base CX k f fd ps sp) (hgd : X.A.guards = some []) (hr : Room k X.A) (hg : Gl X x)
    (hm : X.mg x = some (.ref f)) (hk : PySem.W.keepIn X.K (.ref f) = true) (hb : Binds X.K fd ps []) (hx : Passes CX X E)
    (ha : PA X (e :: es) t) (hdb : (x == ("__debug__" : Str)) = false := by decide) (he : starEach (e :: es) X.env = (false, eval e X.env) :: starEach es X.env := by rfl) (hpl : (backTo pos (starEach es X.env)).any (·.1) = false := by rfl) :
    PE X (.Call (.Name x p) (e :: es) [] pos) (tCall sp [] E t) := by
  refine ⟨fun pins s σ H Q I h => wpAny_Call_Name_kw (ld_glob I hg hm ?_ hdb)⟩
  refine PySem.W.callWith_K (h₀ := X.base) I.ok.mod.kin hk (thn (ha.run pos pins s σ H _ I h) ?_) he hpl
  rintro us s1 ⟨vs, H1, I1, r, q⟩
  refine ⟨I1.kIn, ?_⟩
  have q : sp (vs ++ []) H1 Q E := q
  rw [List.append_nil] at q
  have hl : (us ++ []).length = ps.length := by rw [List.append_nil, ← r.length]; exact F.len _ _ _ _ q
  have bind := hb s1 us I1.kIn hl
  rw [List.append_nil] at bind
  refine wpAny_call (codeAny_mono (F.run X.A X.stack s1 H1 ⟨us, []⟩ us vs Q E hgd hr I1.env0 bind r q) ?_)
  intro r' s' hq
  match r', hq with
  | .error er, hq => exact hx pins σ H1 s1 er s' I1 hq
  | .ok (.ret u), hq => exact I1.after hq
  | .ok .next, hq => exact hq.elim
  | .ok .brk, hq => exact hq.elim
  | .ok .cont, hq => exact hq.elim
/-- repr of data -/
def rRepr (K : PySem.W.Frag) : List V → Hp → VK → Prop := fun xs H Q => ∃ (v : V) (d : PyData), xs = [v] ∧ Dp K H v d ∧ d.showable = true ∧ d.hasDict = false ∧ d.depth ≤ 9 ∧ d.shown.length ≤ sizeLine ∧ Q (.str d.shown) H
theorem call_repr {X : Cx} (hgd : X.A.guards = some []) (hu : X.A.units + 64 < cLine) : CallR X (.builtin "repr") (rRepr X.K) := by
  rintro pins s σ H _ us Q I r ⟨v, d, rfl, hd, h1, h2, h3, h4, q⟩
  cases r with
  | @cons _ u _ _ ru rn =>
    cases rn
    obtain ⟨as, hr⟩ := Dp.reads I d v u hd ru
    have ends : ∀ t : Tok, EP X pins σ Q (.str d.shown t) { s with toks := s.toks + 1 } := fun t => ⟨.str d.shown, H, I.tok _, ⟨_, rfl⟩, q⟩
    cases hd with
    | non => cases ru; exact PySem.P.repr_of_none (ends _)
    | bl b => cases ru; exact PySem.P.repr_of_bool (ends _)
    | int i =>
      obtain ⟨t, rfl⟩ := ru
      exact PySem.P.repr_of_int (by simpa [PyData.showable] using h1) (ends _)
    | str y =>
      obtain ⟨t, rfl⟩ := ru
      exact PySem.P.repr_of_str (ends _) h4
    | @lst a xs ds _ _ =>
      cases ru
      refine repr_of_reads' hr h1 (PyData.noDict_hsm h2) hgd (by omega) (fun _ _ e => e) (fun h' t tk k => ⟨.str _, H, I.kept k, ⟨_, rfl⟩, q⟩) h4
    | @tup a xs ds _ _ =>
      cases ru
      refine repr_of_reads' hr h1 (PyData.noDict_hsm h2) hgd (by omega) (fun _ _ e => e) (fun h' t tk k => ⟨.str _, H, I.kept k, ⟨_, rfl⟩, q⟩) h4
/-- the law is called where no repr is under way -/
theorem law_callG {P : Program} {w : World} {K : PySem.W.Frag} {mg mb : Str → Option Value} {CX : CXT} {k : Nat} {fa a : Addr} {fd : FuncData} {x : Str} {sp : Sp} {s1 : Shared} {vs : List Value} {ns : List Int}
    (KX : K.In s1.heap) (hns : s1.heap.Ns mainGlobals mg) (hb : s1.heap.Ns builtinsNs mb) (hbb : ∀ x : Str, x ≠ "__name__" → mb x = bootBuiltins x) (hlim : s1.heap.NoLimit) (hg : s1.gens = #[])
    (ha : s1.heap.get? a = some { cls := .type "list", data := .seq vs.toArray }) (hi : IntsAre vs ns) (hl : ns.length ≤ sizeLine) (hr : Room k callerA)
    (F : ∀ base : Heap, K.In base → base.Ns mainGlobals mg → FnG P w K mg base CX k fa fd [x] sp) (hbind : ∀ (s : Shared) (u : Value), BindsTo s fd ⟨[u], []⟩ [(x, u)])
    (hsp : ∀ H : Hp, Only H → SqL K H a (ns.map V.int) → sp [.ref a] H (fun v _ => v = .bl true) fun _ _ _ => False)
    (hCX : ∀ H e s', CX [] H s1 (fun _ _ _ => False) e s' → False) :
    codeAny (model P w) callerA (.call (.ref fa) ⟨[.ref a], []⟩) (fun r s' => r = .ok (.ret (.bool true)) ∧ OldK s1.heap s'.heap ∧ s'.os = s1.os ∧ AllBare s'.gens) s1 := by
  have rv := vals_ints hi
  have run : ∀ H : Hp, Only H → SqL K H a (ns.map V.int) → HOk P w H s1.heap → (∀ b u, H b = some u → b = a ∧ K.lookup a = none) →
      codeAny (model P w) callerA (.call (.ref fa) ⟨[.ref a], []⟩) (fun r s' => r = .ok (.ret (.bool true)) ∧ OldK s1.heap s'.heap ∧ s'.os = s1.os ∧ AllBare s'.gens) s1 := by
    intro H only sq hok tracked
    have free : ∀ {b : Addr} {o : Obj}, s1.heap.get? b = some o → (b = a → K.lookup a ≠ none ∨ ∃ es ep, o.data = .dict es ep) → H b = none := by
      intro b o e h
      cases q : H b with
      | none => rfl
      | some u =>
        obtain ⟨rfl, nk⟩ := tracked b u q
        rcases h rfl with h | ⟨es, ep, h⟩
        · exact absurd nk h
        · rw [ha] at e
          cases e
          cases h
    have space : ∀ {b : Addr} {m : Str → Option Value}, s1.heap.Ns b m → (hidT s1.heap H).Ns b m := by
      rintro b m ⟨o, es, ep, e, d, r⟩
      exact ⟨o, es, ep, hidT_get e (free e fun _ => .inr ⟨es, ep, d⟩), d, r⟩
    have kin : K.In (hidT s1.heap H) := fun b o e => hidT_get (KX b o e) (free (KX b o e) fun z => .inl (by rw [← z, e]; simp))
    obtain ⟨mc, l1, l2⟩ := hlim
    have e0 : Env0 P w K mg (hidT s1.heap H) callerA [] s1 H :=
      { frames := rfl, mod := ⟨kin, space hns, ⟨mb, space hb, hbb⟩, ⟨mc, space l1, l2⟩⟩, bs := fun b o e => of_hidT e, bsz := Nat.le_of_eq (hidT_size _ _), funs := trivial, frf := fun b z => (nomatch z), hok := hok, bare := .of_eq hg }
    refine codeAny_mono ((F _ kin (space hns)).run callerA [] s1 H ⟨[.ref a], []⟩ [.ref a] [.ref a] _ _ rfl hr e0 (hbind s1 (.ref a)) (.cons rfl .nil) (hsp H only sq)) ?_
    intro r s' h
    match r, h with
    | .error e, h => exact (hCX H e s' h).elim
    | .ok .next, h => exact h.elim
    | .ok .brk, h => exact h.elim
    | .ok .cont, h => exact h.elim
    | .ok (.ret u), h =>
      obtain ⟨v, H', os, bare, un, hok', ru, q⟩ := h
      have q : v = .bl true := q
      subst q
      obtain rfl : u = Value.bool true := ru
      refine ⟨rfl, OldK.of_keep fun b o e => ?_, os, bare⟩
      rcases only b with z | ⟨ob, xs, z⟩
      · exact un.keep b o e z (fun y => nomatch y) (fun y => nomatch y)
      · obtain ⟨e1, _⟩ := hok b _ z
        obtain ⟨e2, _⟩ := hok' b _ (un.frzs b ob _ z)
        rw [e] at e1
        cases e1
        exact e2
  cases hk : K.lookup a with
  | some o =>
    have e := KX a o hk
    rw [ha] at e
    cases e
    exact run (fun _ => none) (fun _ => .inl rfl) (.inr ⟨_, vs.toArray, _, hk, rfl, rfl, rfl, by rw [List.size_toArray, hi.length]; exact hl, by simpa using rv⟩) (fun b u z => by cases z) (fun b u z => by cases z)
  | none =>
    have one : ∀ {b : Addr} {u : HO}, (if b = a then some (HO.frz { cls := .type "list", data := .seq vs.toArray } (.lst (ns.map V.int))) else none) = some u → b = a ∧ u = .frz { cls := .type "list", data := .seq vs.toArray } (.lst (ns.map V.int)) := by
      intro b u z
      split at z
      · rename_i h
        cases z
        exact ⟨h, rfl⟩
      · cases z
    refine run (fun b => if b = a then some (.frz { cls := .type "list", data := .seq vs.toArray } (.lst (ns.map V.int))) else none) (fun b => ?_) (.inl (.inr ⟨_, if_pos rfl⟩)) (fun b u z => ?_) (fun b u z => ⟨(one z).1, hk⟩)
    · by_cases q : b = a
      · exact .inr ⟨_, _, if_pos q⟩
      · exact .inl (if_neg q)
    · obtain ⟨rfl, rfl⟩ := one z
      exact ⟨ha, by rw [List.length_map]; exact hl, vs, _, rv, ha⟩
theorem walk_ofG {l : PySem.W.OpenLaw} {n k : Nat} {q : Program} {loose : List Str} {XP : (Str → Option Value) → Heap → Prop} {YP : World → Heap → Prop} {d : DefRec} {K : Params → PySem.W.Frag} {CX : World → CXT} {sp : World → Sp} {x : Str}
    (hn : l.most = some n) (hn2 : n ≤ sizeLine) (hdf : d.params.defaults = []) (hr : Room k callerA) (hY : ∀ (w : World) (h : Heap), YP w h → (K w.params).In h)
    (F : ∀ (w : World) (mg : Str → Option Value) (fa : Addr) (h : Heap), (K w.params).In h → h.Ns mainGlobals mg → mg d.name = some (.ref fa) →
      ∃ fd : FuncData, (∀ (s : Shared) (u : Value), BindsTo s fd ⟨[u], []⟩ [(x, u)]) ∧ ∀ base : Heap, (K w.params).In base → base.Ns mainGlobals mg → FnG l.prog w (K w.params) mg base (CX w) k fa fd [x] (sp w))
    (hsp : ∀ (w : World) (H : Hp) (a : Addr) (ns : List Int), ns.length ≤ n → Only H → SqL (K w.params) H a (ns.map V.int) → sp w [.ref a] H (fun v _ => v = .bl true) fun _ _ _ => False)
    (hCX : ∀ (w : World) (H : Hp) (s : Shared) (e : Value) (s' : Shared), CX w [] H s (fun _ _ _ => False) e s' → False) : PySem.W.WalkO q loose XP YP l.row.toRowW d [] (fun f vs => PySem.call f vs) := by
  refine Att.attach_call hn hdf ?_
  intro w s0 s1 mg mb fa o pm cd doc a vs ns G Y ho hd hcd hmg hobj hints hlen hg
  obtain ⟨fd, bind, prom⟩ := F w mg fa _ (hY w _ Y) G.T.g hmg
  exact law_callG (hY w _ Y) G.T.g G.T.b G.T.builtins G.T.nolimit hg hobj hints (Nat.le_trans hlen hn2) hr prom bind (fun H only sq => hsp w H a ns hlen only sq) fun H e s' => hCX w H s1 e s'
end XC
/-! AS13: exceptions over the abstract state. -/
namespace AS
open PySem PySem.Spec PyProof.Rows L2
/-- whoever waits takes an exception of the class at C with these fields -/
def AccE (K : PySem.W.Frag) (C : Addr) (l : List (Str × D)) (E : XK) (F Hb : Hp) : Prop :=
  ∀ (Hb' H : Hp) (dx : Addr) (fs : List (Str × V)), Same Hb Hb' → Same Hb' H → Same F H → (∀ a o, F a = some o → Hb' a = none) → Hb' dx = some (.xd fs) → Paired (fun (p : Str × V) (q : Str × D) => p.1 = q.1 ∧ Dt K Hb' p.2 q.2) fs l → E (.ref C) (some dx) H
def spX (K : PySem.W.Frag) (C : Addr) (l : List (Str × D)) (args : List En) : List V → Hp → XK → Prop := fun vs H E =>
  ∃ F Hb as, ST K F Hb H (vs.map some) args [] as ∧ AccE K C l E F Hb
theorem spX.len {K : PySem.W.Frag} {C : Addr} {l : List (Str × D)} {args : List En} {vs : List V} {H : Hp} {E : XK} (h : spX K C l args vs H E) : vs.length = args.length := by
  obtain ⟨_, _, _, S, _⟩ := h
  have := S.sl
  simpa using this
def XV (K : PySem.W.Frag) (F Hb : Hp) (te : TE) (es : List En) (W : List Cn) : Prop := ∀ F' Hb' H σ as, Same F F' → Same Hb Hb' → ST K F' Hb' H σ es W as → ∀ Q : VK, te σ H Q
def XA (K : PySem.W.Frag) (F Hb : Hp) (ta : TA) (es : List En) (W : List Cn) : Prop := ∀ F' Hb' H σ as, Same F F' → Same Hb Hb' → ST K F' Hb' H σ es W as → ∀ Q : List V → Hp → Prop, ta σ H Q
def XS (K : PySem.W.Frag) (F Hb : Hp) (t : TS) (es : List En) (W : List Cn) : Prop := ∀ F' Hb' H σ as, Same F F' → Same Hb Hb' → ST K F' Hb' H σ es W as → ∀ D : Ends, t D σ H
section
variable {K : PySem.W.Frag} {C : Addr} {l : List (Str × D)} {E : XK} {F Hb F' Hb' : Hp} {es es1 : List En} {W W1 : List Cn} {ta : TA} {te : TE} {t u : TS} {tt : TT} {e : En}
theorem AccE.mono (A : AccE K C l E F Hb) (f : Same F F') (s : Same Hb Hb') : AccE K C l E F' Hb' := fun Hb2 H dx fs s2 s3 f3 ds hx p =>
  A Hb2 H dx fs (s.trans s2) s3 (f.trans f3) (fun a o q => ds a o (f _ _ q)) hx p
theorem xv_call {sp : Sp} {args : List D} (A : AccE K C l E F Hb) (ha : EA K ta es W (args.map .dat) W1) (h : ∀ vs H Q, spX K C l (args.map .dat) vs H E → sp vs H Q E) : XV K F Hb (tCall sp [] E ta) es W := fun F' Hb' H σ as f s S Q =>
  ha F' Hb' H σ as S _ fun vs Hb1 H1 as1 g1 s1 S1 r1 => by
    obtain ⟨F2, as0, g0, h0, Sc, Fn, Rn, back⟩ := call_in (cW := []) (R := W1) S1 r1 (fun e he => by obtain ⟨d, _, rfl⟩ := List.mem_map.mp he; trivial) (fun c hc => absurd hc (by simp))
    show sp (vs ++ []) H1 Q E
    rw [List.append_nil]
    have f2 : Same F' F2 := fun a o q => by
      have q1 := S1.frm a o q
      cases q2 : F2 a with
      | none => rw [Fn a q2] at q; cases q
      | some o2 => rw [Sc.frm a o2 q2] at q1; exact q1
    exact h vs H1 Q ⟨F2, Hb1, as0, Sc, A.mono (f.trans f2) (s.trans s1)⟩
theorem xa_first (h : XV K F Hb te es W) : XA K F Hb (tCons te ta) es W := fun F' Hb' H σ as f s S Q => h F' Hb' H σ as f s S _
theorem xa_rest (h : EV K te es W e W1) (h2 : XA K F Hb ta es W1) : XA K F Hb (tCons te ta) es W := fun F' Hb' H σ as f s S Q =>
  h F' Hb' H σ as S _ fun v Hb1 H1 as1 g1 s1 S1 r1 => h2 F' Hb1 H1 σ as1 f (s.trans s1) S1 _
theorem xv_callA {sp : Sp} {dvs : List V} (h : XA K F Hb ta es W) : XV K F Hb (tCall sp dvs E ta) es W := fun F' Hb' H σ as f s S Q => h F' Hb' H σ as f s S _
theorem xs_ret (h : XV K F Hb te es W) : XS K F Hb (tRet te) es W := fun F' Hb' H σ as f s S D => h F' Hb' H σ as f s S _
theorem xs_asg {g : TG} (h : XV K F Hb te es W) : XS K F Hb (tAsg te g) es W := fun F' Hb' H σ as f s S D => h F' Hb' H σ as f s S _
theorem xs_drop (h : XV K F Hb te es W) : XS K F Hb (tDrop te) es W := fun F' Hb' H σ as f s S D => h F' Hb' H σ as f s S _
theorem xs_first (h : XS K F Hb t es W) : XS K F Hb (tSeq t u) es W := fun F' Hb' H σ as f s S D => h F' Hb' H σ as f s S _
theorem xs_then (h : SDd K t es W es1 W1) (h2 : XS K F Hb u es1 W1) : XS K F Hb (tSeq t u) es W := fun F' Hb' H σ as f s S D =>
  h F' Hb' H σ as { D with nx := u D } S ⟨fun Hb1 H1 σ1 as1 e1 w1 ⟨p, q⟩ g1 s1 S1 => by
    subst p q
    exact h2 F' Hb1 H1 σ1 as1 f (s.trans s1) S1 D, fun _ _ _ _ _ _ _ _ x => x.elim, fun _ _ _ _ _ _ x => x.elim, fun _ _ _ _ _ _ x => x.elim⟩
theorem xs_if {b : Bool} (h : ET K tt es W b W1) (h1 : b = true → XS K F Hb t es W1) (h2 : b = false → XS K F Hb u es W1) : XS K F Hb (tIfS tt t u) es W := fun F' Hb' H σ as f s S D =>
  h F' Hb' H σ as S _ fun Hb1 H1 as1 g1 s1 S1 => by
    cases b with
    | true => exact h1 rfl F' Hb1 H1 σ as1 f (s.trans s1) S1 D
    | false => exact h2 rfl F' Hb1 H1 σ as1 f (s.trans s1) S1 D
/-- a def's body that raises -/
theorem fn_goX {N : List Str} {vs : List V} {args : List En} {H : Hp} {Q : VK} (h : spX K C l args vs H E) (hb : ∀ F Hb, AccE K C l E F Hb → XS K F Hb t (args ++ List.replicate (N.length - args.length) .un) []) :
    t { nx := fun _ H' => Q .non H', rt := Q } (L2.start N vs) H := by
  obtain ⟨F, Hb, as, S, A⟩ := h
  exact hb F Hb A F Hb H _ as (Same.refl _) (Same.refl _) (start_slots S) _
/-- what __init__ of an exception with the fields what, number promises -/
def spInit (C : Addr) : Sp := fun vs H Q _ => ∃ (a : Addr) (v1 v2 : V), vs = [.ref a, v1, v2] ∧ H a = some (exo a C none) ∧
  ∀ dx, H dx = none → dx ≠ a → Q .non (upd (upd (upd H dx (exd dx [("what", v1)])) a (exo a C (some dx))) dx (exd dx [("number", v2), ("what", v1)]))
theorem xs_raise {d1 d2 : D} (A : AccE K C [("number", d2), ("what", d1)] E F Hb) (ha : EA K ta es W [.dat d1, .dat d2] W1) : XS K F Hb (fun _ σ H => tMkO C (spInit C) [] ta σ H fun cls d H' => E cls d H') es W := fun F' Hb' H σ as f s S D =>
  ha F' Hb' H σ as S _ fun vs Hb1 H1 as1 g1 s1 S1 r1 => by
    cases r1 with
    | @cons v1 _ _ _ a1 t1 => cases t1 with
      | @cons v2 _ _ _ a2 t2 => cases t2 with
        | nil =>
          refine ⟨by simp, fun a hn => ⟨a, v1, v2, rfl, upd_same, fun dx hdx hne => ⟨rfl, dx, [("number", v2), ("what", v1)], ?_, upd_same, ?_, ?_⟩⟩⟩
          · rw [upd_ne (Ne.symm hne), upd_same]
          · rw [upd_ne hne] at hdx; exact hdx
          · have hd1 : H1 dx = none := by rw [upd_ne hne] at hdx; exact hdx
            obtain ⟨S2, s2⟩ := S1.new (o := .xd [("number", v2), ("what", v1)]) hd1
            have eH : ∀ G : Hp, (∀ b, b ≠ a → b ≠ dx → G b = H1 b) → upd (L2.del G a) dx (.xd [("number", v2), ("what", v1)]) = upd H1 dx (.xd [("number", v2), ("what", v1)]) := fun G hG => by
              funext b
              by_cases hb : b = dx
              · rw [hb, upd_same, upd_same]
              · rw [upd_ne hb, upd_ne hb]
                by_cases hba : b = a
                · rw [hba, L2.del_same, hn]
                · rw [L2.del_ne hba, hG b hba hb]
            rw [eH _ fun b h1 h2 => by rw [upd_ne h2, upd_ne h1, upd_ne h2, upd_ne h1]]
            exact A _ _ dx _ ((s.trans s1).trans s2) S2.base (f.trans S2.frm) (fun a o q => S2.dis a o (f _ _ q)) upd_same (.cons ⟨rfl, Dt.mono s2 _ _ a2⟩ (.cons ⟨rfl, Dt.mono s2 _ _ a1⟩ .nil))
/-- an element of a list comprehension raises -/
theorem xv_lc {wi : TI} {g : TG} {vs js : List Nat} {l : List En} {stay : List Cn → Prop} {W0 : List Cn} (hi : EI K wi es W l stay W0) (k : Nat) (fs : Nat → D) (hk : k ≤ 1000000) (hst : stay W0) (hjs : ∀ j ∈ js, j ∈ vs)
    (step : ∀ i x, i < k → l[i]? = some x → ∃ e2, EG K g js x (wipeE es vs) W0 e2 ∧ ET K tt e2 W0 true W0 ∧ EV K te e2 W0 (.dat (fs i)) W0)
    (bad : ∃ x e2, l[k]? = some x ∧ EG K g js x (wipeE es vs) W0 e2 ∧ ET K tt e2 W0 true W0 ∧ XV K F Hb te e2 W0) : XV K F Hb (tLc wi g tt te vs) es W := fun F' Hb' H σ as f s S Q =>
  hi F' Hb' H σ as S _ fun J Hb1 H1 as1 g1 s1 S1 walk p hp => by
    obtain ⟨xk, ek, hxk, hgk, htk, hvk⟩ := bad
    have hF : F' p = none := S1.frm.free hp
    have ff : ∀ acc, Same F (upd F' p (.lst acc)) := fun acc a o q => by
      have q' := f a o q
      rw [upd_ne (ne_of_none q' hF)]; exact q'
    have hkl : k < l.length := (List.getElem?_eq_some_iff.mp hxk).1
    refine ⟨fun i m H' => m = k - i ∧ i ≤ k ∧ ∃ Hb2 as' acc, Gr as1 as' ∧ Same Hb1 Hb2 ∧ acc.length = i ∧ ST K (upd F' p (.lst acc)) Hb2 H' (L2.wipe σ vs) (wipeE es vs) W0 as',
      ⟨k, by simp, Nat.zero_le _, Hb1, as1, [], Gr.refl _, Same.refl _, rfl, (S1.outside hp).wipe vs⟩, ?_⟩
    rintro i m H' ⟨rfl, hik, Hb2, as2, acc, g2, s2, hacc, S2⟩
    have wk := walk i _ Hb2 H' _ _ _ as2 S2 s2 g2 hst
    obtain ⟨hgo, hyl⟩ := wk.1 l[i] (by simp [show i < l.length by omega])
    refine .inr ⟨hgo, fun H3 => i < k ∧ ∃ Hb' as' acc, Gr as1 as' ∧ Same Hb1 Hb' ∧ acc.length = i + 1 ∧ ST K (upd F' p (.lst acc)) Hb' H3 (L2.wipe σ vs) (wipeE es vs) W0 as', fun H3 h => ⟨k - (i + 1), by omega, rfl, h.1, h.2⟩, fun x H3 hy => ?_⟩
    obtain ⟨Hb3, s3, S3, r3, _⟩ := hyl x H3 hy
    by_cases hlt : i < k
    · obtain ⟨e2, hg, ht, he⟩ := step i l[i] hlt (by simp [show i < l.length by omega])
      refine hg _ Hb3 H3 _ as2 x S3 r3 _ fun σ4 hw S4 => ⟨by rw [hw vs hjs, wipe_wipe], ?_⟩
      refine ht _ Hb3 H3 σ4 as2 S4 _ fun Hb5 H5 as5 g5 s5 S5 => ?_
      show te σ4 H5 _
      refine he _ Hb5 H5 σ4 as5 S5 _ fun y Hb6 H6 as6 g6 s6 S6 r6 => ?_
      refine ⟨acc, S6.frm p _ upd_same, by rw [hacc, sizeLine_eq]; omega, hlt, Hb6, as6, acc ++ [y], (g2.trans g5).trans g6, ((s2.trans s3).trans s5).trans s6, by simp [hacc], ?_⟩
      exact S6.outset.slots ((S.wipe vs).sl) fun i e h => RS.mono (g5.trans g6) ((s3.trans s5).trans s6) (S2.slot i e h)
    · have e : i = k := by omega
      subst e
      have el : l[i] = xk := by
        have : l[i]? = some l[i] := by simp [hkl]
        rw [hxk] at this
        exact (Option.some.inj this).symm
      rw [el] at r3
      refine hgk _ Hb3 H3 _ as2 x S3 r3 _ fun σ4 hw S4 => ⟨by rw [hw vs hjs, wipe_wipe], ?_⟩
      refine htk _ Hb3 H3 σ4 as2 S4 _ fun Hb5 H5 as5 g5 s5 S5 => ?_
      show te σ4 H5 _
      exact hvk _ Hb5 H5 σ4 as5 (ff acc) (((s.trans s1).trans (s2.trans s3)).trans s5) S5 _
end
/-- a def of the top that may raise -/
theorem TopF.calX {P : Program} {w : World} {K : PySem.W.Frag} {mg : Str → Option Value} {base : Heap} {x : Str} {st : Stmt} {N ps : List Str} {k : Nat} {sp : Sp} (T : TopF K mg x st) (S : FnScope N ps (defScope st)) (len : ∀ vs H Q E, sp vs H Q E → vs.length = ps.length)
    (hb : ∀ (kV doc pm : Value) (an : Option Addr) (cdv ct : Value) (us : List Value), us.length = ps.length → bindArgs (PySem.W.fnOf x x (defArgs st) (defBody st) (defScope st) .none kV doc pm an cdv ct) ⟨us, []⟩ = pure (ps.zip us))
    (hbody : ∀ (f : Addr) (cdv : Value) (A : Around) (outer : List Env) (s : Shared) (H : Hp) (vs : List V) (Q : VK) (E : XK), Room k (A.deeper (envOfC x (defScope st) s.heap.objs.size f cdv)) → sp vs H Q E →
      ∃ t, PSs (cxOf (L2.CX P w) P w K mg base N x (defScope st) f cdv A outer s H E) (defBody st) t ∧ t { nx := fun _ H' => Q .non H', rt := Q } (L2.start N vs) H) : Cal P w K mg base (L2.CX P w) (k + 1) x ps sp := by
  obtain ⟨f, fd, F, hm⟩ := T
  exact ⟨f, fd, F.okX S len (fun cdv A outer s H vs Q E => hbody f cdv A outer s H vs Q E), hm, F.kp, F.binds hb⟩
section
variable {X : Cx} {x : Str} {p pos : Pos} {e : Expr} {es : List Expr} {t : TA} {k : Nat} {ps : List Str} {sp : Sp} {E : XK}
theorem pe_calX (C : Cal X.prog X.w X.K X.mg X.base (L2.CX X.prog X.w) k x ps sp) (hx : Passes (L2.CX X.prog X.w) X E) (hr : Room k X.A) (hg : Gl X x) (ha : PA X (e :: es) t) (hdb : (x == ("__debug__" : Str)) = false := by decide) (he : starEach (e :: es) X.env = (false, eval e X.env) :: starEach es X.env := by rfl) (hpl : (backTo pos (starEach es X.env)).any (·.1) = false := by rfl) :
    PE X (.Call (.Name x p) (e :: es) [] pos) (tCall sp [] E t) := by
  obtain ⟨f, fd, F, hm, hk, hb⟩ := C
  exact pe_call F hr hg hm hk hb .nil hx ha hdb he hpl
theorem pe_calS {ES : L2.St → XK} (C : Cal X.prog X.w X.K X.mg X.base (L2.CX X.prog X.w) k x ps sp) (hx : ∀ σ, PassesAt (L2.CX X.prog X.w) X σ (ES σ)) (hr : Room k X.A) (hg : Gl X x) (ha : PA X (e :: es) t) (hdb : (x == ("__debug__" : Str)) = false := by decide) (he : starEach (e :: es) X.env = (false, eval e X.env) :: starEach es X.env := by rfl) (hpl : (backTo pos (starEach es X.env)).any (·.1) = false := by rfl) :
    PE X (.Call (.Name x p) (e :: es) [] pos) (tCallSD sp [] ES t) := by
  obtain ⟨f, fd, F, hm, hk, hb⟩ := C
  exact pe_callSD F hr hg hm hk hb .nil hx ha hdb he hpl
end
/-- within a def: what the def waits for takes a callee's exception -/
theorem passes_def {P : Program} {w : World} {K : PySem.W.Frag} {mg : Str → Option Value} {base : Heap} {N : List Str} {qual : Str} {sc : Scope} {f : Addr} {cd : Value} {A : Around} {outer : List Env} {s : Shared} {H : Hp} {E : XK} :
    Passes (L2.CX P w) (cxOf (L2.CX P w) P w K mg base N qual sc f cd A outer s H E) E :=
  passes_call (X := cxOf (L2.CX P w) P w K mg base N qual sc f cd A outer s H E) (takes_of rfl rfl rfl rfl) fun _ _ _ _ h => h
end AS
/-! AS14: an own error with the fields what, number; defs with defaults; defs that ask for repr. -/
namespace AS
open PySem PySem.Spec PyProof.Rows L2
def CB (mg : Str → Option Value) : Addr := match mg "BadNumber" with
  | some (.ref a) => a
  | _ => 0
structure Bad (K : PySem.W.Frag) (mg : Str → Option Value) (st : Stmt) : Prop where
  gC : mg "BadNumber" = some (.ref (CB mg))
  oex : OexC K (CB mg)
  xfc : XfC K (CB mg)
  noW : PySem.W.findIn K (.ref (CB mg)) "what" = some none
  noN : PySem.W.findIn K (.ref (CB mg)) "number" = some none
  own : PySem.W.exmOne K (.ref (CB mg)) (.ref (CB mg)) = some true
  ini : ∃ (f : Addr) (fd : FuncData), PySem.W.findIn K (.ref (CB mg)) "__init__" = some (some (.ref f)) ∧ PySem.W.typeIn K (.ref f) = some (.type "function") ∧ Fun K "__init__" "BadNumber.__init__" st f fd
/-- __init__'s body as a reading -/
theorem init_reads {K : PySem.W.Frag} {mg : Str → Option Value} {st : Stmt} (B : Bad K mg st) {vs : List V} {H : Hp} {Q : VK} {E : XK} {N : List Str} (hN : N.length = 3) (h : spInit (CB mg) vs H Q E) :
    tSeq (tOst K "what" (tVar 0) (tVar 1)) (tOst K "number" (tVar 0) (tVar 2)) { nx := fun _ H' => Q .non H', rt := Q } (L2.start N vs) H := by
  obtain ⟨a, v1, v2, rfl, ha, q⟩ := h
  have es : L2.start N [V.ref a, v1, v2] = [some (.ref a), some v1, some v2] := by unfold L2.start; simp [hN]
  rw [es]
  refine ⟨v1, rfl, .ref a, rfl, a, CB mg, rfl, B.oex, B.noW, .inl ⟨ha, fun dx hdx hne => ?_⟩⟩
  exact ⟨v2, rfl, .ref a, rfl, a, CB mg, rfl, B.oex, B.noN, .inr ⟨dx, [("what", v1)], upd_same, by rw [upd_ne hne, upd_same], by simp, q dx hdx hne⟩⟩
section
variable {X : Cx} {e : Expr} {es : List Expr} {ta : TA} {p pos pos' : Pos} {k : Nat} {W : WX} {st : Stmt} {ps : List Str}
/-- raise BadNumber(what, number) -/
theorem ps_bad (B : Bad X.K X.mg st) (F : ∀ f fd, Fun X.K "__init__" "BadNumber.__init__" st f fd → FnOk X.prog X.w X.K X.mg X.base CX0 k f fd ps (spInit (CB X.mg)) ∧ Binds X.K fd ps []) (hr : Room (k + 1) X.A) (hc : X.calm = true) (tk : Takes X W) (hg : Gl X "BadNumber") (ha : PA X (e :: es) ta)
    (he : starEach (e :: es) X.env = (false, eval e X.env) :: starEach es X.env := by rfl) (hpl : (backTo pos (starEach es X.env)).any (·.1) = false := by rfl) :
    PS X (.Raise (some (.Call (.Name "BadNumber" p) (e :: es) [] pos)) none pos') (fun _ σ H => tMkO (CB X.mg) (spInit (CB X.mg)) [] ta σ H fun cls d H' => W cls d σ H') := by
  obtain ⟨f, fd, i1, i2, i3⟩ := B.ini
  obtain ⟨F1, F2⟩ := F f fd i3
  exact ps_raise hc tk (pmk_oex B.oex i1 i2 F1 hr F2 .nil pass0 hg B.gC ha (by decide) he hpl)
/-- what is never reached -/
theorem pss_dead {l : List Stmt} : PSs X l (fun _ _ _ => False) := ⟨fun _ _ _ _ _ _ h => h.elim⟩
end
/-- a def with defaults, where it stands -/
def TopD (K : PySem.W.Frag) (mg : Str → Option Value) (x : Str) (st : Stmt) (dvs : List V) : Prop := ∃ (f : Addr) (fd : FuncData), FunD K x x (defArgs st) (defBody st) (defScope st) dvs [] f fd ∧ mg x = some (.ref f)
def CalD (P : Program) (w : World) (K : PySem.W.Frag) (mg : Str → Option Value) (base : Heap) (CX : CXT) (k : Nat) (x : Str) (ps : List Str) (sp : Sp) (dvs : List V) : Prop :=
  ∃ (f : Addr) (fd : FuncData) (ds : List Value), FnOk P w K mg base CX k f fd ps sp ∧ mg x = some (.ref f) ∧ PySem.W.keepIn K (.ref f) = true ∧ Binds K fd ps ds ∧ Vals dvs ds
theorem pe_calDS {X : Cx} {x : Str} {p pos : Pos} {e : Expr} {es : List Expr} {t : TA} {k : Nat} {ps : List Str} {sp : Sp} {dvs : List V} {ES : L2.St → XK} (C : CalD X.prog X.w X.K X.mg X.base (L2.CX X.prog X.w) k x ps sp dvs) (hx : ∀ σ, PassesAt (L2.CX X.prog X.w) X σ (ES σ)) (hr : Room k X.A) (hg : Gl X x) (ha : PA X (e :: es) t) (hdb : (x == ("__debug__" : Str)) = false := by decide) (he : starEach (e :: es) X.env = (false, eval e X.env) :: starEach es X.env := by rfl) (hpl : (backTo pos (starEach es X.env)).any (·.1) = false := by rfl) :
    PE X (.Call (.Name x p) (e :: es) [] pos) (tCallSD sp dvs ES t) := by
  obtain ⟨f, fd, ds, F, hm, hk, hb, hv⟩ := C
  exact pe_callSD F hr hg hm hk hb hv hx ha hdb he hpl
/-- a def that asks for repr -/
def CalG (P : Program) (w : World) (K : PySem.W.Frag) (mg : Str → Option Value) (base : Heap) (CX : CXT) (k : Nat) (x : Str) (ps : List Str) (sp : Sp) : Prop :=
  ∃ (f : Addr) (fd : FuncData), XC.FnG P w K mg base CX k f fd ps sp ∧ mg x = some (.ref f) ∧ PySem.W.keepIn K (.ref f) = true ∧ Binds K fd ps []
theorem TopF.calG {P : Program} {w : World} {K : PySem.W.Frag} {mg : Str → Option Value} {base : Heap} {x : Str} {st : Stmt} {N ps : List Str} {k : Nat} {sp : Sp} (T : TopF K mg x st) (S : FnScope N ps (defScope st)) (len : ∀ vs H Q E, sp vs H Q E → vs.length = ps.length)
    (hb : ∀ (kV doc pm : Value) (an : Option Addr) (cdv ct : Value) (us : List Value), us.length = ps.length → bindArgs (PySem.W.fnOf x x (defArgs st) (defBody st) (defScope st) .none kV doc pm an cdv ct) ⟨us, []⟩ = pure (ps.zip us))
    (hbody : ∀ (f : Addr) (cdv : Value) (A : Around) (outer : List Env) (s : Shared) (H : Hp) (vs : List V) (Q : VK) (E : XK), A.guards = some [] → Room k (A.deeper (envOfC x (defScope st) s.heap.objs.size f cdv)) → sp vs H Q E →
      ∃ t, PSs (cxOf CX0 P w K mg base N x (defScope st) f cdv A outer s H E).nox (defBody st) t ∧ t { nx := fun _ H' => Q .non H', rt := Q } (L2.start N vs) H) : CalG P w K mg base CX0 (k + 1) x ps sp := by
  obtain ⟨f, fd, F, hm⟩ := T
  exact ⟨f, fd, XC.fn_ofG F S len (fun cdv A outer s H vs Q E hg hr h => by obtain ⟨t, h1, h2⟩ := hbody f cdv A outer s H vs Q E hg hr h; exact ⟨t, h1.nox, h2⟩), hm, F.kp, F.binds hb⟩
theorem pe_calG {X : Cx} {x : Str} {p pos : Pos} {e : Expr} {es : List Expr} {t : TA} {k : Nat} {ps : List Str} {sp : Sp} (C : CalG X.prog X.w X.K X.mg X.base CX0 k x ps sp) (hgd : X.A.guards = some []) (hr : Room k X.A) (hg : Gl X x) (ha : PA X (e :: es) t) (hdb : (x == ("__debug__" : Str)) = false := by decide) (he : starEach (e :: es) X.env = (false, eval e X.env) :: starEach es X.env := by rfl) (hpl : (backTo pos (starEach es X.env)).any (·.1) = false := by rfl) :
    PE X (.Call (.Name x p) (e :: es) [] pos) (tCall sp [] E0 t) := by
  obtain ⟨f, fd, F, hm, hk, hb⟩ := C
  exact XC.pe_callG F hgd hr hg hm hk hb pass0 ha hdb he hpl
end AS
namespace K90
open PySem PySem.Spec PyProof.Rows L2 AS
def top (i : Nat) : Stmt := PySem.Challenge.pw_allscales_k90_whole_coprime_bases.main.body.getD i (.Pass ⟨0, 0, 0, 0⟩)
abbrev s_BadNumber___init__ : Stmt := inClass (top 2) 0
abbrev N_BadNumber___init__ : List Str := ["self", "what", "number"]
abbrev P_BadNumber___init__ : List Str := ["self", "what", "number"]
abbrev s_common_divisor : Stmt := top 4
abbrev N_common_divisor : List Str := ["one", "two"]
abbrev P_common_divisor : List Str := ["one", "two"]
abbrev s_lowest : Stmt := top 5
abbrev N_lowest : List Str := ["top", "bottom", "by"]
abbrev P_lowest : List Str := ["top", "bottom"]
abbrev s_is_whole : Stmt := top 6
abbrev N_is_whole : List Str := ["value"]
abbrev P_is_whole : List Str := ["value"]
abbrev s_is_ratio : Stmt := top 7
abbrev N_is_ratio : List Str := ["value"]
abbrev P_is_ratio : List Str := ["value"]
abbrev s_told : Stmt := top 8
abbrev N_told : List Str := ["value", "what"]
abbrev P_told : List Str := ["value", "what"]
abbrev s_plus : Stmt := top 9
abbrev N_plus : List Str := ["one", "two"]
abbrev P_plus : List Str := ["one", "two"]
abbrev s_times : Stmt := top 10
abbrev N_times : List Str := ["one", "two"]
abbrev P_times : List Str := ["one", "two"]
abbrev s_over : Stmt := top 11
abbrev N_over : List Str := ["one", "two"]
abbrev P_over : List Str := ["one", "two"]
abbrev s_dot : Stmt := top 12
abbrev N_dot : List Str := ["row", "other", "found", "one", "two"]
abbrev P_dot : List Str := ["row", "other"]
abbrev s_common_bottom : Stmt := top 13
abbrev N_common_bottom : List Str := ["row", "bottom", "value"]
abbrev P_common_bottom : List Str := ["row"]
abbrev s_identity : Stmt := top 15
abbrev N_identity : List Str := ["many", "k", "j"]
abbrev P_identity : List Str := ["many"]
abbrev s_turned : Stmt := top 16
abbrev N_turned : List Str := ["rows", "k", "row"]
abbrev P_turned : List Str := ["rows"]
abbrev s_nearest : Stmt := top 17
abbrev N_nearest : List Str := ["one", "two"]
abbrev P_nearest : List Str := ["one", "two"]
abbrev s_less_multiple : Stmt := top 18
abbrev N_less_multiple : List Str := ["row", "by", "other", "one", "two"]
abbrev P_less_multiple : List Str := ["row", "by", "other"]
abbrev s_smallest_at : Stmt := top 19
abbrev N_smallest_at : List Str := ["rows", "column", "start", "best", "k", "item"]
abbrev P_smallest_at : List Str := ["rows", "column", "start"]
abbrev s_cleared_below : Stmt := top 20
abbrev N_cleared_below : List Str := ["work", "column", "place", "best", "lead", "k"]
abbrev P_cleared_below : List Str := ["work", "column", "place"]
abbrev s_formed : Stmt := top 21
abbrev N_formed : List Str := ["work", "wide", "place", "column", "lead", "k", "by", "item"]
abbrev P_formed : List Str := ["work", "wide"]
abbrev s_hermite_of : Stmt := top 22
abbrev N_hermite_of : List Str := ["rows", "wide", "work", "row", "one"]
abbrev P_hermite_of : List Str := ["rows"]
abbrev s_basis_rows : Stmt := top 23
abbrev N_basis_rows : List Str := ["rows", "work", "row", "item"]
abbrev P_basis_rows : List Str := ["rows"]
abbrev s_Work___init__ : Stmt := inClass (top 24) 0
abbrev N_Work___init__ : List Str := ["self", "rows", "row"]
abbrev P_Work___init__ : List Str := ["self", "rows"]
abbrev s_Work_take_row : Stmt := inClass (top 24) 1
abbrev N_Work_take_row : List Str := ["self", "k", "by", "j"]
abbrev P_Work_take_row : List Str := ["self", "k", "by", "j"]
abbrev s_Work_take_column : Stmt := inClass (top 24) 2
abbrev N_Work_take_column : List Str := ["self", "k", "by", "j", "row"]
abbrev P_Work_take_column : List Str := ["self", "k", "by", "j"]
abbrev s_Work_swap : Stmt := inClass (top 24) 3
abbrev N_Work_swap : List Str := ["self", "k", "j", "start", "row"]
abbrev P_Work_swap : List Str := ["self", "k", "j", "start"]
abbrev s_Work_smallest : Stmt := inClass (top 24) 4
abbrev N_Work_smallest : List Str := ["self", "start", "best", "k", "j", "item"]
abbrev P_Work_smallest : List Str := ["self", "start"]
abbrev s_Work_crossed_out : Stmt := inClass (top 24) 5
abbrev N_Work_crossed_out : List Str := ["self", "start", "pivot", "k", "j", "column", "item"]
abbrev P_Work_crossed_out : List Str := ["self", "start"]
abbrev s_Work_uneven : Stmt := inClass (top 24) 6
abbrev N_Work_uneven : List Str := ["self", "start", "pivot", "k", "item"]
abbrev P_Work_uneven : List Str := ["self", "start"]
abbrev s_Work_settle : Stmt := inClass (top 24) 7
abbrev N_Work_settle : List Str := ["self", "start", "best", "k"]
abbrev P_Work_settle : List Str := ["self", "start"]
abbrev s_smith_of : Stmt := top 25
abbrev N_smith_of : List Str := ["rows", "work", "start", "item"]
abbrev P_smith_of : List Str := ["rows"]
abbrev s_kernel_of : Stmt := top 26
abbrev N_kernel_of : List Str := ["rows", "basis", "right", "columns", "row"]
abbrev P_kernel_of : List Str := ["rows"]
abbrev s_Equations___init__ : Stmt := inClass (top 27) 0
abbrev N_Equations___init__ : List Str := ["self", "rows", "middle", "row", "item"]
abbrev P_Equations___init__ : List Str := ["self", "rows"]
abbrev s_Equations_weighed : Stmt := inClass (top 27) 1
abbrev N_Equations_weighed : List Str := ["self", "row", "by", "found", "j", "item", "k", "one"]
abbrev P_Equations_weighed : List Str := ["self", "row", "by"]
abbrev s_Equations_left_over : Stmt := inClass (top 27) 2
abbrev N_Equations_left_over : List Str := ["self", "sides", "whole", "k", "by", "item"]
abbrev P_Equations_left_over : List Str := ["self", "sides", "whole"]
abbrev s_Equations_answer_to : Stmt := inClass (top 27) 3
abbrev N_Equations_answer_to : List Str := ["self", "right", "whole", "sides", "weights", "found", "k", "left", "middle", "other", "value", "row", "item"]
abbrev P_Equations_answer_to : List Str := ["self", "right", "whole"]
abbrev s_whole_solution : Stmt := top 28
abbrev N_whole_solution : List Str := ["rows", "right", "spot", "weights", "item", "value"]
abbrev P_whole_solution : List Str := ["rows", "right"]
abbrev s_ratio_solution : Stmt := top 29
abbrev N_ratio_solution : List Str := ["rows", "right", "bottoms", "whole", "sides", "spot", "weights", "row", "value", "by", "weight"]
abbrev P_ratio_solution : List Str := ["rows", "right"]
abbrev s_pairs_of : Stmt := top 30
abbrev N_pairs_of : List Str := ["rows", "row", "item"]
abbrev P_pairs_of : List Str := ["rows"]
abbrev s_as_tuples : Stmt := top 32
abbrev N_as_tuples : List Str := ["rows", "row"]
abbrev P_as_tuples : List Str := ["rows"]
abbrev s_Powers___init__ : Stmt := inClass (top 34) 0
abbrev N_Powers___init__ : List Str := ["self", "spot", "basis"]
abbrev P_Powers___init__ : List Str := ["self", "spot", "basis"]
abbrev s_NoPowers___init__ : Stmt := inClass (top 35) 0
abbrev N_NoPowers___init__ : List Str := ["self", "base", "weights"]
abbrev P_NoPowers___init__ : List Str := ["self", "base", "weights"]
abbrev s_told_above : Stmt := top 36
abbrev N_told_above : List Str := ["value", "what"]
abbrev P_told_above : List Str := ["value", "what"]
abbrev s_refined : Stmt := top 37
abbrev N_refined : List Str := ["numbers", "base", "waiting", "number", "found", "shared", "other", "by", "item"]
abbrev P_refined : List Str := ["numbers"]
abbrev s_base_of : Stmt := top 38
abbrev N_base_of : List Str := ["ratios", "ratio"]
abbrev P_base_of : List Str := ["ratios"]
abbrev s_count_in : Stmt := top 39
abbrev N_count_in : List Str := ["base", "number", "found", "divisor", "count"]
abbrev P_count_in : List Str := ["base", "number"]
abbrev s_exponents_over : Stmt := top 40
abbrev N_exponents_over : List Str := ["base", "ratio", "one", "two"]
abbrev P_exponents_over : List Str := ["base", "ratio"]
abbrev s_coprime_base : Stmt := top 41
abbrev N_coprime_base : List Str := ["ratios", "ratio"]
abbrev P_coprime_base : List Str := ["ratios"]
abbrev s_power_rows : Stmt := top 42
abbrev N_power_rows : List Str := ["base", "ratios", "columns", "ratio", "k", "column"]
abbrev P_power_rows : List Str := ["base", "ratios"]
abbrev s_relations : Stmt := top 43
abbrev N_relations : List Str := ["ratios", "pairs", "base", "ratio"]
abbrev P_relations : List Str := ["ratios"]
abbrev s_as_powers : Stmt := top 44
abbrev N_as_powers : List Str := ["ratio", "ratios", "roots", "aim", "pairs", "base", "zeros", "rows", "right", "item", "spot", "weights"]
abbrev P_as_powers : List Str := ["ratio", "ratios", "roots"]
abbrev s__law_pen : Stmt := top 46
abbrev N__law_pen : List Str := ["_law_script", "_law_fold", "_law_cell"]
abbrev P__law_pen : List Str := ["_law_script"]
abbrev s__law_draw : Stmt := top 47
abbrev N__law_draw : List Str := ["_law_pen_here", "_law_many", "_law_blend", "_law_cell", "_law_digit"]
abbrev P__law_draw : List Str := ["_law_pen_here", "_law_many"]
abbrev s__law_pick : Stmt := top 48
abbrev N__law_pick : List Str := ["_law_pen_here", "_law_some"]
abbrev P__law_pick : List Str := ["_law_pen_here", "_law_some"]
abbrev s__law_big : Stmt := top 49
abbrev N__law_big : List Str := ["_law_pen_here", "_law_figures", "_law_total", "_law_k"]
abbrev P__law_big : List Str := ["_law_pen_here", "_law_figures"]
abbrev s__law_gcd : Stmt := top 50
abbrev N__law_gcd : List Str := ["_law_one", "_law_two", "_law_lap"]
abbrev P__law_gcd : List Str := ["_law_one", "_law_two"]
abbrev s__law_q : Stmt := top 51
abbrev N__law_q : List Str := ["_law_top", "_law_bottom", "_law_by"]
abbrev P__law_q : List Str := ["_law_top", "_law_bottom"]
abbrev s__law_times : Stmt := top 52
abbrev N__law_times : List Str := ["_law_one", "_law_two"]
abbrev P__law_times : List Str := ["_law_one", "_law_two"]
abbrev s__law_is_whole : Stmt := top 53
abbrev N__law_is_whole : List Str := ["_law_value"]
abbrev P__law_is_whole : List Str := ["_law_value"]
abbrev s__law_passed : Stmt := top 54
abbrev N__law_passed : List Str := ["_law_pen_here", "_law_ratio", "_law_way", "_law_by"]
abbrev P__law_passed : List Str := ["_law_pen_here", "_law_ratio"]
abbrev s__law_power : Stmt := top 55
abbrev N__law_power : List Str := ["_law_one", "_law_n", "_law_found", "_law_lap"]
abbrev P__law_power : List Str := ["_law_one", "_law_n"]
abbrev s__law_powers : Stmt := top 56
abbrev N__law_powers : List Str := ["_law_ratios_here", "_law_exponents", "_law_found", "_law_one", "_law_n"]
abbrev P__law_powers : List Str := ["_law_ratios_here", "_law_exponents"]
abbrev s__law_is_base : Stmt := top 57
abbrev N__law_is_base : List Str := ["_law_base", "_law_ratios_here", "_law_k", "_law_one", "_law_other"]
abbrev P__law_is_base : List Str := ["_law_base", "_law_ratios_here"]
abbrev s__law_base_powers : Stmt := top 58
abbrev N__law_base_powers : List Str := ["_law_base", "_law_ratio", "_law_number", "_law_found", "_law_rest", "_law_count", "_law_side", "_law_lap"]
abbrev P__law_base_powers : List Str := ["_law_base", "_law_ratio"]
abbrev s__law_ratios : Stmt := top 59
abbrev N__law_ratios : List Str := ["_law_pen_here", "_law_lots", "_law_found", "_law_lap", "_law_powers_here", "_law_k", "_law_one"]
abbrev P__law_ratios : List Str := ["_law_pen_here"]
abbrev s__law_refused : Stmt := top 60
abbrev N__law_refused : List Str := ["_law_kind", "_law_values", "e"]
abbrev P__law_refused : List Str := ["_law_kind", "_law_values"]
abbrev s_law : Stmt := top 61
abbrev N_law : List Str := ["_law_script", "_law_pen_here", "_law_turn", "_law_ratios_here", "_law_passed_here", "_law_told", "_law_wrong", "_law_last", "_law_kind", "_law_one"]
abbrev P_law : List Str := ["_law_script"]
structure Tx (K : PySem.W.Frag) (mg : Str → Option Value) : Prop where
  f_common_divisor : TopF K mg "common_divisor" s_common_divisor
  f_lowest : TopF K mg "lowest" s_lowest
  f_is_whole : TopF K mg "is_whole" s_is_whole
  f_is_ratio : TopF K mg "is_ratio" s_is_ratio
  f_told : TopF K mg "told" s_told
  f_told_above : TopF K mg "told_above" s_told_above
  f_refined : TopF K mg "refined" s_refined
  f_base_of : TopF K mg "base_of" s_base_of
  f_coprime_base : TopF K mg "coprime_base" s_coprime_base
  f_relations : TopF K mg "relations" s_relations
  f__law_pen : TopF K mg "_law_pen" s__law_pen
  f__law_draw : TopF K mg "_law_draw" s__law_draw
  f__law_pick : TopF K mg "_law_pick" s__law_pick
  f__law_big : TopF K mg "_law_big" s__law_big
  f__law_gcd : TopF K mg "_law_gcd" s__law_gcd
  f__law_q : TopF K mg "_law_q" s__law_q
  f__law_times : TopF K mg "_law_times" s__law_times
  f__law_is_whole : TopF K mg "_law_is_whole" s__law_is_whole
  f__law_passed : TopF K mg "_law_passed" s__law_passed
  f__law_power : TopF K mg "_law_power" s__law_power
  f__law_powers : TopF K mg "_law_powers" s__law_powers
  f__law_is_base : TopF K mg "_law_is_base" s__law_is_base
  f__law_base_powers : TopF K mg "_law_base_powers" s__law_base_powers
  f__law_ratios : TopF K mg "_law_ratios" s__law_ratios
  f__law_refused : TopF K mg "_law_refused" s__law_refused
  f_law : TopF K mg "law" s_law
  b_abs : mg "abs" = none
  b_len : mg "len" = none
  b_int : mg "int" = none
  b_bool : mg "bool" = none
  b_list : mg "list" = none
  b_tuple : mg "tuple" = none
  b_sorted : mg "sorted" = none
  b_str : mg "str" = none
  b_repr : mg "repr" = none
  b_range : mg "range" = none
  b_zip : mg "zip" = none
  b_isinstance : mg "isinstance" = none
structure TxE (K : PySem.W.Frag) (mg : Str → Option Value) : Prop extends Tx K mg where
  bad : Bad K mg s_BadNumber___init__
  p_as_powers : TopD K mg "as_powers" s_as_powers [.bl false]
end K90
namespace K90
open PySem PySem.Spec PyProof.Rows L2 AS
local macro_rules | `(tactic| walk_at "ev") => `(tactic| first
  | exact ev_vd rfl
  | exact ev_vp rfl
  | exact ev_int _
  | exact ev_non
  | exact ev_bl _
  | exact ev_str _
  | assumption
  | (apply ev_addI <;> walk_at "ev")
  | (apply ev_sub <;> walk_at "ev")
  | (apply ev_neg; walk_at "ev")
  | (apply ev_abs; walk_at "ev")
  | (apply ev_intA; walk_at "ev")
  | (apply ev_lt <;> walk_at "ev")
  | (apply ev_le <;> walk_at "ev")
  | (apply ev_gt <;> walk_at "ev")
  | (apply ev_ge <;> walk_at "ev")
  | (apply ev_eqI <;> walk_at "ev")
  | (apply ev_neI <;> walk_at "ev")
  | (apply ev_isN; walk_at "ev")
  | (apply ev_notN; walk_at "ev")
  | (apply ev_isi (by walk_at "ev") rfl; rfl)
  | skip)
local macro_rules | `(tactic| walk_at "ea") => `(tactic| first
  | exact ea_nil
  | (apply ea_cons; walk_at "ev"; walk_at "ea"))
local macro_rules | `(tactic| walk_at "call") => `(tactic| (first
  | exact (fun vs H Q h => ⟨_, h⟩)
  | exact (fun vs H Q h => ⟨_, _, h⟩)
  | exact (fun vs H Q h => ⟨_, _, _, h⟩)))

section
variable {P : Program} {w : World} {K : PySem.W.Frag} {mg : Str → Option Value} {base : Heap}
theorem abs_nat (a : Int) : (if a < 0 then -a else a) = ((a.natAbs : Nat) : Int) := by split <;> omega
def spCd (K : PySem.W.Frag) : Sp := fun vs H Q _ => ∃ a b : Int, spV K [.dat (.int a), .dat (.int b)] [] (.dat (.int (Int.gcd a b))) [] vs H Q
theorem sc_common_divisor : FnScope N_common_divisor P_common_divisor (defScope s_common_divisor) := ⟨rfl, rfl, rfl, by decide +kernel, rfl, by decide +kernel, by decide +kernel⟩
theorem ok_common_divisor (T : Tx K mg) : Cal P w K mg base CX0 1 "common_divisor" P_common_divisor (spCd K) := by
  refine T.f_common_divisor.cal sc_common_divisor (fun vs H Q E h => by obtain ⟨a, b, h⟩ := h; exact h.len) (fun _ _ _ _ _ _ us hl => match us, hl with | [_, _], _ => rfl) fun f cdv A outer s H vs Q E hr h => ?_
  obtain ⟨a, b, h⟩ := h
  refine ⟨_, (pss_cons (ps_par (i := 0) (j := 1) (by rfl) sc_common_divisor.nd rfl rfl (by decide) rfl rfl (pa_cons (pe_callB call_abs (by rfl) T.b_abs (by decide +kernel) (pa_cons (pv 0) pa_nil)) (pa_cons (pe_callB call_abs (by rfl) T.b_abs (by decide +kernel) (pa_cons (pv 1) pa_nil)) pa_nil)) (by rfl))
 (pss_cons (ps_while PassesOwn.never (pt_truth (pv 1) (by intro _; rfl))
 (pss_one (ps_par (i := 0) (j := 1) (by rfl) sc_common_divisor.nd rfl rfl (by decide) rfl rfl (pa_cons (pv 1) (pa_cons (pe_op op_modN (pv 0) (pv 1)) pa_nil)) (by rfl))))
 (pss_one (ps_ret (pv 0))))), fn_goD (l := [.int a, .int b]) h ?_⟩
  refine sd_then (sd_par (by walk_at "ea")) ?_
  rw [abs_nat, abs_nat]
  refine sd_seq (M := fun e w => e = [.dat (.int (Int.gcd a b)), .dat (.int 0)]) (sd_while (fun m e w => ∃ x y : Nat, e = [.dat (.int x), .dat (.int y)] ∧ y = m ∧ Nat.gcd x y = Int.gcd a b) b.natAbs ⟨a.natAbs, b.natAbs, rfl, rfl, rfl⟩ ?_) ?_
  · rintro y e w ⟨x, y', rfl, em, hg⟩
    cases em
    refine ⟨_, _, et_truI (by walk_at "ev"), fun hb => ?_, fun hb => ?_⟩
    · have : y = 0 := by simpa using hb
      subst this
      rw [← hg]; simp
    · have hy : 0 < y := by
        have : ((y : Int) != 0) = true := hb
        simp at this; omega
      refine sd_of (sd_par (ea_cons (by walk_at "ev") (ea_cons (ev_mod (by walk_at "ev") (by walk_at "ev") (by omega)) ea_nil))) ⟨x % y, Nat.mod_lt _ hy, y, x % y, ?_, rfl, ?_⟩
      · rw [Int.fmod_eq_emod_of_nonneg _ (by omega)]; rfl
      · rw [← hg, Nat.gcd_comm x y, Nat.gcd_rec y x, Nat.gcd_comm]
  · rintro e w rfl
    exact sd_ret (by walk_at "ev") rfl
def spLow (K : PySem.W.Frag) : Sp := fun vs H Q _ => ∃ t b : Int, b ≠ 0 ∧ b.natAbs.log2 < 9000 ∧ spV K [.dat (.int t), .dat (.int b)] [] (.dat (dq (Lw t b))) [] vs H Q
theorem sc_lowest : FnScope N_lowest P_lowest (defScope s_lowest) := ⟨rfl, rfl, rfl, by decide +kernel, rfl, by decide +kernel, by decide +kernel⟩
theorem ok_lowest (T : Tx K mg) : Cal P w K mg base CX0 2 "lowest" P_lowest (spLow K) := by
  refine T.f_lowest.cal sc_lowest (fun vs H Q E h => by obtain ⟨a, b, _, _, h⟩ := h; exact h.len) (fun _ _ _ _ _ _ us hl => match us, hl with | [_, _], _ => rfl) fun f cdv A outer s H vs Q E hr h => ?_
  obtain ⟨t, b, hb0, hb, h⟩ := h
  refine ⟨_, (pss_cons (ps_set (i := 2) sc_lowest.nd rfl (Or.inl rfl) (pe_cal (ok_common_divisor T) (hr.mono (by decide)) rfl (pa_cons (pv 0) (pa_cons (pv 1) pa_nil))))
 (pss_cons (ps_if (pt_cmpR op_lt (pv 1) pe_int (nomark _))
 (pss_one (ps_set (i := 2) sc_lowest.nd rfl (Or.inl rfl) (pe_un un_neg (pv 2))))
 pss_nil)
 (pss_one (ps_ret (pe_tup (pa_cons (pe_op op_fdivA (pv 0) (pv 2)) (pa_cons (pe_op op_fdivA (pv 1) (pv 2)) pa_nil))))))), fn_goD (l := [.int t, .int b]) h ?_⟩
  obtain ⟨d1, d2⟩ := lowS_div (t := t) hb0 hb
  refine sd_then (sd_asg (ev_callD (l := [.int t, .int b]) (by walk_at "ea") (fun vs H Q h => ⟨t, b, h⟩))) ?_
  refine sd_seq (M := fun e w => e = [.dat (.int t), .dat (.int b), .dat (.int (lowS t b))]) (sd_if (et_test (by walk_at "ev")) (fun hb => ?_) (fun hb => ?_)) ?_
  · refine sd_of (sd_asg (by walk_at "ev")) ?_
    unfold lowS
    rw [if_pos (of_decide_eq_true hb)]; rfl
  · refine sd_next ?_
    unfold lowS
    rw [if_neg (of_decide_eq_false hb)]; rfl
  · rintro e w rfl
    refine sd_ret (ev_tup (l := [_, _]) (ea_cons (ev_fdiv (by walk_at "ev") (by walk_at "ev") d1) (ea_cons (ev_fdiv (by walk_at "ev") (by walk_at "ev") d2) ea_nil)) (by simp)) rfl
def spWh (K : PySem.W.Frag) : Sp := fun vs H Q _ => ∃ d : D, d.kn = true ∧ spV K [.dat d] [] (.dat (.bl d.whole)) [] vs H Q
theorem sc_is_whole : FnScope N_is_whole P_is_whole (defScope s_is_whole) := ⟨rfl, rfl, rfl, by decide +kernel, rfl, by decide +kernel, by decide +kernel⟩
theorem ok_is_whole (T : Tx K mg) : Cal P w K mg base CX0 1 "is_whole" P_is_whole (spWh K) := by
  refine T.f_is_whole.cal sc_is_whole (fun vs H Q E h => by obtain ⟨a, _, h⟩ := h; exact h.len) (fun _ _ _ _ _ _ us hl => match us, hl with | [_], _ => rfl) fun f cdv A outer s H vs Q E hr h => ?_
  obtain ⟨d, hk, h⟩ := h
  refine ⟨_, (pss_one (ps_ret (pe_and (pe_callB call_isi (by rfl) T.b_isinstance (by decide +kernel) (pa_cons (pv 0) (pa_cons (pe_bltn (v := .ty "int") (u := .type "int") (by rfl) T.b_int (by decide +kernel) rfl) pa_nil))) (pe_one (pe_not (pe_callB call_isi (by rfl) T.b_isinstance (by decide +kernel) (pa_cons (pv 0) (pa_cons (pe_bltn (v := .ty "bool") (u := .type "bool") (by rfl) T.b_bool (by decide +kernel) rfl) pa_nil)))))))), fn_goD (l := [d]) h ?_⟩
  obtain ⟨m, hm⟩ := D.kn_of hk
  refine sd_ret (ev_is (ev_andV (ev_isi (ev_vd rfl) hm (kb_int d m hm)) fun _ => ev_notV (ev_isi (ev_vd rfl) hm (kb_bool d m hm))) ?_) rfl
  rw [kbT_whole hm]
/-- a value that may be asked for a ratio: its kind and its items' kinds are known -/
def Vd (d : D) : Prop := d.kn = true ∧ ∀ l, d = .tup l → ∀ x ∈ l, x.kn = true
def spIr (K : PySem.W.Frag) : Sp := fun vs H Q _ => ∃ d : D, Vd d ∧ spV K [.dat d] [] (.dat (.bl d.ratio)) [] vs H Q
theorem sc_is_ratio : FnScope N_is_ratio P_is_ratio (defScope s_is_ratio) := ⟨rfl, rfl, rfl, by decide +kernel, rfl, by decide +kernel, by decide +kernel⟩
theorem ok_is_ratio (T : Tx K mg) : Cal P w K mg base CX0 2 "is_ratio" P_is_ratio (spIr K) := by
  refine T.f_is_ratio.cal sc_is_ratio (fun vs H Q E h => by obtain ⟨a, _, h⟩ := h; exact h.len) (fun _ _ _ _ _ _ us hl => match us, hl with | [_], _ => rfl) fun f cdv A outer s H vs Q E hr h => ?_
  obtain ⟨d, ⟨hk, hi⟩, h⟩ := h
  refine ⟨_, (pss_cons (ps_if (pt_truth (pe_cal (ok_is_whole T) (hr.mono (by decide)) rfl (pa_cons (pv 0) pa_nil)) (by intro _; rfl))
 (pss_one (ps_ret pe_bl))
 pss_nil)
 (pss_cons (ps_if (PW.pt (pw_or (pt_not (pt_truth (pe_callB call_isi (by rfl) T.b_isinstance (by decide +kernel) (pa_cons (pv 0) (pa_cons (pe_bltn (v := .ty "tuple") (u := .type "tuple") (by rfl) T.b_tuple (by decide +kernel) rfl) pa_nil))) (by intro _; rfl))) (pw_or1 (pt_cmpR (op_neA hr.units) (pe_callB call_lenA (by rfl) T.b_len (by decide +kernel) (pa_cons (pv 0) pa_nil)) pe_int (nomark _)))))
 (pss_one (ps_ret pe_bl))
 pss_nil)
 (pss_one (ps_ret (pe_and (pe_cal (ok_is_whole T) (hr.mono (by decide)) rfl (pa_cons (pe_ix ix_seq (pv 0) pe_int (fun _ _ => rfl)) pa_nil)) (pe_and (pe_cal (ok_is_whole T) (hr.mono (by decide)) rfl (pa_cons (pe_ix ix_seq (pv 0) pe_int (fun _ _ => rfl)) pa_nil)) (pe_one (pe_cmpR op_gt (pe_ix ix_seq (pv 0) pe_int (fun _ _ => rfl)) pe_int (nomark _))))))))), fn_goD (l := [d]) h ?_⟩
  refine sd_seq (M := fun e w => e = [.dat d] ∧ w = [] ∧ d.whole = false) (sd_if (et_truB (ev_callD (l := [d]) (ea_cons (ev_vd rfl) ea_nil) (fun vs H Q h => ⟨d, hk, h⟩))) (fun hb => ?_) (fun hb => sd_next ⟨rfl, rfl, hb⟩)) ?_
  · refine sd_ret (ev_bl true) ?_
    cases d <;> simp_all [D.whole, D.ratio]
  · rintro e w ⟨rfl, rfl, hw⟩
    cases hd : d.isTup with
    | false =>
      refine sd_seq (M := fun _ _ => False) (sd_if (et_orT (et_not (a := false) (et_truB (ev_is (ev_isTuple (ev_vd rfl) hk) (by rw [hd])))) ) (fun _ => sd_ret (ev_bl false) ?_) (fun hb => by cases hb)) (fun _ _ x => x.elim)
      cases d <;> simp_all [D.whole, D.ratio, D.isTup]
    | true =>
      obtain ⟨l, rfl⟩ : ∃ l, d = .tup l := by cases d <;> simp_all [D.isTup]
      refine sd_seq (M := fun e w => e = [.dat (.tup l)] ∧ w = [] ∧ l.length = 2) (sd_if (et_orF (et_not (a := true) (et_truB (ev_isTuple (ev_vd rfl) hk))) (et_test (ev_neI (ev_len (ev_vd rfl) rfl) (ev_int 2)))) (fun hb => sd_ret (ev_bl false) ?_) (fun hb => sd_next ⟨rfl, rfl, ?_⟩)) ?_
      · have : ¬ l.length = 2 := by
          have h0 := hb
          simp at h0; omega
        show En.dat (.bl false) = .dat (.bl (D.ratio _))
        rw [ratio_len l this]
      · have := hb
        simp at this; omega
      · rintro e w ⟨rfl, rfl, hl⟩
        obtain ⟨x, y, rfl⟩ : ∃ x y, l = [x, y] := by
          match l, hl with
          | [x, y], _ => exact ⟨x, y, rfl⟩
        have hx : x.kn = true := hi _ rfl x (by simp)
        have hy : y.kn = true := hi _ rfl y (by simp)
        have i0 : ∀ {e : List En}, EV K (tOp (rIx K) (tVar 0) (tC (.int 0))) [.dat (.tup [x, y])] [] (.dat x) [] := fun {e} => ev_ix (ev_vd rfl) (ev_int 0) rfl rfl
        have i1 : ∀ {e : List En}, EV K (tOp (rIx K) (tVar 0) (tC (.int 1))) [.dat (.tup [x, y])] [] (.dat y) [] := fun {e} => ev_ix (ev_vd rfl) (ev_int 1) rfl rfl
        cases hwx : x.whole with
        | false =>
          refine sd_ret (ev_andV (a := false) (b := false) (ev_is (ev_callD (l := [x]) (ea_cons (i0 (e := [])) ea_nil) (fun vs H Q h => ⟨x, hx, h⟩)) (by rw [hwx])) (fun h => by cases h)) ?_
          cases x <;> simp_all [D.whole, D.ratio]
        | true =>
          obtain ⟨a, rfl⟩ : ∃ a, x = .int a := by cases x <;> simp_all [D.whole]
          cases hwy : y.whole with
          | false =>
            refine sd_ret (ev_andV (a := true) (b := false) (ev_callD (l := [.int a]) (ea_cons (i0 (e := [])) ea_nil) (fun vs H Q h => ⟨.int a, rfl, h⟩)) (fun _ => ev_andV (a := false) (b := false) (ev_is (ev_callD (l := [y]) (ea_cons (i1 (e := [])) ea_nil) (fun vs H Q h => ⟨y, hy, h⟩)) (by rw [hwy])) (fun h => by cases h))) ?_
            cases y <;> simp_all [D.whole, D.ratio]
          | true =>
            obtain ⟨b, rfl⟩ : ∃ b, y = .int b := by cases y <;> simp_all [D.whole]
            exact sd_ret (ev_andV (a := true) (ev_callD (l := [.int a]) (ea_cons (i0 (e := [])) ea_nil) (fun vs H Q h => ⟨.int a, rfl, h⟩)) (fun _ => ev_andV (a := true) (ev_callD (l := [.int b]) (ea_cons (i1 (e := [])) ea_nil) (fun vs H Q h => ⟨.int b, rfl, h⟩)) (fun _ => ev_gt (i1 (e := [])) (ev_int 0)))) rfl
def spLWh (K : PySem.W.Frag) : Sp := fun vs H Q _ => ∃ d : D, d.kn = true ∧ spV K [.dat d] [] (.dat (.bl d.whole)) [] vs H Q
theorem sc__law_is_whole : FnScope N__law_is_whole P__law_is_whole (defScope s__law_is_whole) := ⟨rfl, rfl, rfl, by decide +kernel, rfl, by decide +kernel, by decide +kernel⟩
theorem ok__law_is_whole (T : Tx K mg) : Cal P w K mg base CX0 1 "_law_is_whole" P__law_is_whole (spLWh K) := by
  refine T.f__law_is_whole.cal sc__law_is_whole (fun vs H Q E h => by obtain ⟨a, _, h⟩ := h; exact h.len) (fun _ _ _ _ _ _ us hl => match us, hl with | [_], _ => rfl) fun f cdv A outer s H vs Q E hr h => ?_
  obtain ⟨d, hk, h⟩ := h
  refine ⟨_, (pss_one (ps_ret (pe_and (pe_callB call_isi (by rfl) T.b_isinstance (by decide +kernel) (pa_cons (pv 0) (pa_cons (pe_bltn (v := .ty "int") (u := .type "int") (by rfl) T.b_int (by decide +kernel) rfl) pa_nil))) (pe_one (pe_not (pe_callB call_isi (by rfl) T.b_isinstance (by decide +kernel) (pa_cons (pv 0) (pa_cons (pe_bltn (v := .ty "bool") (u := .type "bool") (by rfl) T.b_bool (by decide +kernel) rfl) pa_nil)))))))), fn_goD (l := [d]) h ?_⟩
  obtain ⟨m, hm⟩ := D.kn_of hk
  refine sd_ret (ev_is (ev_andV (ev_isi (ev_vd rfl) hm (kb_int d m hm)) fun _ => ev_notV (ev_isi (ev_vd rfl) hm (kb_bool d m hm))) ?_) rfl
  rw [kbT_whole hm]
end
end K90
namespace K90
open PySem PySem.Spec PyProof.Rows L2 AS
local macro_rules | `(tactic| walk_at "ev") => `(tactic| first
  | exact ev_vd rfl
  | exact ev_vp rfl
  | exact ev_int _
  | exact ev_non
  | exact ev_bl _
  | exact ev_str _
  | assumption
  | (apply ev_addI <;> walk_at "ev")
  | (apply ev_sub <;> walk_at "ev")
  | (apply ev_neg; walk_at "ev")
  | (apply ev_abs; walk_at "ev")
  | (apply ev_intA; walk_at "ev")
  | (apply ev_lt <;> walk_at "ev")
  | (apply ev_le <;> walk_at "ev")
  | (apply ev_gt <;> walk_at "ev")
  | (apply ev_ge <;> walk_at "ev")
  | (apply ev_eqI <;> walk_at "ev")
  | (apply ev_neI <;> walk_at "ev")
  | (apply ev_isN; walk_at "ev")
  | (apply ev_notN; walk_at "ev")
  | (apply ev_isi (by walk_at "ev") rfl; rfl)
  | skip)
local macro_rules | `(tactic| walk_at "ea") => `(tactic| first
  | exact ea_nil
  | (apply ea_cons; walk_at "ev"; walk_at "ea"))
local macro_rules | `(tactic| walk_at "call") => `(tactic| (first
  | exact (fun vs H Q h => ⟨_, h⟩)
  | exact (fun vs H Q h => ⟨_, _, h⟩)
  | exact (fun vs H Q h => ⟨_, _, _, h⟩)))

section
variable {P : Program} {w : World} {K : PySem.W.Frag} {mg : Str → Option Value} {base : Heap}
def spDraw (K : PySem.W.Frag) : Sp := fun vs H Q _ => ∃ (n : Nat) (p : Pen) (m : Int), PenOk n p ∧ n < 2 ^ 40 ∧ 0 < m ∧ m < 2 ^ 60 ∧ spV K [.ptr 0, .dat (.int m)] [p.cn] (.dat (.int (draw p m).1)) [(draw p m).2.cn] vs H Q
theorem sc__law_draw : FnScope N__law_draw P__law_draw (defScope s__law_draw) := ⟨rfl, rfl, rfl, by decide +kernel, rfl, by decide +kernel, by decide +kernel⟩
theorem small_log {m : Int} (h : -(2 ^ 60) < m) (h2 : m < 2 ^ 60) : m.natAbs.log2 < 9000 := by
  have h1 : m.natAbs ≤ 2 ^ 60 := by omega
  have := log2_mono h1
  have e : (2 ^ 60 : Nat).log2 = 60 := by decide +kernel
  omega
theorem ok__law_draw (T : Tx K mg) : Cal P w K mg base CX0 1 "_law_draw" P__law_draw (spDraw K) := by
  refine T.f__law_draw.cal sc__law_draw (fun vs H Q E h => by obtain ⟨n, p, m, _, _, _, _, h⟩ := h; exact h.len) (fun _ _ _ _ _ _ us hl => match us, hl with | [_, _], _ => rfl) fun f cdv A outer s H vs Q E hr h => ?_
  obtain ⟨n, p, m, hp, hn, hm, hm2, h⟩ := h
  refine ⟨_, (pss_cons (ps_dput (hu_of hr) (pv 0) pe_str (pe_op (op_addX) (pe_dget (hu_of hr) (pv 0) pe_str (fun _ _ => rfl)) pe_int) rfl)
 (pss_cons (ps_if (PW.pt (pw_and (pt_cmpR (op_eqA hr.units) (pe_dget (hu_of hr) (pv 0) pe_str (fun _ _ => rfl)) pe_int (nomark _)) (pw_and1 (pt_cmpR op_lt (pe_dget (hu_of hr) (pv 0) pe_str (fun _ _ => rfl)) (pe_callB call_lenA (by rfl) T.b_len (by decide +kernel) (pa_cons (pe_dget (hu_of hr) (pv 0) pe_str (fun _ _ => rfl)) pa_nil)) (nomark _)))))
 (pss_cons (ps_set (i := 3) sc__law_draw.nd rfl (Or.inl rfl) (pe_ix ix_seq (pe_dget (hu_of hr) (pv 0) pe_str (fun _ _ => rfl)) (pe_dget (hu_of hr) (pv 0) pe_str (fun _ _ => rfl)) (fun _ _ => rfl)))
 (pss_cons (ps_dput (hu_of hr) (pv 0) pe_str (pe_op (op_addX) (pe_dget (hu_of hr) (pv 0) pe_str (fun _ _ => rfl)) pe_int) rfl)
 (pss_one (ps_if (pt_cmpR op_ge (pv 3) (pe_op op_pow pe_int pe_int) (nomark _))
 (pss_one (ps_dput (hu_of hr) (pv 0) pe_str (pe_op op_sub (pv 3) (pe_op op_pow pe_int pe_int)) rfl))
 (pss_one (ps_dput (hu_of hr) (pv 0) pe_str (pe_op op_modN (pe_callTy call_intA (by rfl) T.b_int (by decide +kernel) (pa_cons (pe_op (op_addX) (pe_op op_mulX (pe_dget (hu_of hr) (pv 0) pe_str (fun _ _ => rfl)) pe_int) (pv 3)) pa_nil)) pe_int) rfl))))))
 pss_nil)
 (pss_cons (ps_if (pt_cmpR op_gt (pe_dget (hu_of hr) (pv 0) pe_str (fun _ _ => rfl)) pe_int (nomark _))
 (pss_cons (ps_set (i := 4) sc__law_draw.nd rfl (Or.inl rfl) (pe_op op_modN (pe_callTy call_intA (by rfl) T.b_int (by decide +kernel) (pa_cons (pe_dget (hu_of hr) (pv 0) pe_str (fun _ _ => rfl)) pa_nil)) (pv 1)))
 (pss_cons (ps_dput (hu_of hr) (pv 0) pe_str (pe_op op_fdivA (pe_dget (hu_of hr) (pv 0) pe_str (fun _ _ => rfl)) (pv 1)) rfl)
 (pss_one (ps_ret (pv 4)))))
 pss_nil)
 (pss_cons (ps_set (i := 2) sc__law_draw.nd rfl (Or.inl rfl) (pe_op (op_addX) (pe_op (op_addX) (pe_dget (hu_of hr) (pv 0) pe_str (fun _ _ => rfl)) (pe_op op_mulX (pe_dget (hu_of hr) (pv 0) pe_str (fun _ _ => rfl)) pe_int)) pe_int))
 (pss_one (ps_ret (pe_op op_modN (pe_op op_fdivA (pe_callTy call_intA (by rfl) T.b_int (by decide +kernel) (pa_cons (pe_op op_modN (pe_op op_pow (pv 2) pe_int) pe_int) pa_nil)) pe_int) (pv 1)))))))), fn_go h trivial (fun c hc => by simp at hc; subst hc; exact Pen.cl _ _) rfl ?_⟩
  have hf := hp.fill
  have cdm : ∀ a, CDivA a m := fun a => ⟨by omega, small_log (by omega) hm2⟩
  show SD K _ [.ptr 0, .dat (.int m), .un, .un, .un] [p.cn] _
  refine sd_then (sd_pcount (ev_addI (ev_pcount rfl) (ev_int 1)) rfl) ?_
  refine sd_seq (M := fun e w => (∃ x, e = [.ptr 0, .dat (.int m), .un, x, .un]) ∧ w = [p.fill.cn]) ?_ ?_
  · by_cases hc : p.digits = 0 ∧ p.pos < p.cells.length
    · have hcell : (p.cells.map D.int |>.map En.dat)[p.pos]? = some (.dat (.int (p.cells.getD p.pos 0))) := by
        simp [hc.2]
      refine sd_if (et_and (a := true) (b := true) (et_test (ev_is (ev_eqI (ev_pdigits rfl) (ev_int 0)) (by simp [hc.1]))) fun _ => et_test (ev_is (ev_lt (ev_pat rfl) (ev_len (ev_pcells rfl) rfl)) (by simp [hc.2]))) (fun _ => ?_) (fun hb => by cases hb)
      refine sd_then (sd_asg (ev_ix (ev_pcells rfl) (ev_pat rfl) rfl (atI_nat hcell))) ?_
      refine sd_then (sd_pat (n := p.pos + 1) (ev_is (ev_addI (ev_pat rfl) (ev_int 1)) (by simp)) rfl) ?_
      refine sd_if (et_test (ev_ge (ev_vd rfl) (ev_pow (ev_int 10) (ev_int 18) ⟨by decide, by decide, by decide⟩))) (fun hb => ?_) (fun hb => ?_)
      · have hz : (10 : Int) ^ 18 ≤ p.cells.getD p.pos 0 := of_decide_eq_true hb
        refine sd_of (sd_pdigits (ev_sub (ev_vd rfl) (ev_pow (ev_int 10) (ev_int 18) ⟨by decide, by decide, by decide⟩)) rfl) ⟨⟨_, rfl⟩, ?_⟩
        unfold Pen.fill
        dsimp only
        rw [if_pos hc, if_pos hz]; rfl
      · have hz : ¬ (10 : Int) ^ 18 ≤ p.cells.getD p.pos 0 := of_decide_eq_false hb
        refine sd_of (sd_pfold (ev_mod (ev_intA (ev_addI (ev_mulI (ev_pfold rfl) (ev_int 69069) (.of_right (by decide))) (ev_vd rfl))) (ev_int 2147483587) (by decide)) rfl) ⟨⟨_, rfl⟩, ?_⟩
        unfold Pen.fill
        dsimp only
        rw [if_pos hc, if_neg hz, Int.fmod_eq_emod_of_nonneg _ (by decide)]
    · have hfill : p.fill = { p with count := p.count + 1 } := by
        unfold Pen.fill
        dsimp only
        rw [if_neg hc]
      refine sd_if (b := false) ?_ (fun hb => by cases hb) (fun _ => sd_next ⟨⟨_, rfl⟩, by rw [hfill]⟩)
      by_cases h1 : p.digits = 0
      · have h2 : ¬ p.pos < p.cells.length := fun x => hc ⟨h1, x⟩
        exact et_and (a := true) (b := false) (et_test (ev_is (ev_eqI (ev_pdigits rfl) (ev_int 0)) (by simp [h1]))) fun _ => et_test (ev_is (ev_lt (ev_pat rfl) (ev_len (ev_pcells rfl) rfl)) (by simp; omega))
      · exact et_and (a := false) (b := false) (et_test (ev_is (ev_eqI (ev_pdigits rfl) (ev_int 0)) (by simp [h1]))) fun hb => by cases hb
  · rintro e w ⟨⟨x, rfl⟩, rfl⟩
    refine sd_seq (M := fun e w => e = [.ptr 0, .dat (.int m), .un, x, .un] ∧ w = [p.fill.cn] ∧ ¬ 0 < p.fill.digits) (sd_if (et_test (ev_gt (ev_pdigits rfl) (ev_int 0))) (fun hb => ?_) (fun hb => sd_next ⟨rfl, rfl, of_decide_eq_false hb⟩)) ?_
    · have hd : 0 < p.fill.digits := of_decide_eq_true hb
      refine sd_then (sd_asg (ev_mod (ev_intA (ev_pdigits rfl)) (ev_vd rfl) (by omega))) ?_
      refine sd_then (sd_pdigits (ev_fdiv (ev_pdigits rfl) (ev_vd rfl) (cdm _)) rfl) ?_
      refine sd_ret (ev_vd rfl) ?_
      unfold AS.draw
      dsimp only
      rw [if_pos hd, Int.fmod_eq_emod_of_nonneg _ (by omega), Int.fdiv_eq_ediv_of_nonneg _ (by omega)]
      exact ⟨rfl, rfl⟩
    · rintro e w ⟨rfl, rfl, hd⟩
      have c0 := hf.count0
      have c1 := hf.count1
      have f0 := hf.fold0
      have f1 := hf.fold1
      refine sd_then (sd_asg (ev_addI (ev_addI (ev_pfold rfl) (ev_mulI (ev_pcount rfl) (ev_int 7907) (.of_right (by decide)))) (ev_int 37))) ?_
      refine sd_ret (ev_mod (ev_fdiv (ev_intA (ev_mod (ev_pow (ev_vd rfl) (ev_int 17) ⟨by decide, by decide, by omega⟩) (ev_int 2305843009213693951) (by decide))) (ev_int 128) ⟨by decide, by decide⟩) (ev_vd rfl) (by omega)) ?_
      unfold AS.draw
      dsimp only
      rw [if_neg hd, Int.fmod_eq_emod_of_nonneg _ (by omega), Int.fdiv_eq_ediv_of_nonneg _ (by omega), Int.fmod_eq_emod_of_nonneg _ (by omega)]
      exact ⟨rfl, rfl⟩
/-- a draw, as an expression -/
theorem ev_draw {E : XK} {tA : TA} {es : List En} {W R : List Cn} {n : Nat} {p : Pen} {m : Int} (ha : EA K tA es W [.ptr 0, .dat (.int m)] (p.cn :: R)) (hp : PenOk n p) (hn : n < 2 ^ 40) (hm : 0 < m) (hm2 : m < 2 ^ 60) : EV K (tCall (spDraw K) [] E tA) es W (.dat (.int (draw p m).1)) ((draw p m).2.cn :: R) :=
  ev_call (cW := [p.cn]) (R := R) (cW' := [(draw p m).2.cn]) ha (fun vs H Q h => ⟨n, p, m, hp, hn, hm, hm2, h⟩) rfl (fun e he => by simp at he; rcases he with rfl | rfl; exact (by decide : 0 < 1); trivial) (fun c hc => by simp at hc; subst hc; exact Pen.cl _ _)
/-- picks an item: the place is drawn -/
def spPick (K : PySem.W.Frag) : Sp := fun vs H Q _ => ∃ (n : Nat) (p : Pen) (l : List D) (d : D), PenOk n p ∧ n < 2 ^ 40 ∧ 0 < l.length ∧ l.length < 2 ^ 40 ∧ l[(draw p l.length).1.toNat]? = some d ∧
  spV K [.ptr 0, .dat (.lst l)] [p.cn] (.dat d) [(draw p l.length).2.cn] vs H Q
theorem sc__law_pick : FnScope N__law_pick P__law_pick (defScope s__law_pick) := ⟨rfl, rfl, rfl, by decide +kernel, rfl, by decide +kernel, by decide +kernel⟩
theorem pick_get {p : Pen} {l : List D} (h0 : 0 < l.length) : ∃ d, l[(draw p l.length).1.toNat]? = some d ∧ d ∈ l := by
  have hd := draw_range p (m := (l.length : Int)) (by omega)
  have hj : (draw p l.length).1.toNat < l.length := by omega
  exact ⟨l[(draw p l.length).1.toNat], by simp [hj], by simp⟩
theorem ok__law_pick (T : Tx K mg) : Cal P w K mg base CX0 2 "_law_pick" P__law_pick (spPick K) := by
  refine T.f__law_pick.cal sc__law_pick (fun vs H Q E h => by obtain ⟨n, p, l, d, _, _, _, _, _, h⟩ := h; exact h.len) (fun _ _ _ _ _ _ us hl => match us, hl with | [_, _], _ => rfl) fun f cdv A outer s H vs Q E hr h => ?_
  obtain ⟨n, p, l, d, hp, hn, hl, hl2, hget, h⟩ := h
  refine ⟨_, (pss_one (ps_ret (pe_ix ix_seq (pv 1) (pe_cal (ok__law_draw T) (hr.mono (by decide)) rfl (pa_cons (pv 0) (pa_cons (pe_callB call_lenA (by rfl) T.b_len (by decide +kernel) (pa_cons (pv 1) pa_nil)) pa_nil))) (fun _ _ => rfl)))), fn_go h trivial (fun c hc => by simp at hc; subst hc; exact Pen.cl _ _) rfl ?_⟩
  have hd := draw_range p (m := (l.length : Int)) (by omega)
  refine sd_ret (ev_ix (l := l.map .dat) (i := (draw p l.length).1) (e := .dat d) (ev_vd rfl) (ev_draw (R := []) (m := (l.length : Int)) (ea_cons (ev_vp rfl) (ea_cons (ev_is (ev_len (l := l.map .dat) (ev_vd rfl) rfl) (by simp)) ea_nil)) hp hn (by omega) (by omega)) rfl ?_) ⟨rfl, rfl⟩
  have e : (draw p l.length).1 = (((draw p l.length).1.toNat : Nat) : Int) := by omega
  rw [e]
  refine atI_nat ?_
  rw [List.getElem?_map, hget]
  rfl
/-- a pick, as an expression -/
theorem ev_pick {E : XK} {tA : TA} {es : List En} {W R : List Cn} {n : Nat} {p : Pen} {l : List D} {d : D} (ha : EA K tA es W [.ptr 0, .dat (.lst l)] (p.cn :: R)) (hp : PenOk n p) (hn : n < 2 ^ 40) (h0 : 0 < l.length) (h1 : l.length < 2 ^ 40) (hd : l[(draw p l.length).1.toNat]? = some d) :
    EV K (tCall (spPick K) [] E tA) es W (.dat d) ((draw p l.length).2.cn :: R) :=
  ev_call (cW := [p.cn]) (R := R) (cW' := [(draw p l.length).2.cn]) ha (fun vs H Q h => ⟨n, p, l, d, hp, hn, h0, h1, hd, h⟩) rfl (fun e he => by simp at he; rcases he with rfl | rfl; exact (by decide : 0 < 1); trivial) (fun c hc => by simp at hc; subst hc; exact Pen.cl _ _)
/-- the pen that is made of a script: SqL, as the script is frozen -/
def spPen (K : PySem.W.Frag) : Sp := fun vs H Q _ => ∃ ns : List Int, spN K [.dat (.rl (ns.map .int))] [] [] ({ cells := ns, pos := 0, digits := 0, count := 0, fold := ns.foldl (fun f x => (f * 41 + x) % 1000000007) 0 } : Pen).cn vs H Q
theorem sc__law_pen : FnScope N__law_pen P__law_pen (defScope s__law_pen) := ⟨rfl, rfl, rfl, by decide +kernel, rfl, by decide +kernel, by decide +kernel⟩
theorem fold_range : ∀ (ns : List Int) (a : Int), 0 ≤ a → a < 2147483648 → 0 ≤ ns.foldl (fun f x => (f * 41 + x) % 1000000007) a ∧ ns.foldl (fun f x => (f * 41 + x) % 1000000007) a < 2147483648
  | [], a, h1, h2 => ⟨h1, h2⟩
  | x :: r, a, _, _ => fold_range r _ (Int.emod_nonneg _ (by decide)) (Int.lt_trans (Int.emod_lt_of_pos _ (by decide)) (by decide))
theorem pen0_ok (ns : List Int) : PenOk 0 { cells := ns, pos := 0, digits := 0, count := 0, fold := ns.foldl (fun f x => (f * 41 + x) % 1000000007) 0 } :=
  ⟨Int.le_refl _, (fold_range ns 0 (by decide) (by decide)).1, (fold_range ns 0 (by decide) (by decide)).2, Int.le_refl _, Int.le_refl _⟩
theorem ok__law_pen (T : Tx K mg) : Cal P w K mg base CX0 1 "_law_pen" P__law_pen (spPen K) := by
  refine T.f__law_pen.cal sc__law_pen (fun vs H Q E h => by obtain ⟨ns, h⟩ := h; exact h.len) (fun _ _ _ _ _ _ us hl => match us, hl with | [_], _ => rfl) fun f cdv A outer s H vs Q E hr h => ?_
  obtain ⟨ns, h⟩ := h
  refine ⟨_, (pss_cons (ps_set (i := 1) sc__law_pen.nd rfl (Or.inl rfl) pe_int)
 (pss_cons (ps_for PassesOwn.never rfl (pi_seq (pi_list (pv 0)) (pi_tup (pv 0))) (pg_name (i := 2) sc__law_pen.nd rfl (Or.inl rfl))
 (pss_one (ps_set (i := 1) sc__law_pen.nd rfl (Or.inl rfl) (pe_op op_modN (pe_callTy call_intA (by rfl) T.b_int (by decide +kernel) (pa_cons (pe_op (op_addX) (pe_op op_mulX (pv 1) pe_int) (pv 2)) pa_nil)) pe_int))))
 (pss_one (ps_ret (pe_disp (pps_cons pe_str (pe_callTy call_list_of (by rfl) T.b_list (by decide +kernel) (pa_cons (pv 0) pa_nil)) (pps_cons pe_str pe_int (pps_cons pe_str pe_int (pps_cons pe_str pe_int (pps_cons pe_str (pv 1) pps_nil))))) (by rfl) (by rfl) (fun z => by cases z) (by decide)))))), fn_goN h (fun c hc => absurd hc (by simp)) (Pen.cl _ _) rfl rfl ?_⟩
  show SD K _ [.dat (.rl (ns.map .int)), .un, .un] [] _
  refine sd_then (sd_asg (ev_int 0)) ?_
  refine sd_seq (M := fun e w => (∃ x, e = [.dat (.rl (ns.map .int)), .dat (.int (ns.foldl (fun f x => (f * 41 + x) % 1000000007) 0)), x]) ∧ w = []) ?_ ?_
  · refine sd_for (ei_rl (ev_vd rfl)) (fun i e w => (∃ x, e = [.dat (.rl (ns.map .int)), .dat (.int ((ns.take i).foldl (fun f x => (f * 41 + x) % 1000000007) 0)), x]) ∧ w = []) ⟨⟨.un, rfl⟩, rfl⟩ (fun _ _ _ _ => trivial) ?_ ?_
    · rintro i x e w hx ⟨⟨y, rfl⟩, rfl⟩
      obtain ⟨z, hz, rfl⟩ : ∃ z, ns[i]? = some z ∧ x = .dat (.int z) := by
        rw [List.getElem?_map, List.getElem?_map] at hx
        cases q : ns[i]? with
        | none => rw [q] at hx; cases hx
        | some z => rw [q] at hx; cases hx; exact ⟨z, rfl, rfl⟩
      have ht : ns.take (i + 1) = ns.take i ++ [z] := by
        rw [List.take_add_one, hz]; rfl
      refine ⟨[2], _, eg_name, sd_of (sd_asg (ev_mod (ev_intA (ev_addI (ev_mulI (ev_vd rfl) (ev_int 41) (.of_right (by decide))) (ev_vd rfl))) (ev_int 1000000007) (by decide))) ⟨⟨.dat (.int z), ?_⟩, rfl⟩⟩
      rw [Int.fmod_eq_emod_of_nonneg _ (by decide)]
      rw [ht, List.foldl_append]
      rfl
    · rintro e w ⟨⟨y, rfl⟩, rfl⟩
      have : (List.map En.dat (List.map D.int ns)).length = ns.length := by simp
      rw [this, List.take_length]
      exact ⟨⟨_, rfl⟩, rfl⟩
  · rintro e w ⟨⟨x, rfl⟩, rfl⟩
    refine sd_ret (ev_disp (l := [("cells", .lst (ns.map .int)), ("at", .int 0), ("digits", .int 0), ("count", .int 0), ("fold", .int (ns.foldl (fun f x => (f * 41 + x) % 1000000007) 0))]) (ep_cons (ev_str _) (ev_list (ev_vd rfl) rfl) (ep_cons (ev_str _) (ev_int 0) (ep_cons (ev_str _) (ev_int 0) (ep_cons (ev_str _) (ev_int 0) (ep_cons (ev_str _) (ev_vd rfl) ep_nil))))) (by simp)) ?_
    refine ⟨0, rfl, ?_, Nat.le_refl _, rfl⟩
    show some (Cn.dct _) = some (Cn.dct _)
    rw [pen_made ns]
end
end K90
namespace K90
open PySem PySem.Spec PyProof.Rows L2 AS
local macro_rules | `(tactic| walk_at "ev") => `(tactic| first
  | exact ev_vd rfl
  | exact ev_vp rfl
  | exact ev_int _
  | exact ev_non
  | exact ev_bl _
  | exact ev_str _
  | assumption
  | (apply ev_addI <;> walk_at "ev")
  | (apply ev_sub <;> walk_at "ev")
  | (apply ev_neg; walk_at "ev")
  | (apply ev_abs; walk_at "ev")
  | (apply ev_intA; walk_at "ev")
  | (apply ev_lt <;> walk_at "ev")
  | (apply ev_le <;> walk_at "ev")
  | (apply ev_gt <;> walk_at "ev")
  | (apply ev_ge <;> walk_at "ev")
  | (apply ev_eqI <;> walk_at "ev")
  | (apply ev_neI <;> walk_at "ev")
  | (apply ev_isN; walk_at "ev")
  | (apply ev_notN; walk_at "ev")
  | (apply ev_isi (by walk_at "ev") rfl; rfl)
  | skip)
local macro_rules | `(tactic| walk_at "ea") => `(tactic| first
  | exact ea_nil
  | (apply ea_cons; walk_at "ev"; walk_at "ea"))
local macro_rules | `(tactic| walk_at "call") => `(tactic| (first
  | exact (fun vs H Q h => ⟨_, h⟩)
  | exact (fun vs H Q h => ⟨_, _, h⟩)
  | exact (fun vs H Q h => ⟨_, _, _, h⟩)))

section
variable {P : Program} {w : World} {K : PySem.W.Frag} {mg : Str → Option Value} {base : Heap}
def spLG (K : PySem.W.Frag) : Sp := fun vs H Q _ => ∃ a b : Int, b.natAbs < 2 ^ 30000 ∧ spV K [.dat (.int a), .dat (.int b)] [] (.dat (.int (Int.gcd a b))) [] vs H Q
theorem sc__law_gcd : FnScope N__law_gcd P__law_gcd (defScope s__law_gcd) := ⟨rfl, rfl, rfl, by decide +kernel, rfl, by decide +kernel, by decide +kernel⟩
theorem ok__law_gcd (T : Tx K mg) : Cal P w K mg base CX0 1 "_law_gcd" P__law_gcd (spLG K) := by
  refine T.f__law_gcd.cal sc__law_gcd (fun vs H Q E h => by obtain ⟨a, b, _, h⟩ := h; exact h.len) (fun _ _ _ _ _ _ us hl => match us, hl with | [_, _], _ => rfl) fun f cdv A outer s H vs Q E hr h => ?_
  obtain ⟨a, b, hb, h⟩ := h
  refine ⟨_, (pss_cons (ps_par (i := 0) (j := 1) (by rfl) sc__law_gcd.nd rfl rfl (by decide) rfl rfl (pa_cons (pe_callB call_abs (by rfl) T.b_abs (by decide +kernel) (pa_cons (pv 0) pa_nil)) (pa_cons (pe_callB call_abs (by rfl) T.b_abs (by decide +kernel) (pa_cons (pv 1) pa_nil)) pa_nil)) (by rfl))
 (pss_cons (ps_for PassesOwn.never rfl (pi_range1 rfl T.b_range (pa_cons pe_int pa_nil)) (pg_name (i := 2) sc__law_gcd.nd rfl (Or.inl rfl))
 (pss_cons (ps_if (pt_cmpR (op_eqA hr.units) (pv 1) pe_int (nomark _))
 (pss_one ps_break)
 pss_nil)
 (pss_one (ps_par (i := 0) (j := 1) (by rfl) sc__law_gcd.nd rfl rfl (by decide) rfl rfl (pa_cons (pv 1) (pa_cons (pe_op op_modN (pe_callTy call_intA (by rfl) T.b_int (by decide +kernel) (pa_cons (pv 0) pa_nil)) (pv 1)) pa_nil)) (by rfl)))))
 (pss_one (ps_ret (pv 0))))), fn_goD (l := [.int a, .int b]) h ?_⟩
  refine sd_then (sd_par (by walk_at "ea")) ?_
  rw [abs_nat, abs_nat]
  refine sd_seq (M := fun e w => ∃ y z, e = [.dat (.int (Int.gcd a b)), y, z]) ?_ ?_
  · refine sd_for (ei_rng1 (by walk_at "ea") (by decide)) (fun i e w => ∃ (x y : Nat) (z : En), e = [.dat (.int x), .dat (.int y), z] ∧ Nat.gcd x y = Int.gcd a b ∧ reach (60000 - i) x y) ⟨a.natAbs, b.natAbs, _, rfl, rfl, reach_mono (by decide) (reach_pow 30000 _ _ hb)⟩ (fun _ _ _ _ => trivial) ?_ ?_
    · rintro i v e w hv ⟨x, y, z, rfl, hg, hrch⟩
      obtain ⟨hi, rfl⟩ := rngE_of hv
      have hi : i < 60000 := hi
      refine ⟨[2], _, eg_name, ?_⟩
      refine sd_seq (M := fun e w => e = [.dat (.int x), .dat (.int y), .dat (.int (0 + (i : Int)))] ∧ y ≠ 0) (sd_if (et_test (by walk_at "ev")) (fun hb => ?_) (fun hb => sd_next ⟨rfl, ?_⟩)) ?_
      · have : y = 0 := by
          have := of_decide_eq_true hb
          omega
        subst this
        refine sd_break ⟨.dat (.int 0), .dat (.int (0 + (i : Int))), ?_⟩
        rw [← hg]
        simp
      · have := of_decide_eq_false hb
        omega
      · rintro e w ⟨rfl, hy⟩
        refine sd_of (sd_par (ea_cons (by walk_at "ev") (ea_cons (ev_mod (by walk_at "ev") (by walk_at "ev") (by omega)) ea_nil))) ⟨y, x % y, .dat (.int (0 + (i : Int))), ?_, ?_, ?_⟩
        · rw [Int.fmod_eq_emod_of_nonneg _ (by omega)]; rfl
        · rw [← hg, Nat.gcd_comm x y, Nat.gcd_rec y x, Nat.gcd_comm]
        · have e : 60000 - i = (60000 - (i + 1)) + 1 := by omega
          rw [e] at hrch
          rcases hrch with h0 | h0
          · exact absurd h0 hy
          · exact h0
    · rintro e w ⟨x, y, z, rfl, hg, hrch⟩
      have : y = 0 := by
        rw [rngE_length] at hrch
        exact hrch
      subst this
      refine ⟨.dat (.int 0), z, ?_⟩
      rw [← hg]
      simp
  · rintro e w ⟨y, z, rfl⟩
    exact sd_ret (by walk_at "ev") rfl
def spLQ (K : PySem.W.Frag) : Sp := fun vs H Q _ => ∃ t b : Int, b ≠ 0 ∧ b.natAbs < 2 ^ 8000 ∧ spV K [.dat (.int t), .dat (.int b)] [] (.dat (dq (Lw t b))) [] vs H Q
theorem sc__law_q : FnScope N__law_q P__law_q (defScope s__law_q) := ⟨rfl, rfl, rfl, by decide +kernel, rfl, by decide +kernel, by decide +kernel⟩
theorem ok__law_q (T : Tx K mg) : Cal P w K mg base CX0 2 "_law_q" P__law_q (spLQ K) := by
  refine T.f__law_q.cal sc__law_q (fun vs H Q E h => by obtain ⟨a, b, _, _, h⟩ := h; exact h.len) (fun _ _ _ _ _ _ us hl => match us, hl with | [_, _], _ => rfl) fun f cdv A outer s H vs Q E hr h => ?_
  obtain ⟨t, b, hb0, hb, h⟩ := h
  refine ⟨_, (pss_cons (ps_set (i := 2) sc__law_q.nd rfl (Or.inl rfl) (pe_cal (ok__law_gcd T) (hr.mono (by decide)) rfl (pa_cons (pv 0) (pa_cons (pv 1) pa_nil))))
 (pss_cons (ps_if (pt_cmpR op_lt (pv 1) pe_int (nomark _))
 (pss_one (ps_set (i := 2) sc__law_q.nd rfl (Or.inl rfl) (pe_un un_neg (pv 2))))
 pss_nil)
 (pss_one (ps_ret (pe_tup (pa_cons (pe_op op_fdivA (pv 0) (pv 2)) (pa_cons (pe_op op_fdivA (pv 1) (pv 2)) pa_nil))))))), fn_goD (l := [.int t, .int b]) h ?_⟩
  obtain ⟨d1, d2⟩ := lowS_div (t := t) hb0 (log2_lt hb (by decide) (by decide))
  have hb2 : b.natAbs < 2 ^ 30000 := Nat.lt_of_lt_of_le hb (Nat.pow_le_pow_right (by decide) (by decide))
  refine sd_then (sd_asg (ev_callD (l := [.int t, .int b]) (by walk_at "ea") (fun vs H Q h => ⟨t, b, hb2, h⟩))) ?_
  refine sd_seq (M := fun e w => e = [.dat (.int t), .dat (.int b), .dat (.int (lowS t b))]) (sd_if (et_test (by walk_at "ev")) (fun hb => ?_) (fun hb => ?_)) ?_
  · refine sd_of (sd_asg (by walk_at "ev")) ?_
    unfold lowS
    rw [if_pos (of_decide_eq_true hb)]; rfl
  · refine sd_next ?_
    unfold lowS
    rw [if_neg (of_decide_eq_false hb)]; rfl
  · rintro e w rfl
    refine sd_ret (ev_tup (l := [_, _]) (ea_cons (ev_fdiv (by walk_at "ev") (by walk_at "ev") d1) (ea_cons (ev_fdiv (by walk_at "ev") (by walk_at "ev") d2) ea_nil)) (by simp)) rfl
/-- a ratio's parts are below 2 ^ n, the bottom above 0 -/
def Sz (n : Nat) (q : Int × Int) : Prop := q.1.natAbs < 2 ^ n ∧ 0 < q.2 ∧ q.2.natAbs < 2 ^ n
def tmQ (q r : Int × Int) : Int × Int := Lw (q.1 * r.1) (q.2 * r.2)
theorem Lw_size {t b : Int} {n : Nat} (hb : 0 < b) (h1 : t.natAbs < 2 ^ n) (h2 : b.natAbs < 2 ^ n) : Sz n (Lw t b) := by
  have hg : 0 < Int.gcd t b := Int.gcd_pos_of_ne_zero_right _ (by omega)
  rw [Lw_pos hb]
  refine ⟨?_, ?_, ?_⟩
  · exact Nat.lt_of_le_of_lt (Int.natAbs_ediv_le_natAbs _ _) h1
  · have hd := Int.gcd_dvd_right t b
    exact Int.ediv_pos_of_pos_of_dvd hb (by omega) hd
  · exact Nat.lt_of_le_of_lt (Int.natAbs_ediv_le_natAbs _ _) h2
theorem tm_size {q r : Int × Int} {n m : Nat} (h1 : Sz n q) (h2 : Sz m r) : Sz (n + m) (tmQ q r) :=
  Lw_size (Int.mul_pos h1.2.1 h2.2.1) (wide_lt h1.1 h2.1) (wide_lt h1.2.2 h2.2.2)
def spLT (K : PySem.W.Frag) : Sp := fun vs H Q _ => ∃ (q r : Int × Int) (n m : Nat), Sz n q ∧ Sz m r ∧ n + m ≤ 8000 ∧ spV K [.dat (dq q), .dat (dq r)] [] (.dat (dq (tmQ q r))) [] vs H Q
theorem sc__law_times : FnScope N__law_times P__law_times (defScope s__law_times) := ⟨rfl, rfl, rfl, by decide +kernel, rfl, by decide +kernel, by decide +kernel⟩
theorem ok__law_times (T : Tx K mg) : Cal P w K mg base CX0 3 "_law_times" P__law_times (spLT K) := by
  refine T.f__law_times.cal sc__law_times (fun vs H Q E h => by obtain ⟨a, b, n, m, _, _, _, h⟩ := h; exact h.len) (fun _ _ _ _ _ _ us hl => match us, hl with | [_, _], _ => rfl) fun f cdv A outer s H vs Q E hr h => ?_
  obtain ⟨q, r, n, m, hq, hr', hnm, h⟩ := h
  refine ⟨_, (pss_one (ps_ret (pe_cal (ok__law_q T) (hr.mono (by decide)) rfl (pa_cons (pe_op op_mulX (pe_ix ix_seq (pv 0) pe_int (fun _ _ => rfl)) (pe_ix ix_seq (pv 1) pe_int (fun _ _ => rfl))) (pa_cons (pe_op op_mulX (pe_ix ix_seq (pv 0) pe_int (fun _ _ => rfl)) (pe_ix ix_seq (pv 1) pe_int (fun _ _ => rfl))) pa_nil))))), fn_goD (l := [dq q, dq r]) h ?_⟩
  have i0 : ∀ {j : Nat} {e : D} {x y : D}, ([En.dat (dq q), En.dat (dq r)])[j]? = some (.dat (.tup [x, y])) → EV K (tOp (rIx K) (tVar j) (tC (.int 0))) [.dat (dq q), .dat (dq r)] [] (.dat x) [] := fun {j e x y} h => ev_ix (ev_vd h) (ev_int 0) rfl rfl
  have i1 : ∀ {j : Nat} {e : D} {x y : D}, ([En.dat (dq q), En.dat (dq r)])[j]? = some (.dat (.tup [x, y])) → EV K (tOp (rIx K) (tVar j) (tC (.int 1))) [.dat (dq q), .dat (dq r)] [] (.dat y) [] := fun {j e x y} h => ev_ix (ev_vd h) (ev_int 1) rfl rfl
  have hp := Int.mul_pos hq.2.1 hr'.2.1
  have hs := Nat.lt_of_lt_of_le (wide_lt hq.2.2 hr'.2.2) (Nat.pow_le_pow_right (by decide) hnm)
  refine sd_ret (ev_callD (l := [.int (q.1 * r.1), .int (q.2 * r.2)]) (ea_cons (ev_mulI (i0 (e := .non) rfl) (i0 (e := .non) rfl) (mulOk_bits hq.1 hr'.1 (by omega))) (ea_cons (ev_mulI (i1 (e := .non) rfl) (i1 (e := .non) rfl) (mulOk_bits hq.2.2 hr'.2.2 (by omega))) ea_nil)) (fun vs H Q h => ⟨_, _, by omega, hs, h⟩)) rfl
end
end K90
namespace K90
open PySem PySem.Spec PyProof.Rows L2 AS
local macro_rules | `(tactic| walk_at "ev") => `(tactic| first
  | exact ev_vd rfl
  | exact ev_vp rfl
  | exact ev_int _
  | exact ev_non
  | exact ev_bl _
  | exact ev_str _
  | assumption
  | (apply ev_addI <;> walk_at "ev")
  | (apply ev_sub <;> walk_at "ev")
  | (apply ev_neg; walk_at "ev")
  | (apply ev_abs; walk_at "ev")
  | (apply ev_intA; walk_at "ev")
  | (apply ev_lt <;> walk_at "ev")
  | (apply ev_le <;> walk_at "ev")
  | (apply ev_gt <;> walk_at "ev")
  | (apply ev_ge <;> walk_at "ev")
  | (apply ev_eqI <;> walk_at "ev")
  | (apply ev_neI <;> walk_at "ev")
  | (apply ev_isN; walk_at "ev")
  | (apply ev_notN; walk_at "ev")
  | (apply ev_isi (by walk_at "ev") rfl; rfl)
  | skip)
local macro_rules | `(tactic| walk_at "ea") => `(tactic| first
  | exact ea_nil
  | (apply ea_cons; walk_at "ev"; walk_at "ea"))
local macro_rules | `(tactic| walk_at "call") => `(tactic| (first
  | exact (fun vs H Q h => ⟨_, h⟩)
  | exact (fun vs H Q h => ⟨_, _, h⟩)
  | exact (fun vs H Q h => ⟨_, _, _, h⟩)))

section
variable {P : Program} {w : World} {K : PySem.W.Frag} {mg : Str → Option Value} {base : Heap}
def spBig (K : PySem.W.Frag) : Sp := fun vs H Q _ => ∃ (n : Nat) (p : Pen) (f : Nat), PenOk n p ∧ n < 2 ^ 39 ∧ 1 ≤ f ∧ f ≤ 30 ∧ spV K [.ptr 0, .dat (.int f)] [p.cn] (.dat (.int (big p f).1)) [(big p f).2.cn] vs H Q
theorem sc__law_big : FnScope N__law_big P__law_big (defScope s__law_big) := ⟨rfl, rfl, rfl, by decide +kernel, rfl, by decide +kernel, by decide +kernel⟩
theorem ok__law_big (T : Tx K mg) : Cal P w K mg base CX0 3 "_law_big" P__law_big (spBig K) := by
  refine T.f__law_big.cal sc__law_big (fun vs H Q E h => by obtain ⟨n, p, m, _, _, _, _, h⟩ := h; exact h.len) (fun _ _ _ _ _ _ us hl => match us, hl with | [_, _], _ => rfl) fun f cdv A outer s H vs Q E hr h => ?_
  obtain ⟨n, p, f, hp, hn, hf, hf2, h⟩ := h
  refine ⟨_, (pss_cons (ps_set (i := 2) sc__law_big.nd rfl (Or.inl rfl) pe_int)
 (pss_cons (ps_for PassesOwn.never rfl (pi_range1 rfl T.b_range (pa_cons (pe_cal (ok__law_pick T) (hr.mono (by decide)) rfl (pa_cons (pv 0) (pa_cons (pe_lst (pa_cons pe_int (pa_cons pe_int (pa_cons pe_int (pa_cons pe_int (pa_cons pe_int (pa_cons (pe_op op_fdivA (pe_op (op_addX) (pv 1) pe_int) pe_int) pa_nil))))))) pa_nil))) pa_nil)) (pg_name (i := 3) sc__law_big.nd rfl (Or.inl rfl))
 (pss_one (ps_set (i := 2) sc__law_big.nd rfl (Or.inl rfl) (pe_op (op_addX) (pe_op op_mulX (pv 2) pe_int) (pe_cal (ok__law_draw T) (hr.mono (by decide)) rfl (pa_cons (pv 0) (pa_cons pe_int pa_nil)))))))
 (pss_one (ps_ret (pe_callTy call_intA (by rfl) T.b_int (by decide +kernel) (pa_cons (pe_slice sl_any (pe_callTy call_str_int (by rfl) T.b_str (by decide +kernel) (pa_cons (pv 2) pa_nil)) (po_some (pe_un un_neg (pv 1))) po_none) pa_nil)))))), fn_go h trivial (fun c hc => by simp at hc; subst hc; exact Pen.cl _ _) rfl ?_⟩
  show SD K _ [.ptr 0, .dat (.int f), .un, .un] [p.cn] _
  have hb := bigN_range p (f := (f : Int)) (by omega) (by omega)
  have p1 := hp.draw (m := 6) (by decide)
  have ok := bigL_ok p1
  have hd := draw_range p (m := 6) (by decide)
  have hget : ([.int 1, .int 1, .int 1, .int 2, .int 3, .int (((f : Int) + 2) / 3)] : List D)[(draw p 6).1.toNat]? = some (.int (bigN p f)) := by
    unfold bigN
    generalize hj : (draw p 6).1.toNat = j
    have hj6 : j < 6 := by omega
    match j, hj6 with
    | 0, _ => rfl
    | 1, _ => rfl
    | 2, _ => rfl
    | 3, _ => rfl
    | 4, _ => rfl
    | 5, _ => rfl
  have h3 : (((f : Int) + 2).fdiv 3) = ((f : Int) + 2) / 3 := Int.fdiv_eq_ediv_of_nonneg _ (by decide)
  refine sd_then (sd_asg (ev_int 0)) ?_
  refine sd_seq (M := fun e w => (∃ x, e = [.ptr 0, .dat (.int f), .dat (.int (bigL (draw p 6).2 (bigN p f).toNat).1), x]) ∧ w = [(bigL (draw p 6).2 (bigN p f).toNat).2.cn]) ?_ ?_
  · refine sd_for (ei_rng1 (W1 := [(draw p 6).2.cn]) (n := bigN p f) (ea_cons (ev_pick (R := []) (p := p) (l := [.int 1, .int 1, .int 1, .int 2, .int 3, .int (((f : Int) + 2) / 3)]) (ea_cons (ev_vp rfl) (ea_cons (ev_lst (l := [.int 1, .int 1, .int 1, .int 2, .int 3, .int (((f : Int) + 2) / 3)]) (ea_cons (ev_int 1) (ea_cons (ev_int 1) (ea_cons (ev_int 1) (ea_cons (ev_int 2) (ea_cons (ev_int 3) (ea_cons ?_ ea_nil)))))) (by simp)) ea_nil)) hp (by omega) (by simp) (by simp) hget) ea_nil) (by omega)) (fun i e w => (∃ x, e = [.ptr 0, .dat (.int f), .dat (.int (bigL (draw p 6).2 i).1), x]) ∧ w = [(bigL (draw p 6).2 i).2.cn]) ⟨⟨.un, rfl⟩, rfl⟩ (fun _ _ _ _ => trivial) ?_ ?_
    · exact ev_is (ev_fdiv (ev_addI (ev_vd rfl) (ev_int 2)) (ev_int 3) ⟨by decide, by decide +kernel⟩) (by rw [h3])
    · rintro i x e w hx ⟨⟨y, rfl⟩, rfl⟩
      obtain ⟨hi, rfl⟩ := rngE_of hx
      obtain ⟨o1, o2, o3⟩ := ok i
      refine ⟨[3], _, eg_name, sd_of (sd_asg (ev_addI (ev_mulI (ev_vd rfl) (ev_int 1000) (.of_right (by decide))) (ev_draw (R := []) (m := 1000) (ea_cons (ev_vp rfl) (ea_cons (ev_int 1000) ea_nil)) o1 (by omega) (by decide) (by decide)))) ⟨⟨.dat (.int (0 + (i : Int))), rfl⟩, rfl⟩⟩
    · rintro e w ⟨⟨y, rfl⟩, rfl⟩
      rw [rngE_length]
      exact ⟨⟨_, rfl⟩, rfl⟩
  · rintro e w ⟨⟨x, rfl⟩, rfl⟩
    obtain ⟨o1, o2, o3⟩ := ok (bigN p f).toNat
    obtain ⟨t, ht⟩ := Int.eq_ofNat_of_zero_le o2
    obtain ⟨l1, l2, l3, l4⟩ := last_facts t f (by omega) (by omega)
    have hle : (1000 : Int) ^ (bigN p f).toNat ≤ 1000 ^ 10 := by
      have : (1000 : Nat) ^ (bigN p f).toNat ≤ 1000 ^ 10 := Nat.pow_le_pow_right (by decide) (by omega)
      exact_mod_cast this
    have hlog : (bigL (draw p 6).2 (bigN p f).toNat).1.natAbs.log2 < 1920 := by
      have h1 : (bigL (draw p 6).2 (bigN p f).toNat).1.natAbs ≤ 1000 ^ 10 := by
        have : (1000 : Int) ^ 10 = ((1000 ^ 10 : Nat) : Int) := by decide
        omega
      have := log2_mono h1
      have e : (1000 ^ 10 : Nat).log2 < 1920 := by decide +kernel
      omega
    have hl : (Str.ofString (toString (bigL (draw p 6).2 (bigN p f).toNat).1)).length ≤ 16777216 := by
      rw [ht]
      have hL : (Str.ofString (toString ((t : Nat) : Int))).cps.toList = TL.numL t := TL.tl_num t
      have h2 : t < 10 ^ 31 := by
        have : (1000 : Int) ^ 10 = ((1000 ^ 10 : Nat) : Int) := by decide
        omega
      have h3 := TL.numL_len (n := t) (k := 31) (by decide) h2
      show (Str.ofString (toString ((t : Nat) : Int))).cps.size ≤ 16777216
      have : (Str.ofString (toString ((t : Nat) : Int))).cps.size = (TL.numL t).length := by rw [← hL]; simp
      omega
    refine sd_ret (ev_intAS (z := lastT (bigL (draw p 6).2 (bigN p f).toNat).1 f) (n := (big p f).1) (ev_slS (ev_str_int (ev_vd rfl) hlog) (eo_some (ev_neg (ev_vd rfl))) eo_none hl) ?_ ?_) ⟨rfl, rfl⟩
    · show _ = some (lastD (bigL (draw p 6).2 (bigN p f).toNat).1 f)
      rw [ht]; exact l1
    · rw [ht]; exact l2
theorem ev_big {E : XK} {tA : TA} {es : List En} {W R : List Cn} {n : Nat} {p : Pen} {f : Nat} (ha : EA K tA es W [.ptr 0, .dat (.int f)] (p.cn :: R)) (hp : PenOk n p) (hn : n < 2 ^ 39) (h1 : 1 ≤ f) (h2 : f ≤ 30) : EV K (tCall (spBig K) [] E tA) es W (.dat (.int (big p f).1)) ((big p f).2.cn :: R) :=
  ev_call (cW := [p.cn]) (R := R) (cW' := [(big p f).2.cn]) ha (fun vs H Q h => ⟨n, p, f, hp, hn, h1, h2, h⟩) rfl (fun e he => by simp at he; rcases he with rfl | rfl; exact (by decide : 0 < 1); trivial) (fun c hc => by simp at hc; subst hc; exact Pen.cl _ _)
end
end K90
namespace K90
open PySem PySem.Spec PyProof.Rows L2 AS
local macro_rules | `(tactic| walk_at "ev") => `(tactic| first
  | exact ev_vd rfl
  | exact ev_vp rfl
  | exact ev_int _
  | exact ev_non
  | exact ev_bl _
  | exact ev_str _
  | assumption
  | (apply ev_addI <;> walk_at "ev")
  | (apply ev_sub <;> walk_at "ev")
  | (apply ev_neg; walk_at "ev")
  | (apply ev_abs; walk_at "ev")
  | (apply ev_intA; walk_at "ev")
  | (apply ev_lt <;> walk_at "ev")
  | (apply ev_le <;> walk_at "ev")
  | (apply ev_gt <;> walk_at "ev")
  | (apply ev_ge <;> walk_at "ev")
  | (apply ev_eqI <;> walk_at "ev")
  | (apply ev_neI <;> walk_at "ev")
  | (apply ev_isN; walk_at "ev")
  | (apply ev_notN; walk_at "ev")
  | (apply ev_isi (by walk_at "ev") rfl; rfl)
  | skip)
local macro_rules | `(tactic| walk_at "ea") => `(tactic| first
  | exact ea_nil
  | (apply ea_cons; walk_at "ev"; walk_at "ea"))
local macro_rules | `(tactic| walk_at "call") => `(tactic| (first
  | exact (fun vs H Q h => ⟨_, h⟩)
  | exact (fun vs H Q h => ⟨_, _, h⟩)
  | exact (fun vs H Q h => ⟨_, _, _, h⟩)))

section
variable {P : Program} {w : World} {K : PySem.W.Frag} {mg : Str → Option Value} {base : Heap}
def passed (p : Pen) (q : Int × Int) : D × Pen :=
  if (draw p 4).1 = 0 ∧ q.2 = 1 then (.int q.1, (draw p 4).2)
  else if (draw p 4).1 = 1 then (.tup [.int (q.1 * (2 + (draw (draw p 4).2 5).1)), .int (q.2 * (2 + (draw (draw p 4).2 5).1))], (draw (draw p 4).2 5).2)
  else (dq q, (draw p 4).2)
theorem passed_pen {n : Nat} {p : Pen} {q : Int × Int} (h : PenOk n p) : PenOk (n + 2) (passed p q).2 := by
  have h1 := h.draw (m := 4) (by decide)
  unfold passed
  split
  · exact h1.mono (by omega)
  · split
    · exact h1.draw (by decide)
    · exact h1.mono (by omega)
/-- a ratio in lowest terms, passed in any terms: told again -/
theorem passed_told (p : Pen) {q : Int × Int} (h1 : 0 < q.2) (hc : Int.gcd q.1 q.2 = 1) : (passed p q).1.ratio = true ∧ toldQ (passed p q).1 = q := by
  have hd := draw_range (draw p 4).2 (m := 5) (by decide)
  have hq : Lw q.1 q.2 = q := by rw [Lw_pos h1, hc]; simp
  unfold passed
  split
  · rename_i h
    refine ⟨rfl, ?_⟩
    show (q.1, (1 : Int)) = q
    rw [← h.2]
  · split
    · generalize (draw (draw p 4).2 5).1 = b at hd
      have hb : 0 < 2 + b := by omega
      have hpos : 0 < q.2 * (2 + b) := Int.mul_pos h1 hb
      refine ⟨by show decide (0 < q.2 * (2 + b)) = true; exact decide_eq_true hpos, ?_⟩
      show Lw (q.1 * (2 + b)) (q.2 * (2 + b)) = q
      rw [Lw_pos hpos, Int.gcd_mul_right, hc, Nat.one_mul]
      have e : ((2 + b).natAbs : Int) = 2 + b := by omega
      rw [e, Int.mul_ediv_cancel _ (by omega), Int.mul_ediv_cancel _ (by omega)]
    · exact ⟨by show decide (0 < q.2) = true; exact decide_eq_true h1, hq⟩
theorem passed_vd (p : Pen) (q : Int × Int) : Vd (passed p q).1 := by
  unfold passed
  split
  · exact ⟨rfl, fun l h => by cases h⟩
  · split
    · exact ⟨rfl, fun l h => by cases h; intro x hx; simp at hx; rcases hx with rfl | rfl <;> rfl⟩
    · exact ⟨rfl, fun l h => by cases h; intro x hx; simp at hx; rcases hx with rfl | rfl <;> rfl⟩
def spPassed (K : PySem.W.Frag) : Sp := fun vs H Q _ => ∃ (n : Nat) (p : Pen) (q : Int × Int), PenOk n p ∧ n < 2 ^ 39 ∧ spV K [.ptr 0, .dat (dq q)] [p.cn] (.dat (passed p q).1) [(passed p q).2.cn] vs H Q
theorem sc__law_passed : FnScope N__law_passed P__law_passed (defScope s__law_passed) := ⟨rfl, rfl, rfl, by decide +kernel, rfl, by decide +kernel, by decide +kernel⟩
theorem ok__law_passed (T : Tx K mg) : Cal P w K mg base CX0 2 "_law_passed" P__law_passed (spPassed K) := by
  refine T.f__law_passed.cal sc__law_passed (fun vs H Q E h => by obtain ⟨n, p, m, _, _, h⟩ := h; exact h.len) (fun _ _ _ _ _ _ us hl => match us, hl with | [_, _], _ => rfl) fun f cdv A outer s H vs Q E hr h => ?_
  obtain ⟨n, p, q, hp, hn, h⟩ := h
  refine ⟨_, (pss_cons (ps_set (i := 2) sc__law_passed.nd rfl (Or.inl rfl) (pe_cal (ok__law_draw T) (hr.mono (by decide)) rfl (pa_cons (pv 0) (pa_cons pe_int pa_nil))))
 (pss_cons (ps_if (PW.pt (pw_and (pt_cmpR (op_eqA hr.units) (pv 2) pe_int (nomark _)) (pw_and1 (pt_cmpR (op_eqA hr.units) (pe_ix ix_seq (pv 1) pe_int (fun _ _ => rfl)) pe_int (nomark _)))))
 (pss_one (ps_ret (pe_ix ix_seq (pv 1) pe_int (fun _ _ => rfl))))
 pss_nil)
 (pss_cons (ps_if (pt_cmpR (op_eqA hr.units) (pv 2) pe_int (nomark _))
 (pss_cons (ps_set (i := 3) sc__law_passed.nd rfl (Or.inl rfl) (pe_op (op_addX) pe_int (pe_cal (ok__law_draw T) (hr.mono (by decide)) rfl (pa_cons (pv 0) (pa_cons pe_int pa_nil)))))
 (pss_one (ps_ret (pe_tup (pa_cons (pe_op op_mulX (pe_ix ix_seq (pv 1) pe_int (fun _ _ => rfl)) (pv 3)) (pa_cons (pe_op op_mulX (pe_ix ix_seq (pv 1) pe_int (fun _ _ => rfl)) (pv 3)) pa_nil))))))
 pss_nil)
 (pss_one (ps_ret (pv 1)))))), fn_go h trivial (fun c hc => by simp at hc; subst hc; exact Pen.cl _ _) rfl ?_⟩
  show SD K _ [.ptr 0, .dat (dq q), .un, .un] [p.cn] _
  have p1 := hp.draw (m := 4) (by decide)
  have hd := draw_range (draw p 4).2 (m := 5) (by decide)
  refine sd_then (sd_asg (ev_draw (R := []) (m := 4) (ea_cons (ev_vp rfl) (ea_cons (ev_int 4) ea_nil)) hp (by omega) (by decide) (by decide))) ?_
  refine sd_seq (M := fun e w => e = [.ptr 0, .dat (dq q), .dat (.int (draw p 4).1), .un] ∧ w = [(draw p 4).2.cn] ∧ ¬ ((draw p 4).1 = 0 ∧ q.2 = 1)) (sd_if (et_and (a := decide ((draw p 4).1 = 0)) (b := decide (q.2 = 1)) (et_test (ev_eqI (ev_vd rfl) (ev_int 0))) fun _ => et_test (ev_eqI (ev_ix (l := [.dat (.int q.1), .dat (.int q.2)]) (ev_vd rfl) (ev_int 1) rfl rfl) (ev_int 1))) (fun hb => ?_) (fun hb => ?_)) ?_
  · have hc : (draw p 4).1 = 0 ∧ q.2 = 1 := by simpa using hb
    refine sd_ret (ev_ix (l := [.dat (.int q.1), .dat (.int q.2)]) (ev_vd rfl) (ev_int 0) rfl rfl) ?_
    unfold passed
    rw [if_pos hc]
    exact ⟨rfl, rfl⟩
  · refine sd_next ⟨rfl, rfl, ?_⟩
    intro hc
    simp [hc] at hb
  · rintro e w ⟨rfl, rfl, hc⟩
    refine sd_seq (M := fun e w => e = [.ptr 0, .dat (dq q), .dat (.int (draw p 4).1), .un] ∧ w = [(draw p 4).2.cn] ∧ ¬ (draw p 4).1 = 1) (sd_if (et_test (ev_eqI (ev_vd rfl) (ev_int 1))) (fun hb => ?_) (fun hb => sd_next ⟨rfl, rfl, of_decide_eq_false hb⟩)) ?_
    · have h1 : (draw p 4).1 = 1 := of_decide_eq_true hb
      have hb64 : Builtin.Int.intBits (2 + (draw (draw p 4).2 5).1) ≤ 64 := intBits_le_64 (by omega) (by omega)
      refine sd_then (sd_asg (ev_addI (ev_int 2) (ev_draw (R := []) (m := 5) (ea_cons (ev_vp rfl) (ea_cons (ev_int 5) ea_nil)) p1 (by omega) (by decide) (by decide)))) ?_
      refine sd_ret (ev_tup (l := [.int (q.1 * (2 + (draw (draw p 4).2 5).1)), .int (q.2 * (2 + (draw (draw p 4).2 5).1))]) (ea_cons (ev_mulI (ev_ix (l := [.dat (.int q.1), .dat (.int q.2)]) (ev_vd rfl) (ev_int 0) rfl rfl) (ev_vd rfl) (.of_right hb64)) (ea_cons (ev_mulI (ev_ix (l := [.dat (.int q.1), .dat (.int q.2)]) (ev_vd rfl) (ev_int 1) rfl rfl) (ev_vd rfl) (.of_right hb64)) ea_nil)) (by simp)) ?_
      unfold passed
      rw [if_neg hc, if_pos h1]
      exact ⟨rfl, rfl⟩
    · rintro e w ⟨rfl, rfl, h1⟩
      refine sd_ret (ev_vd rfl) ?_
      unfold passed
      rw [if_neg hc, if_neg h1]
      exact ⟨rfl, rfl⟩
theorem ev_passed {E : XK} {tA : TA} {es : List En} {W R : List Cn} {n : Nat} {p : Pen} {q : Int × Int} (ha : EA K tA es W [.ptr 0, .dat (dq q)] (p.cn :: R)) (hp : PenOk n p) (hn : n < 2 ^ 39) : EV K (tCall (spPassed K) [] E tA) es W (.dat (passed p q).1) ((passed p q).2.cn :: R) :=
  ev_call (cW := [p.cn]) (R := R) (cW' := [(passed p q).2.cn]) ha (fun vs H Q h => ⟨n, p, q, hp, hn, h⟩) rfl (fun e he => by simp at he; rcases he with rfl | rfl; exact (by decide : 0 < 1); trivial) (fun c hc => by simp at hc; subst hc; exact Pen.cl _ _)
def pwQ (q : Int × Int) (n : Int) : Int × Int := if 0 ≤ n then (q.1 ^ n.natAbs, q.2 ^ n.natAbs) else Lw (q.2 ^ n.natAbs) (q.1 ^ n.natAbs)
theorem pow_size {a : Int} {s : Nat} (h : a.natAbs < 2 ^ s) : ∀ k : Nat, (a ^ k).natAbs < 2 ^ (s * k + 1)
  | 0 => by
    rw [Int.pow_zero]
    simp
  | k + 1 => by
    have ih := pow_size h k
    have e : s * (k + 1) + 1 = (s * k + 1) + s := by rw [Nat.mul_add]; omega
    rw [Int.pow_succ, e]
    exact wide_lt ih h
theorem pos_pow {a : Int} (h : 0 < a) : ∀ k : Nat, 0 < a ^ k
  | 0 => by rw [Int.pow_zero]; decide
  | k + 1 => by rw [Int.pow_succ]; exact Int.mul_pos (pos_pow h k) h
theorem pw_size {q : Int × Int} {s : Nat} {n : Int} (h : Sz s q) (hp : 0 < q.1) : Sz (s * n.natAbs + 1) (pwQ q n) := by
  have h1 := pow_size h.1 n.natAbs
  have h2 := pow_size h.2.2 n.natAbs
  unfold pwQ
  split
  · exact ⟨h1, pos_pow h.2.1 _, h2⟩
  · exact Lw_size (pos_pow hp _) h2 h1
theorem Lw_top_pos {t b : Int} (ht : 0 < t) (hb : 0 < b) : 0 < (Lw t b).1 := by
  have hg : 0 < Int.gcd t b := Int.gcd_pos_of_ne_zero_right _ (by omega)
  rw [Lw_pos hb]
  exact Int.ediv_pos_of_pos_of_dvd ht (by omega) (Int.gcd_dvd_left t b)
theorem pw_pos {q : Int × Int} {n : Int} (h1 : 0 < q.1) (h2 : 0 < q.2) : 0 < (pwQ q n).1 := by
  unfold pwQ
  split
  · exact pos_pow h1 _
  · exact Lw_top_pos (pos_pow h2 _) (pos_pow h1 _)
def spLPw (K : PySem.W.Frag) : Sp := fun vs H Q _ => ∃ (q : Int × Int) (n : Int) (s : Nat), Sz s q ∧ 0 < q.1 ∧ n.natAbs ≤ 1000 ∧ s * n.natAbs + s + 1 ≤ 8000 ∧ spV K [.dat (dq q), .dat (.int n)] [] (.dat (dq (pwQ q n))) [] vs H Q
theorem sc__law_power : FnScope N__law_power P__law_power (defScope s__law_power) := ⟨rfl, rfl, rfl, by decide +kernel, rfl, by decide +kernel, by decide +kernel⟩
theorem ok__law_power (T : Tx K mg) : Cal P w K mg base CX0 3 "_law_power" P__law_power (spLPw K) := by
  refine T.f__law_power.cal sc__law_power (fun vs H Q E h => by obtain ⟨a, b, n, _, _, _, _, h⟩ := h; exact h.len) (fun _ _ _ _ _ _ us hl => match us, hl with | [_, _], _ => rfl) fun f cdv A outer s H vs Q E hr h => ?_
  obtain ⟨q, n, s, hq, hq1, hn, hs, h⟩ := h
  refine ⟨_, (pss_cons (ps_set (i := 2) sc__law_power.nd rfl (Or.inl rfl) (pe_tup (pa_cons pe_int (pa_cons pe_int pa_nil))))
 (pss_cons (ps_for PassesOwn.never rfl (pi_range1 rfl T.b_range (pa_cons (pe_callB call_abs (by rfl) T.b_abs (by decide +kernel) (pa_cons (pv 1) pa_nil)) pa_nil)) (pg_name (i := 3) sc__law_power.nd rfl (Or.inl rfl))
 (pss_one (ps_set (i := 2) sc__law_power.nd rfl (Or.inl rfl) (pe_tup (pa_cons (pe_op op_mulX (pe_ix ix_seq (pv 2) pe_int (fun _ _ => rfl)) (pe_ix ix_seq (pv 0) pe_int (fun _ _ => rfl))) (pa_cons (pe_op op_mulX (pe_ix ix_seq (pv 2) pe_int (fun _ _ => rfl)) (pe_ix ix_seq (pv 0) pe_int (fun _ _ => rfl))) pa_nil))))))
 (pss_one (ps_ret (pe_ifExp (pt_cmpR op_ge (pv 1) pe_int (nomark _)) (pv 2) (pe_cal (ok__law_q T) (hr.mono (by decide)) rfl (pa_cons (pe_ix ix_seq (pv 2) pe_int (fun _ _ => rfl)) (pa_cons (pe_ix ix_seq (pv 2) pe_int (fun _ _ => rfl)) pa_nil)))))))), fn_goD (l := [dq q, .int n]) h ?_⟩
  show SD K _ [.dat (dq q), .dat (.int n), .un, .un] [] _
  have sz : ∀ {a : Int} {k : Nat}, a.natAbs < 2 ^ s → k ≤ n.natAbs → (a ^ k).natAbs < 2 ^ (s * n.natAbs + 1) := fun {a k} ha hk =>
    Nat.lt_of_lt_of_le (pow_size ha k) (Nat.pow_le_pow_right (by decide) (by have := Nat.mul_le_mul_left s hk; omega))
  refine sd_then (sd_asg (ev_tup (l := [.int 1, .int 1]) (ea_cons (ev_int 1) (ea_cons (ev_int 1) ea_nil)) (by simp))) ?_
  refine sd_seq (M := fun e w => ∃ x, e = [.dat (dq q), .dat (.int n), .dat (dq (q.1 ^ n.natAbs, q.2 ^ n.natAbs)), x]) ?_ ?_
  · refine sd_for (ei_rng1 (n := (n.natAbs : Nat)) (ea_cons (ev_is (ev_abs (ev_vd rfl)) (by rw [abs_nat])) ea_nil) (by omega)) (fun i e w => ∃ x, e = [.dat (dq q), .dat (.int n), .dat (dq (q.1 ^ i, q.2 ^ i)), x]) ⟨.un, by simp [dq]⟩ (fun _ _ _ _ => trivial) ?_ ?_
    · rintro i x e w hx ⟨y, rfl⟩
      obtain ⟨hi, rfl⟩ := rngE_of hx
      have hi : i < n.natAbs := by simpa using hi
      refine ⟨[3], _, eg_name, sd_of (sd_asg (ev_tup (l := [.int (q.1 ^ i * q.1), .int (q.2 ^ i * q.2)]) (ea_cons (ev_mulI (ev_ix (l := [.dat (.int (q.1 ^ i)), .dat (.int (q.2 ^ i))]) (ev_vd rfl) (ev_int 0) rfl rfl) (ev_ix (l := [.dat (.int q.1), .dat (.int q.2)]) (ev_vd rfl) (ev_int 0) rfl rfl) (mulOk_bits (sz hq.1 (by omega)) hq.1 (by omega)))
        (ea_cons (ev_mulI (ev_ix (l := [.dat (.int (q.1 ^ i)), .dat (.int (q.2 ^ i))]) (ev_vd rfl) (ev_int 1) rfl rfl) (ev_ix (l := [.dat (.int q.1), .dat (.int q.2)]) (ev_vd rfl) (ev_int 1) rfl rfl) (mulOk_bits (sz hq.2.2 (by omega)) hq.2.2 (by omega))) ea_nil)) (by simp))) ⟨.dat (.int (0 + (i : Int))), ?_⟩⟩
      rw [← Int.pow_succ, ← Int.pow_succ]
      rfl
    · rintro e w ⟨y, rfl⟩
      rw [rngE_length]
      exact ⟨y, by simp⟩
  · rintro e w ⟨x, rfl⟩
    by_cases hn0 : 0 ≤ n
    · refine sd_ret (ev_ifT (et_test (ev_is (ev_ge (ev_vd rfl) (ev_int 0)) (by simp [hn0]))) (ev_vd rfl)) ?_
      unfold pwQ
      rw [if_pos hn0]
    · have hp := pos_pow hq1 n.natAbs
      refine sd_ret (ev_ifF (et_test (ev_is (ev_ge (ev_vd rfl) (ev_int 0)) (by simp [hn0]))) (ev_callD (l := [.int (q.2 ^ n.natAbs), .int (q.1 ^ n.natAbs)]) (ea_cons (ev_ix (l := [.dat (.int (q.1 ^ n.natAbs)), .dat (.int (q.2 ^ n.natAbs))]) (ev_vd rfl) (ev_int 1) rfl rfl) (ea_cons (ev_ix (l := [.dat (.int (q.1 ^ n.natAbs)), .dat (.int (q.2 ^ n.natAbs))]) (ev_vd rfl) (ev_int 0) rfl rfl) ea_nil)) (fun vs H Q h => ⟨_, _, by omega, Nat.lt_of_lt_of_le (sz hq.1 (Nat.le_refl _)) (Nat.pow_le_pow_right (by decide) (by omega)), h⟩))) ?_
      unfold pwQ
      rw [if_neg hn0]
def pwsQ (l : List ((Int × Int) × Int)) : Int × Int := l.foldl (fun f p => tmQ f (pwQ p.1 p.2)) (1, 1)
theorem pws_facts {s b : Nat} : ∀ (l : List ((Int × Int) × Int)) (f : Int × Int) (m : Nat), Sz m f → 0 < f.1 → (∀ p ∈ l, Sz s p.1 ∧ 0 < p.1.1 ∧ p.2.natAbs ≤ b) → Sz (m + l.length * (s * b + 1)) (l.foldl (fun f p => tmQ f (pwQ p.1 p.2)) f) ∧ 0 < (l.foldl (fun f p => tmQ f (pwQ p.1 p.2)) f).1
  | [], f, m, h1, h2, _ => ⟨by simpa using h1, h2⟩
  | p :: r, f, m, h1, h2, h => by
    obtain ⟨a1, a2, a3⟩ := h p (by simp)
    have sp := pw_size (n := p.2) a1 a2
    have pp := pw_pos (n := p.2) a2 a1.2.1
    have st := tm_size h1 sp
    have tp : 0 < (tmQ f (pwQ p.1 p.2)).1 := Lw_top_pos (Int.mul_pos h2 pp) (Int.mul_pos h1.2.1 sp.2.1)
    obtain ⟨i1, i2⟩ := pws_facts r _ _ st tp fun q hq => h q (by simp [hq])
    refine ⟨?_, i2⟩
    have hm : s * p.2.natAbs ≤ s * b := Nat.mul_le_mul_left _ a3
    have e : m + (s * p.2.natAbs + 1) + r.length * (s * b + 1) ≤ m + (p :: r).length * (s * b + 1) := by
      rw [List.length_cons, Nat.add_mul]
      omega
    have w : 2 ^ (m + (s * p.2.natAbs + 1) + r.length * (s * b + 1)) ≤ 2 ^ (m + (p :: r).length * (s * b + 1)) := Nat.pow_le_pow_right (by decide) e
    exact ⟨Nat.lt_of_lt_of_le i1.1 w, i1.2.1, Nat.lt_of_lt_of_le i1.2.2 w⟩
def spLPws (K : PySem.W.Frag) : Sp := fun vs H Q _ => ∃ (l : List ((Int × Int) × Int)) (s b : Nat), (∀ p ∈ l, Sz s p.1 ∧ 0 < p.1.1 ∧ p.2.natAbs ≤ b) ∧ b ≤ 1000 ∧ l.length * (s * b + 1) + s * b + s + 3 ≤ 8000 ∧
  spV K [.dat (.lst (l.map fun p => dq p.1)), .dat (.lst (l.map fun p => .int p.2))] [] (.dat (dq (pwsQ l))) [] vs H Q
theorem sc__law_powers : FnScope N__law_powers P__law_powers (defScope s__law_powers) := ⟨rfl, rfl, rfl, by decide +kernel, rfl, by decide +kernel, by decide +kernel⟩
theorem ok__law_powers (T : Tx K mg) : Cal P w K mg base CX0 4 "_law_powers" P__law_powers (spLPws K) := by
  refine T.f__law_powers.cal sc__law_powers (fun vs H Q E h => by obtain ⟨a, b, n, _, _, _, h⟩ := h; exact h.len) (fun _ _ _ _ _ _ us hl => match us, hl with | [_, _], _ => rfl) fun f cdv A outer s H vs Q E hr h => ?_
  obtain ⟨l, s, b, hl, hb, hs, h⟩ := h
  refine ⟨_, (pss_cons (ps_set (i := 2) sc__law_powers.nd rfl (Or.inl rfl) (pe_tup (pa_cons pe_int (pa_cons pe_int pa_nil))))
 (pss_cons (ps_for PassesOwn.never rfl (RZ.pi_zipA (by rfl) T.b_zip (pa_cons (pv 0) (pa_cons (pv 1) pa_nil))) (pg_tup rfl (pgs_cons (pg_name (i := 3) sc__law_powers.nd rfl (Or.inl rfl)) (pgs_cons (pg_name (i := 4) sc__law_powers.nd rfl (Or.inl rfl)) pgs_nil)))
 (pss_one (ps_set (i := 2) sc__law_powers.nd rfl (Or.inl rfl) (pe_cal (ok__law_times T) (hr.mono (by decide)) rfl (pa_cons (pv 2) (pa_cons (pe_cal (ok__law_power T) (hr.mono (by decide)) rfl (pa_cons (pv 3) (pa_cons (pv 4) pa_nil))) pa_nil))))))
 (pss_one (ps_ret (pv 2))))), fn_goD (l := [.lst (l.map fun p => dq p.1), .lst (l.map fun p => .int p.2)]) h ?_⟩
  show SD K _ [.dat (.lst (l.map fun p => dq p.1)), .dat (.lst (l.map fun p => .int p.2)), .un, .un, .un] [] _
  have szo : Sz 1 ((1 : Int), (1 : Int)) := ⟨by decide, by decide, by decide⟩
  have hlen : (zipE (l.map fun p => dq p.1) (l.map fun p => .int p.2)).length = l.length := by simp [zipE]
  refine sd_then (sd_asg (ev_tup (l := [.int 1, .int 1]) (ea_cons (ev_int 1) (ea_cons (ev_int 1) ea_nil)) (by simp))) ?_
  refine sd_seq (M := fun e w => ∃ x y, e = [.dat (.lst (l.map fun p => dq p.1)), .dat (.lst (l.map fun p => .int p.2)), .dat (dq (pwsQ l)), x, y]) ?_ ?_
  · refine sd_for (ei_zip (l := l.map fun p => dq p.1) (m := l.map fun p => .int p.2) (ea_cons (ev_vd rfl) (ea_cons (ev_vd rfl) ea_nil)) (.inl ⟨rfl, rfl⟩)) (fun i e w => ∃ x y, e = [.dat (.lst (l.map fun p => dq p.1)), .dat (.lst (l.map fun p => .int p.2)), .dat (dq (pwsQ (l.take i))), x, y]) ⟨.un, .un, rfl⟩ (fun _ _ _ _ => trivial) ?_ ?_
    · rintro i x e w hx ⟨y, z, rfl⟩
      obtain ⟨u, v, hu, hv, rfl⟩ := zipE_of hx
      obtain ⟨pr, hpr⟩ : ∃ pr, l[i]? = some pr := by
        rw [List.getElem?_map] at hu
        cases q : l[i]? with
        | none => rw [q] at hu; cases hu
        | some pr => exact ⟨pr, rfl⟩
      rw [List.getElem?_map, hpr] at hu hv
      cases hu; cases hv
      have hm : pr ∈ l := List.mem_of_getElem? hpr
      obtain ⟨a1, a2, a3⟩ := hl pr hm
      have hilt : i < l.length := (List.getElem?_eq_some_iff.mp hpr).1
      obtain ⟨f1, f2⟩ := pws_facts (s := s) (b := b) (l.take i) (1, 1) 1 szo (by decide) fun p hp => hl p (List.mem_of_mem_take hp)
      have ht : l.take (i + 1) = l.take i ++ [pr] := by rw [List.take_add_one, hpr]; rfl
      have hsb : s * pr.2.natAbs ≤ s * b := Nat.mul_le_mul_left _ a3
      have hlb : (l.take i).length * (s * b + 1) ≤ l.length * (s * b + 1) := Nat.mul_le_mul_right _ (by rw [List.length_take]; omega)
      have hlb2 : ((l.take i).length + 1) * (s * b + 1) ≤ l.length * (s * b + 1) := Nat.mul_le_mul_right _ (by rw [List.length_take]; omega)
      rw [Nat.add_mul] at hlb2
      refine ⟨[3, 4], _, eg_tup2, sd_of (sd_asg (ev_callD (l := [dq (pwsQ (l.take i)), dq (pwQ pr.1 pr.2)]) (ea_cons (ev_vd rfl) (ea_cons (ev_callD (l := [dq pr.1, .int pr.2]) (ea_cons (ev_vd rfl) (ea_cons (ev_vd rfl) ea_nil)) (fun vs H Q h => ⟨pr.1, pr.2, s, a1, a2, by omega, by omega, h⟩)) ea_nil)) (fun vs H Q h => ⟨_, _, _, _, f1, pw_size a1 a2, by omega, h⟩))) ⟨.dat (dq pr.1), .dat (.int pr.2), ?_⟩⟩
      rw [ht]
      unfold pwsQ
      rw [List.foldl_append]
      rfl
    · rintro e w ⟨y, z, rfl⟩
      rw [hlen, List.take_length]
      exact ⟨y, z, rfl⟩
  · rintro e w ⟨x, y, rfl⟩
    exact sd_ret (ev_vd rfl) rfl
end
end K90
namespace K90
open PySem PySem.Spec PyProof.Rows L2 AS
local macro_rules | `(tactic| walk_at "ev") => `(tactic| first
  | exact ev_vd rfl
  | exact ev_vp rfl
  | exact ev_int _
  | exact ev_non
  | exact ev_bl _
  | exact ev_str _
  | assumption
  | (apply ev_addI <;> walk_at "ev")
  | (apply ev_sub <;> walk_at "ev")
  | (apply ev_neg; walk_at "ev")
  | (apply ev_abs; walk_at "ev")
  | (apply ev_intA; walk_at "ev")
  | (apply ev_lt <;> walk_at "ev")
  | (apply ev_le <;> walk_at "ev")
  | (apply ev_gt <;> walk_at "ev")
  | (apply ev_ge <;> walk_at "ev")
  | (apply ev_eqI <;> walk_at "ev")
  | (apply ev_neI <;> walk_at "ev")
  | (apply ev_isN; walk_at "ev")
  | (apply ev_notN; walk_at "ev")
  | (apply ev_isi (by walk_at "ev") rfl; rfl)
  | skip)
local macro_rules | `(tactic| walk_at "ea") => `(tactic| first
  | exact ea_nil
  | (apply ea_cons; walk_at "ev"; walk_at "ea"))
local macro_rules | `(tactic| walk_at "call") => `(tactic| (first
  | exact (fun vs H Q h => ⟨_, h⟩)
  | exact (fun vs H Q h => ⟨_, _, h⟩)
  | exact (fun vs H Q h => ⟨_, _, _, h⟩)))

section
variable {P : Program} {w : World} {K : PySem.W.Frag} {mg : Str → Option Value} {base : Heap}
def RefIn (ns : List Nat) : Prop := ∃ (s L : Nat), (∀ n ∈ ns, 1 ≤ n ∧ n < 2 ^ s ∧ Cb.Pw L n) ∧ 0 < s ∧ s ≤ 8000 ∧ 0 < L ∧ L < 3 ^ 62 * Cb.fac 62 ∧ ns.length ≤ 40
def spRef (K : PySem.W.Frag) : Sp := fun vs H Q _ => ∃ ns : List Nat, RefIn ns ∧ spP K ([D.lst ((zI ns).map D.int)].map .dat) [] (fun e w => w = [] ∧ ∃ d, e = .dat d ∧ ∃ ms, d = .tup ((zI ms).map D.int) ∧ Bs ns ms) vs H Q
theorem gcd_log {x o : Nat} {s : Nat} (ho : 2 ≤ o) (h : o < 2 ^ s) (hs : s ≤ 8000) (h0 : 0 < s) (a : Int) : CDivA a ((Nat.gcd x o : Nat) : Int) := by
  have h1 : 0 < Nat.gcd x o := Nat.gcd_pos_of_pos_right _ (by omega)
  have h2 : Nat.gcd x o ≤ o := Nat.le_of_dvd (by omega) (Nat.gcd_dvd_right x o)
  exact ⟨by omega, log2_lt (n := s) (by show Nat.gcd x o < 2 ^ s; omega) (by omega) h0⟩
theorem filt_eq (o : Nat) : ∀ bs : List Nat, (bs.filterMap (fun b : Nat => if b ≠ o then some (D.int (b : Int)) else none)).map En.dat = nE (bs.filter fun b => decide (b ≠ o))
  | [] => rfl
  | a :: r => by
    have ih := filt_eq o r
    by_cases q : a = o
    · rw [List.filterMap_cons_none (by simp [q]), List.filter_cons_of_neg (by simp [q])]; exact ih
    · rw [List.filterMap_cons_some (b := D.int (a : Int)) (by simp [q]), List.filter_cons_of_pos (by simp [q]), List.map_cons, ih]; rfl
theorem sc_refined : FnScope N_refined P_refined (defScope s_refined) := ⟨rfl, rfl, rfl, by decide +kernel, rfl, by decide +kernel, by decide +kernel⟩
theorem ok_refined (T : Tx K mg) : Cal P w K mg base CX0 2 "refined" P_refined (spRef K) := by
  refine T.f_refined.cal sc_refined (fun vs H Q E h => by obtain ⟨a, _, h⟩ := h; exact h.len) (fun _ _ _ _ _ _ us hl => match us, hl with | [_], _ => rfl) fun f cdv A outer s H vs Q E hr h => ?_
  obtain ⟨ns, ⟨s, L, hns, hs0, hs, hL0, hL, hlen⟩, h⟩ := h
  refine ⟨_, (pss_cons (ps_par (i := 1) (j := 2) (by rfl) sc_refined.nd rfl rfl (by decide) rfl rfl (pa_cons (pe_lst pa_nil) (pa_cons (pe_callTy call_list_of (by rfl) T.b_list (by decide +kernel) (pa_cons (pv 0) pa_nil)) pa_nil)) (by rfl))
 (pss_cons (ps_while PassesOwn.never (pt_cmpR (op_neA hr.units) (pv 2) (pe_lst pa_nil) (nomark _))
 (pss_cons (ps_set (i := 3) sc_refined.nd rfl (Or.inr rfl) (pe_bm0 PySem.F.plainAttrs_list PySem.F.slot_list_pop PySem.F.type_list_pop mt_pop (pv 2)))
 (pss_cons (ps_if (PW.pt (pw_or (pt_cmpR (op_eqA hr.units) (pv 3) pe_int (nomark _)) (pw_or1 (pt_cmpR (op_inA (u65 hr)) (pv 3) (pv 1) (by rfl)))))
 (pss_one ps_continue)
 pss_nil)
 (pss_cons (ps_setLc (i := 4) (own := [("other", 6)]) rfl sc_refined.nd rfl rfl (sw_true rfl rfl rfl (by decide +kernel)) (pi_seq (pi_list (pv 1)) (pi_tup (pv 1))) (blkOk_by (own := [("other", 6)]) (N := N_refined) (sc := defScope s_refined) (by decide +kernel))
 (fun _ _ _ _ _ => (pg_name (i := 6) sc_refined.nd rfl (Or.inl rfl))) (fun _ _ _ _ _ => pts_nil) (fun _ _ _ _ _ => (pe_tup (pa_cons (pv 6) (pa_cons (pe_cal (ok_common_divisor T) (hr.mono (by decide)) rfl (pa_cons (pv 3) (pa_cons (pv 6) pa_nil))) pa_nil)))))
 (pss_cons (ps_setLc (i := 5) (own := [("other", 6), ("by", 7)]) rfl sc_refined.nd rfl rfl (sw_true rfl rfl rfl (by decide +kernel)) (pi_seq (pi_list (pv 4)) (pi_tup (pv 4))) (blkOk_by (own := [("other", 6), ("by", 7)]) (N := N_refined) (sc := defScope s_refined) (by decide +kernel))
 (fun _ _ _ _ _ => (show PG _ _ (gTup K 2 _) from pg_tup rfl (pgs_cons (pg_name (i := 6) sc_refined.nd rfl (Or.inl rfl)) (pgs_cons (pg_name (i := 7) sc_refined.nd rfl (Or.inl rfl)) pgs_nil)))) (fun _ _ _ _ _ => (pts_one (pt_cmpR op_gt (pv 7) pe_int (nomark _)))) (fun _ _ _ _ _ => (pe_tup (pa_cons (pv 6) (pa_cons (pv 7) pa_nil)))))
 (pss_cons (ps_if (pt_cmpR (op_eqA hr.units) (pv 5) (pe_lst pa_nil) (nomark _))
 (pss_cons (ps_expr (pe_bm PySem.F.plainAttrs_list PySem.F.slot_list_append PySem.F.type_list_append mt_append (pv 1) (pa_cons (pv 3) pa_nil)))
 (pss_one ps_continue))
 pss_nil)
 (pss_cons (ps_asg (pe_ix ix_seq (pv 5) pe_int (fun _ _ => rfl)) (pg_tup rfl (pgs_cons (pg_name (i := 6) sc_refined.nd rfl (Or.inr rfl)) (pgs_cons (pg_name (i := 7) sc_refined.nd rfl (Or.inl rfl)) pgs_nil))))
 (pss_cons (ps_setLc (i := 1) (own := [("item", 8)]) rfl sc_refined.nd rfl rfl (sw_true rfl rfl rfl (by decide +kernel)) (pi_seq (pi_list (pv 1)) (pi_tup (pv 1))) (blkOk_by (own := [("item", 8)]) (N := N_refined) (sc := defScope s_refined) (by decide +kernel))
 (fun _ _ _ _ _ => (pg_name (i := 8) sc_refined.nd rfl (Or.inl rfl))) (fun _ _ _ _ _ => (pts_one (pt_cmpR (show OpR _ (compareOp .NotEq) (rNeA K) from (op_neA hr.units)) (pv 8) (pv 6) (nomark _)))) (fun _ _ _ _ _ => (pv 8)))
 (pss_one (ps_set (i := 2) sc_refined.nd rfl (Or.inl rfl) (pe_op (op_addX) (pv 2) (pe_lst (pa_cons (pv 7) (pa_cons (pe_op op_fdivA (pv 6) (pv 7)) (pa_cons (pe_op op_fdivA (pv 3) (pv 7)) pa_nil)))))))))))))))
 (pss_one (ps_ret (pe_callTy call_tuple_of (by rfl) T.b_tuple (by decide +kernel) (pa_cons (pe_callB cr_sorted (by rfl) T.b_sorted (by decide +kernel) (pa_cons (pv 1) pa_nil)) pa_nil)))))), fn_goPD h ?_⟩
  show SD K _ [.dat (.lst ((zI ns).map D.int)), .un, .un, .un, .un, .un, .un, .un, .un] [] _
  refine sd_then (sd_par (ea_cons (ev_lstO ea_nil (by simp)) (ea_cons (ev_listO (l := nE ns) (ev_vd rfl) (by rw [nE_eq]; rfl)) ea_nil))) ?_
  have hlt : ∀ {bs ws : List Nat}, Cb.Inv ns bs ws → ∀ x ∈ bs ++ ws, x < 2 ^ s := fun {bs ws} hI => hI.her (fun x => x < 2 ^ s) (fun a b hd hb hp => Nat.lt_of_le_of_lt (Nat.le_of_dvd hb hd) hp) fun n hn => (hns n hn).2.1
  have hM : Cb.mu [] ns ≤ 960040 := by
    have h1 := Cb.mu_le (s := s) (fun n hn => (hns n hn).2.1) hs0
    have h2 : ns.length * (3 * s + 1) ≤ 40 * 24001 := Nat.mul_le_mul hlen (by omega)
    omega
  refine sd_seq (M := fun e w => ∃ bs jb x2 x3 x4 x5 x6 x7 x8, e = [.dat (.lst ((zI ns).map D.int)), .ptr jb, x2, x3, x4, x5, x6, x7, x8] ∧ w[jb]? = some (.lst (nE bs)) ∧ Cb.Inv ns bs [])
    (sd_while (fun m e w => ∃ bs ws jb jw x3 x4 x5 x6 x7 x8, e = [.dat (.lst ((zI ns).map D.int)), .ptr jb, .ptr jw, x3, x4, x5, x6, x7, x8] ∧ w[jb]? = some (.lst (nE bs)) ∧ w[jw]? = some (.lst (nE ws)) ∧ jb ≠ jw ∧ Cb.Inv ns bs ws ∧ m = Cb.mu bs ws ∧ m ≤ 960040) (Cb.mu [] ns)
      ⟨[], ns, 0, 1, .un, .un, .un, .un, .un, .un, rfl, rfl, rfl, by decide, .start fun n hn => (hns n hn).1, rfl, hM⟩ ?_) ?_
  · rintro m e w ⟨bs, ws, jb, jw, x3, x4, x5, x6, x7, x8, rfl, hb, hw, hne, hI, rfl, hmM⟩
    refine ⟨_, _, et_test (ev_neNil (l := (zI ws).map D.int) (ev_vp rfl) (by rw [lstE_ptr hw, nE_eq]) (zI_flat ws)), fun hf => ?_, fun ht => ?_⟩
    · have : ws = [] := by simpa [zI] using hf
      subst this
      exact ⟨bs, jb, .ptr jw, x3, x4, x5, x6, x7, x8, rfl, hb, hI⟩
    · have hwn : ws ≠ [] := by intro q; subst q; simp [zI] at ht
      obtain ⟨wi, x, rfl⟩ : ∃ wi x, ws = wi ++ [x] := ⟨ws.dropLast, ws.getLast hwn, (List.dropLast_concat_getLast hwn).symm⟩
      have hjw : jw < w.length := (List.getElem?_eq_some_iff.mp hw).1
      have hpop : (nE (wi ++ [x]))[(nE (wi ++ [x])).length - 1]? = some (.dat (.int (x : Int))) := by simp [nE]
      have hdl : (nE (wi ++ [x])).dropLast = nE wi := by simp [nE]
      refine sd_then (sd_asg (ev_pop (ev_vp rfl) hw hpop)) ?_
      rw [hdl]
      generalize hw1 : w.set jw (.lst (nE wi)) = w1
      have hb1 : w1[jb]? = some (.lst (nE bs)) := by rw [← hw1, List.getElem?_set_ne (Ne.symm hne)]; exact hb
      have hwi : w1[jw]? = some (.lst (nE wi)) := by rw [← hw1, List.getElem?_set_self hjw]
      have x1 := hI.pos x (by simp)
      have xs := hlt hI x (by simp)
      have hbl := Cb.len_le hI.two
      have hmu : 3 * Cb.lg bs ≤ 960040 := by unfold Cb.mu at hmM; omega
      refine sd_seq (M := fun e w => e = [.dat (.lst ((zI ns).map D.int)), .ptr jb, .ptr jw, .dat (.int x), x4, x5, x6, x7, x8] ∧ w = w1 ∧ ¬ (x = 1 ∨ x ∈ bs)) (sd_if (et_or (et_test (ev_eqI (ev_vd rfl) (ev_int 1))) fun _ => et_test (ev_inI (ns := zI bs) (ev_vd rfl) (ev_vp rfl) (by rw [seqE_ptr hb1, nE_eq]))) (fun hc => ?_) (fun hc => sd_next ⟨rfl, rfl, ?_⟩)) ?_
      · have hx : x = 1 ∨ x ∈ bs := by
          rw [Bool.or_eq_true] at hc
          rcases hc with hc | hc
          · have := of_decide_eq_true hc; omega
          · exact .inr (zI_mem.mp (of_decide_eq_true hc))
        exact sd_cont ⟨_, Cb.mu_drop, bs, wi, jb, jw, _, _, _, _, _, _, rfl, hb1, hwi, hne, hI.drop hx, rfl, Nat.le_trans (Nat.le_of_lt Cb.mu_drop) hmM⟩
      · rw [Bool.or_eq_false_iff] at hc
        rintro (rfl | hx)
        · exact absurd rfl (of_decide_eq_false hc.1)
        · exact of_decide_eq_false hc.2 (zI_mem.mpr hx)
      · rintro e w2 ⟨rfl, hq, hnx⟩
        have hq := hq.symm
        subst hq
        refine sd_then (sd_asg (ev_lcM (m := bs) (g0 := fun o : Nat => .dat (.int (o : Int))) (f := fun o : Nat => .tup [.int (o : Int), .int ((Nat.gcd x o : Nat) : Int)]) (js := [6]) (ei_own (ev_vp rfl) hb1) (by omega) hb1 (by simp) fun o ho => ?_)) ?_
        · exact ⟨_, eg_name, ev_tup (l := [.int (o : Int), .int ((Nat.gcd x o : Nat) : Int)]) (ea_cons (ev_vd rfl) (ea_cons (ev_callD (l := [.int x, .int o]) (ea_cons (ev_vd rfl) (ea_cons (ev_vd rfl) ea_nil)) (fun vs H Q h => ⟨x, o, h⟩)) ea_nil)) (by simp)⟩
        have hei := ei_lst (K := K) (W := w1) (es := [.dat (.lst ((zI ns).map D.int)), .ptr jb, .ptr jw, .dat (.int x), .dat (.lst (bs.map fun o : Nat => .tup [.int (o : Int), .int ((Nat.gcd x o : Nat) : Int)])), x5, x6, x7, x8]) (tl := tVar 4) (ev_vd rfl)
        rw [List.map_map] at hei
        refine sd_then (sd_asg (ev_lcF (m := bs) (f := fun o : Nat => if 1 < Nat.gcd x o then some (.tup [.int (o : Int), .int ((Nat.gcd x o : Nat) : Int)]) else none) (js := [6, 7]) hei (by omega) trivial (by simp) fun o ho => ?_)) ?_
        · refine ⟨_, eg_tup2, ?_⟩
          by_cases hg : 1 < Nat.gcd x o
          · refine .inl ⟨_, if_pos hg, et_test (ev_is (ev_gt (ev_vd rfl) (ev_int 1)) ?_), ev_tup (l := [.int (o : Int), .int ((Nat.gcd x o : Nat) : Int)]) (ea_cons (ev_vd rfl) (ea_cons (ev_vd rfl) ea_nil)) (by simp)⟩
            rw [decide_eq_true (by omega)]
          · refine .inr ⟨if_neg hg, et_test (ev_is (ev_gt (ev_vd rfl) (ev_int 1)) ?_)⟩
            rw [decide_eq_false (by omega)]
        generalize hsh : bs.filterMap (fun o : Nat => if 1 < Nat.gcd x o then some (D.tup [.int (o : Int), .int ((Nat.gcd x o : Nat) : Int)]) else none) = sh
        have hflat : sh.all (D.flat 9) = true := by
          rw [List.all_eq_true]
          intro d hd
          rw [← hsh] at hd
          obtain ⟨o, _, ho⟩ := List.mem_filterMap.mp hd
          split at ho
          · cases ho; simp [D.flat]
          · cases ho
        refine sd_seq (M := fun e w => e = [.dat (.lst ((zI ns).map D.int)), .ptr jb, .ptr jw, .dat (.int x), .dat (.lst (bs.map fun o : Nat => .tup [.int (o : Int), .int ((Nat.gcd x o : Nat) : Int)])), .dat (.lst sh), x6, x7, x8] ∧ w = w1 ∧ sh ≠ []) (sd_if (et_test (ev_eqNil (l := sh) (ev_vd rfl) rfl hflat)) (fun hc => ?_) (fun hc => sd_next ⟨rfl, rfl, ?_⟩)) ?_
        · have hnil : sh = [] := by simpa using hc
          have hno : ∀ b ∈ bs, Nat.gcd x b ≤ 1 := fun b hb' => by
            rw [← hsh, List.filterMap_eq_nil_iff] at hnil
            have := hnil b hb'
            split at this
            · cases this
            · omega
          refine sd_then (sd_drop (ev_append (ev_vp rfl) (ev_vd rfl) hb1 ⟨_, hb1⟩ (by rw [nE_length]; omega))) (sd_cont ⟨_, Cb.mu_put, bs ++ [x], wi, jb, jw, _, _, _, _, _, _, rfl, ?_, ?_, hne, hI.put (fun e => hnx (.inl e)) hno, rfl, Nat.le_trans (Nat.le_of_lt Cb.mu_put) hmM⟩)
          · rw [List.getElem?_set_self (List.getElem?_eq_some_iff.mp hb1).1, nE_append]; rfl
          · rw [List.getElem?_set_ne hne]; exact hwi
        · intro q; subst q; simp at hc
        · rintro e w2 ⟨rfl, hq, hsn⟩
          have hq := hq.symm
          subst hq
          obtain ⟨o, ho, hg, hd⟩ : ∃ o ∈ bs, 1 < Nat.gcd x o ∧ sh[0]? = some (.tup [.int (o : Int), .int ((Nat.gcd x o : Nat) : Int)]) := by
            cases sh with
            | nil => exact absurd rfl hsn
            | cons d r =>
              have : d ∈ bs.filterMap (fun o : Nat => if 1 < Nat.gcd x o then some (D.tup [.int (o : Int), .int ((Nat.gcd x o : Nat) : Int)]) else none) := by rw [hsh]; simp
              obtain ⟨o, ho, h2⟩ := List.mem_filterMap.mp this
              split at h2
              · rename_i hg
                cases h2
                exact ⟨o, ho, hg, rfl⟩
              · cases h2
          have ho2 := hI.two o ho
          have hos := hlt hI o (by simp [ho])
          have hix : atI (sh.map En.dat) 0 = some (.dat (.tup [.int (o : Int), .int ((Nat.gcd x o : Nat) : Int)])) := by
            cases sh with
            | nil => cases hd
            | cons d r => cases hd; simp [atI, ixN]
          refine sd_then (sd_asgG (ev_ix (l := sh.map En.dat) (ev_vd rfl) (ev_int 0) rfl hix) eg_tup2) ?_
          refine sd_then (sd_asg (ev_lcFO (m := bs) (g0 := fun o : Nat => .dat (.int (o : Int))) (f := fun b : Nat => if b ≠ o then some (.int (b : Int)) else none) (js := [8]) (ei_own (ev_vp rfl) hb1) (by omega) hb1 (by simp) fun b hb' => ?_)) ?_
          · refine ⟨_, eg_name, ?_⟩
            by_cases hq : b = o
            · refine .inr ⟨by simp [hq], et_test (ev_is (ev_neI (ev_vd rfl) (ev_vd rfl)) ?_)⟩
              subst hq; simp
            · refine .inl ⟨.int (b : Int), by simp [hq], et_test (ev_is (ev_neI (ev_vd rfl) (ev_vd rfl)) ?_), ev_vd rfl⟩
              rw [decide_eq_false (by omega)]; rfl
          have hfm := filt_eq o bs
          rw [hfm]
          have hwl : jw < w1.length := (List.getElem?_eq_some_iff.mp hwi).1
          have hwin : wi.length ≤ 960040 := by unfold Cb.mu at hmM; rw [List.length_append] at hmM; omega
          refine sd_of (sd_asg (ev_catO (l := nE wi) (m := nE [Nat.gcd x o, o / Nat.gcd x o, x / Nat.gcd x o]) (ev_vp rfl) (ev_lst (l := [.int ((Nat.gcd x o : Nat) : Int), .int ((o / Nat.gcd x o : Nat) : Int), .int ((x / Nat.gcd x o : Nat) : Int)]) (ea_cons (ev_vd rfl) (ea_cons (ev_is (ev_fdiv (ev_vd rfl) (ev_vd rfl) (gcd_log ho2 hos hs hs0 _)) (by rw [fdiv_nat])) (ea_cons (ev_is (ev_fdiv (ev_vd rfl) (ev_vd rfl) (gcd_log ho2 hos hs hs0 _)) (by rw [fdiv_nat])) ea_nil))) (by simp)) ?_ rfl (by rw [nE_length, nE_length]; simp; omega))) ?_
          · exact lstH_ptr (by rw [List.getElem?_append_left hwl, hwi])
          · rw [← nE_append]
            refine ⟨_, Cb.mu_split x1 ho2 ho hg, bs.filter (fun b => decide (b ≠ o)), wi ++ [Nat.gcd x o, o / Nat.gcd x o, x / Nat.gcd x o], w1.length, w1.length + 1, _, _, _, _, _, _, by rw [List.length_append]; rfl, ?_, ?_, by omega, hI.split ho hg, rfl, Nat.le_trans (Nat.le_of_lt (Cb.mu_split x1 ho2 ho hg)) hmM⟩
            · simp
            · simp
  · rintro e w ⟨bs, jb, x2, x3, x4, x5, x6, x7, x8, rfl, hb, hI⟩
    have hfew : bs.length < 64 := Cb.Cop.few ⟨hI.two, hI.cop⟩ hL0 (fun x hx => hI.her (Cb.Pw L) (Cb.Pw.dc L) (fun n hn => (hns n hn).2.2) x (by simp [hx])) hL
    exact sd_ret (ev_tupleL (l := (zI (srt bs)).map D.int) (ev_sorted (ns := zI bs) (ms := zI (srt bs)) (ev_vp rfl) (by rw [lstE_ptr hb, nE_eq]) (by simpa [zI] using hfew) (srt_uni bs)) rfl) ⟨_, rfl, srt bs, rfl, .of hI⟩
end
end K90
namespace K90
open PySem PySem.Spec PyProof.Rows L2 AS
local macro_rules | `(tactic| walk_at "ev") => `(tactic| first
  | exact ev_vd rfl
  | exact ev_vp rfl
  | exact ev_int _
  | exact ev_non
  | exact ev_bl _
  | exact ev_str _
  | assumption
  | (apply ev_addI <;> walk_at "ev")
  | (apply ev_sub <;> walk_at "ev")
  | (apply ev_neg; walk_at "ev")
  | (apply ev_abs; walk_at "ev")
  | (apply ev_intA; walk_at "ev")
  | (apply ev_lt <;> walk_at "ev")
  | (apply ev_le <;> walk_at "ev")
  | (apply ev_gt <;> walk_at "ev")
  | (apply ev_ge <;> walk_at "ev")
  | (apply ev_eqI <;> walk_at "ev")
  | (apply ev_neI <;> walk_at "ev")
  | (apply ev_isN; walk_at "ev")
  | (apply ev_notN; walk_at "ev")
  | (apply ev_isi (by walk_at "ev") rfl; rfl)
  | skip)
local macro_rules | `(tactic| walk_at "ea") => `(tactic| first
  | exact ea_nil
  | (apply ea_cons; walk_at "ev"; walk_at "ea"))
local macro_rules | `(tactic| walk_at "call") => `(tactic| (first
  | exact (fun vs H Q h => ⟨_, h⟩)
  | exact (fun vs H Q h => ⟨_, _, h⟩)
  | exact (fun vs H Q h => ⟨_, _, _, h⟩)))

section
variable {P : Program} {w : World} {K : PySem.W.Frag} {mg : Str → Option Value} {base : Heap}
def dqN (r : Nat × Nat) : D := dq ((r.1 : Int), (r.2 : Int))
def numsOf (rs : List (Nat × Nat)) : List Nat := rs.map (·.1) ++ rs.map (·.2)
def spBaseOf (K : PySem.W.Frag) : Sp := fun vs H Q _ => ∃ rs : List (Nat × Nat), RefIn (numsOf rs) ∧ spP K [.dat (.lst (rs.map dqN))] [] (fun e w => w = [] ∧ ∃ d, e = .dat d ∧ ∃ ms, d = .tup ((zI ms).map D.int) ∧ Bs (numsOf rs) ms) vs H Q
theorem sc_base_of : FnScope N_base_of P_base_of (defScope s_base_of) := ⟨rfl, rfl, rfl, by decide +kernel, rfl, by decide +kernel, by decide +kernel⟩
theorem ok_base_of (T : Tx K mg) : Cal P w K mg base CX0 3 "base_of" P_base_of (spBaseOf K) := by
  refine T.f_base_of.cal sc_base_of (fun vs H Q E h => by obtain ⟨a, _, h⟩ := h; exact h.len) (fun _ _ _ _ _ _ us hl => match us, hl with | [_], _ => rfl) fun f cdv A outer s H vs Q E hr h => ?_
  obtain ⟨rs, hI, h⟩ := h
  refine ⟨_, (pss_one (ps_ret (pe_cal (ok_refined T) (hr.mono (by decide)) rfl (pa_cons (pe_op (op_addX) (pe_lc (own := [("ratio", 1)]) rfl sc_base_of.nd (pi_seq (pi_list (pv 0)) (pi_tup (pv 0))) (blkOk_by (own := [("ratio", 1)]) (N := N_base_of) (sc := defScope s_base_of) (by decide +kernel))
 (fun _ _ _ _ _ => (pg_name (i := 1) sc_base_of.nd rfl (Or.inl rfl))) (fun _ _ _ _ _ => pts_nil) (fun _ _ _ _ _ => (pe_ix (show IxR _ (rIx K) from ix_seq) (pv 1) pe_int (fun _ _ => rfl)))) (pe_lc (own := [("ratio", 1)]) rfl sc_base_of.nd (pi_seq (pi_list (pv 0)) (pi_tup (pv 0))) (blkOk_by (own := [("ratio", 1)]) (N := N_base_of) (sc := defScope s_base_of) (by decide +kernel))
 (fun _ _ _ _ _ => (pg_name (i := 1) sc_base_of.nd rfl (Or.inl rfl))) (fun _ _ _ _ _ => pts_nil) (fun _ _ _ _ _ => (pe_ix (show IxR _ (rIx K) from ix_seq) (pv 1) pe_int (fun _ _ => rfl))))) pa_nil)))), fn_goPD (l := [.lst (rs.map dqN)]) h ?_⟩
  show SD K _ [.dat (.lst (rs.map dqN)), .un] [] _
  have hlen : rs.length ≤ 40 := by
    obtain ⟨s, L, _, _, _, _, _, h⟩ := hI
    unfold numsOf at h
    rw [List.length_append, List.length_map] at h
    omega
  have hei := ei_lst (K := K) (W := []) (es := [.dat (.lst (rs.map dqN)), .un]) (tl := tVar 0) (ev_vd rfl)
  rw [List.map_map] at hei
  refine sd_retP (evp_callD (W1 := []) (l := [.lst ((zI (numsOf rs)).map D.int)]) (ea_cons (ev_is (ev_cat (W1 := []) (W2 := []) (e1 := .dat (.lst (rs.map fun r => .int (r.1 : Int)))) (e2 := .dat (.lst (rs.map fun r => .int (r.2 : Int)))) (l := rs.map fun r => .int (r.1 : Int)) (m := rs.map fun r => .int (r.2 : Int)) ?_ ?_ rfl rfl (by simp; omega)) ?_) ea_nil) (fun vs H Q h => ⟨_, hI, h⟩)) (fun e w ⟨_, d, he, ms, hd, hb⟩ => ⟨d, he, ms, hd, hb⟩)
  · exact ev_lcM (m := rs) (f := fun r => .int (r.1 : Int)) (js := [1]) hei (by omega) trivial (by simp) fun r hr => ⟨_, eg_name, ev_ix (l := [.dat (.int (r.1 : Int)), .dat (.int (r.2 : Int))]) (ev_vd rfl) (ev_int 0) rfl rfl⟩
  · exact ev_lcM (m := rs) (f := fun r => .int (r.2 : Int)) (js := [1]) hei (by omega) trivial (by simp) fun r hr => ⟨_, eg_name, ev_ix (l := [.dat (.int (r.1 : Int)), .dat (.int (r.2 : Int))]) (ev_vd rfl) (ev_int 1) rfl rfl⟩
  · simp [numsOf, zI]
    rfl
def spBP (K : PySem.W.Frag) : Sp := fun vs H Q _ => ∃ (ms : List Nat) (t u s : Nat), Cb.Cop ms ∧ Cb.Gen ms t ∧ Cb.Gen ms u ∧ t < 2 ^ s ∧ u < 2 ^ s ∧ s ≤ 2900 ∧ (∀ b ∈ ms, b < 2 ^ s) ∧ ms.length ≤ 1000000 ∧
  spP K ([D.tup ((zI ms).map D.int), dqN (t, u)].map .dat) [] (fun e w => w = [] ∧ ∃ d, e = .dat d ∧ d.isN = false) vs H Q
theorem sc__law_base_powers : FnScope N__law_base_powers P__law_base_powers (defScope s__law_base_powers) := ⟨rfl, rfl, rfl, by decide +kernel, rfl, by decide +kernel, by decide +kernel⟩
/-- one side of a ratio, divided as often as it goes -/
theorem ok__law_base_powers (T : Tx K mg) : Cal P w K mg base CX0 1 "_law_base_powers" P__law_base_powers (spBP K) := by
  refine T.f__law_base_powers.cal sc__law_base_powers (fun vs H Q E h => by obtain ⟨_, _, _, _, _, _, _, _, _, _, _, _, h⟩ := h; exact h.len) (fun _ _ _ _ _ _ us hl => match us, hl with | [_, _], _ => rfl) fun f cdv A outer s H vs Q E hr h => ?_
  obtain ⟨ms, t, u, s, hC, ht, hu, ht2, hu2, hs, hmb, hml, h⟩ := h
  refine ⟨_, (pss_cons (ps_par (i := 3) (j := 4) (by rfl) sc__law_base_powers.nd rfl rfl (by decide) rfl rfl (pa_cons (pe_lst pa_nil) (pa_cons (pe_lst (pa_cons (pe_ix ix_seq (pv 1) pe_int (fun _ _ => rfl)) (pa_cons (pe_ix ix_seq (pv 1) pe_int (fun _ _ => rfl)) pa_nil))) pa_nil)) (by rfl))
 (pss_cons (ps_for PassesOwn.never rfl (pi_seq (pi_list (pv 0)) (pi_tup (pv 0))) (pg_name (i := 2) sc__law_base_powers.nd rfl (Or.inl rfl))
 (pss_cons (ps_set (i := 5) sc__law_base_powers.nd rfl (Or.inl rfl) pe_int)
 (pss_cons (ps_for PassesOwn.never rfl (pi_range1 rfl T.b_range (pa_cons pe_int pa_nil)) (pg_name (i := 6) sc__law_base_powers.nd rfl (Or.inl rfl))
 (pss_one (ps_for PassesOwn.never rfl (pi_range1 rfl T.b_range (pa_cons pe_int pa_nil)) (pg_name (i := 7) sc__law_base_powers.nd rfl (Or.inl rfl))
 (pss_cons (ps_if (pt_cmpR (op_neA hr.units) (pe_op op_modN (pe_callTy call_intA (by rfl) T.b_int (by decide +kernel) (pa_cons (pe_ix ix_seq (pv 4) (pv 6) (fun _ _ => rfl)) pa_nil)) (pv 2)) pe_int (nomark _))
 (pss_one ps_break)
 pss_nil)
 (pss_one (ps_asg (pe_tup (pa_cons (pe_op op_fdivA (pe_ix ix_seq (pv 4) (pv 6) (fun _ _ => rfl)) (pv 2)) (pa_cons (pe_op op_sub (pe_op (op_addX) (pv 5) pe_int) (pe_op op_mulX pe_int (pv 6))) pa_nil))) (pg_tup rfl (pgs_cons (pg_sub (pv 4) (pv 6) set_list) (pgs_cons (pg_name (i := 5) sc__law_base_powers.nd rfl (Or.inl rfl)) pgs_nil)))))))))
 (pss_one (ps_expr (pe_bm PySem.F.plainAttrs_list PySem.F.slot_list_append PySem.F.type_list_append mt_append (pv 3) (pa_cons (pv 5) pa_nil)))))))
 (pss_one (ps_ret (pe_ifExp (pt_cmpR (op_eqA hr.units) (pv 4) (pe_lst (pa_cons pe_int (pa_cons pe_int pa_nil))) (nomark _)) (pv 3) pe_non))))), fn_goPD h ?_⟩
  show SD K _ [.dat (.tup ((zI ms).map D.int)), .dat (dqN (t, u)), .un, .un, .un, .un, .un, .un] [] _
  refine sd_then (sd_par (ea_cons (ev_lstO ea_nil (by simp)) (ea_cons (ev_lstO (l := nE [t, u]) (ea_cons (ev_ix (l := [.dat (.int (t : Int)), .dat (.int (u : Int))]) (ev_vd rfl) (ev_int 0) rfl rfl) (ea_cons (ev_ix (l := [.dat (.int (t : Int)), .dat (.int (u : Int))]) (ev_vd rfl) (ev_int 1) rfl rfl) ea_nil)) (by simp [nE])) ea_nil))) ?_
  refine sd_seq (M := fun e w => ∃ (x2 x5 x6 x7 : En) (F : List D), e = [.dat (.tup ((zI ms).map D.int)), .dat (dqN (t, u)), x2, .ptr 0, .ptr 1, x5, x6, x7] ∧ w = [.lst (F.map .dat), .lst (nE [1, 1])]) ?_ ?_
  · have hei := ei_tup (K := K) (W := [.lst [], .lst (nE [t, u])]) (l := (zI ms).map D.int) (es := [.dat (.tup ((zI ms).map D.int)), .dat (dqN (t, u)), .un, .ptr 0, .ptr 1, .un, .un, .un]) (tl := tVar 0) (ev_vd rfl)
    refine sd_for hei (fun i e w => ∃ (x2 x5 x6 x7 : En) (F : List D) (a b : Nat), e = [.dat (.tup ((zI ms).map D.int)), .dat (dqN (t, u)), x2, .ptr 0, .ptr 1, x5, x6, x7] ∧ w = [.lst (F.map .dat), .lst (nE [a, b])] ∧ Cb.Gen (ms.drop i) a ∧ Cb.Gen (ms.drop i) b ∧ a < 2 ^ s ∧ b < 2 ^ s ∧ F.length = i)
      ⟨.un, .un, .un, .un, [], t, u, rfl, rfl, ht, hu, ht2, hu2, rfl⟩ (fun _ _ _ _ => trivial) ?_ ?_
    · rintro i x e w hx ⟨x2, x5, x6, x7, F, a, b, rfl, rfl, ha, hb, ha2, hb2, hF⟩
      have hi : i < ms.length := by
        have := (List.getElem?_eq_some_iff.mp hx).1
        simpa [zI] using this
      obtain ⟨c, hc⟩ : ∃ c, c = ms[i] := ⟨_, rfl⟩
      have hx' : x = .dat (.int (c : Int)) := by
        rw [← nE_eq] at hx
        simp [nE, hi] at hx
        rw [← hx, hc]
      subst hx'
      have hdr : ms.drop i = c :: ms.drop (i + 1) := by rw [hc]; exact List.drop_eq_getElem_cons hi
      have hc2 : 2 ≤ c := hC.two c (by rw [hc]; exact List.getElem_mem hi)
      have hcb : c < 2 ^ s := hmb c (by rw [hc]; exact List.getElem_mem hi)
      have hD : Cb.Cop (c :: ms.drop (i + 1)) := by
        rw [← hdr]
        exact ⟨fun b hb => hC.two b (List.mem_of_mem_drop hb), hC.cop.sublist (List.drop_sublist _ _)⟩
      have hco := (List.pairwise_cons.mp hD.cop).1
      have hCr : ∀ y ∈ ms.drop (i + 1), 2 ≤ y := fun y hy => hD.two y (by simp [hy])
      rw [hdr] at ha hb
      obtain ⟨ka, ma, rfl, hma⟩ := ha.split
      obtain ⟨kb, mb, rfl, hmb'⟩ := hb.split
      have pa := hma.pos hCr
      have pb := hmb'.pos hCr
      have la := Cb.pow_lt_of hc2 pa ha2
      have lb := Cb.pow_lt_of hc2 pb hb2
      have na : ma % c ≠ 0 := fun q => by
        have := hma.cop hco
        rw [Nat.gcd_eq_left (Nat.dvd_of_mod_eq_zero q)] at this
        omega
      have nb : mb % c ≠ 0 := fun q => by
        have := hmb'.cop hco
        rw [Nat.gcd_eq_left (Nat.dvd_of_mod_eq_zero q)] at this
        omega
      refine ⟨[2], _, eg_name, ?_⟩
      refine sd_then (sd_asg (ev_int 0)) ?_
      refine sd_seq (M := fun e w => ∃ (z : Int) (x6 x7 : En), e = [.dat (.tup ((zI ms).map D.int)), .dat (dqN (t, u)), .dat (.int (c : Int)), .ptr 0, .ptr 1, .dat (.int z), x6, x7] ∧ w = [.lst (F.map .dat), .lst (nE [ma, mb])]) ?_ ?_
      · refine sd_for (ei_rng1 (n := 2) (ea_cons (ev_int 2) ea_nil) (by decide)) (fun j e w => ∃ (z : Int) (x6 x7 : En), e = [.dat (.tup ((zI ms).map D.int)), .dat (dqN (t, u)), .dat (.int (c : Int)), .ptr 0, .ptr 1, .dat (.int z), x6, x7] ∧ w = [.lst (F.map .dat), .lst (nE [if j = 0 then c ^ ka * ma else ma, if j ≤ 1 then c ^ kb * mb else mb])])
          ⟨0, x6, x7, rfl, rfl⟩ (fun _ _ _ _ => trivial) ?_ ?_
        · rintro j x e w hx ⟨z, y6, y7, rfl, rfl⟩
          obtain ⟨hj, rfl⟩ := rngE_of hx
          have hj : j < 2 := hj
          refine ⟨[6], _, eg_name, ?_⟩
          -- one side: number k m at place j of the list l
          have side : ∀ (l : List En) (k m : Nat) (l' : List En), k < s → m % c ≠ 0 → 0 < m → c ^ k * m < 2 ^ s → l.length = 2 → l[j]? = some (.dat (.int ((c ^ k * m : Nat) : Int))) → l' = l.set j (.dat (.int (m : Int))) →
              ∀ z y7, SD K (tFor (iRng1 (tCons (tC (.int 3000)) tNil)) (gName 7)
                (tSeq (tIfS (tTest (tOp (rNeA K) (tOp (rI (fun _ j => j ≠ 0) fun i j => .int (i.fmod j)) (tCB rIntA (tCons (tOp (rIx K) (tVar 4) (tVar 6)) tNil)) (tVar 2)) (tC (.int 0)))) tBreak tNext)
                  (tAsg (tTup (tCons (tOp (rI CDivA fun i j => .int (i.fdiv j)) (tOp (rIx K) (tVar 4) (tVar 6)) (tVar 2)) (tCons (tOp (rI0 fun i j => .int (i - j)) (tOp (rAddX K) (tVar 5) (tC (.int 1))) (tOp (rMulX K) (tC (.int 2)) (tVar 6))) tNil))) (gTup K 2 (gCons (gSub (tVar 4) (tVar 6) rSetL) (gCons (gName 5) gNil))))))
                [.dat (.tup ((zI ms).map D.int)), .dat (dqN (t, u)), .dat (.int (c : Int)), .ptr 0, .ptr 1, .dat (.int z), .dat (.int (0 + (j : Int))), y7] [.lst (F.map .dat), .lst l]
                ⟨fun e w => ∃ (z : Int) (x7 : En), e = [.dat (.tup ((zI ms).map D.int)), .dat (dqN (t, u)), .dat (.int (c : Int)), .ptr 0, .ptr 1, .dat (.int z), .dat (.int (0 + (j : Int))), x7] ∧ w = [.lst (F.map .dat), .lst l'], fun _ _ => False, fun _ _ => False, fun _ _ => False⟩ := by
            intro l k m l' hk hm0 hm hlt hl hget hl' z y7
            subst hl'
            have hji : j < l.length := by omega
            refine sd_for (ei_rng1 (n := 3000) (ea_cons (ev_int 3000) ea_nil) (by decide)) (fun i e w => i ≤ k ∧ ∃ (z : Int) (x7 : En), e = [.dat (.tup ((zI ms).map D.int)), .dat (dqN (t, u)), .dat (.int (c : Int)), .ptr 0, .ptr 1, .dat (.int z), .dat (.int (0 + (j : Int))), x7] ∧ w = [.lst (F.map .dat), .lst (l.set j (.dat (.int ((c ^ (k - i) * m : Nat) : Int))))])
              ⟨Nat.zero_le _, z, y7, rfl, ?_⟩ (fun _ _ _ _ => trivial) ?_ ?_
            · rw [Nat.sub_zero]
              congr 3
              apply List.ext_getElem?
              intro q
              by_cases hq : q = j
              · subst hq; rw [List.getElem?_set_self hji, hget]
              · rw [List.getElem?_set_ne (Ne.symm hq)]
            · rintro i x e w hx ⟨hik, z, y7, rfl, rfl⟩
              obtain ⟨_, rfl⟩ := rngE_of hx
              refine ⟨[7], _, eg_name, ?_⟩
              have hat : atI (l.set j (.dat (.int ((c ^ (k - i) * m : Nat) : Int)))) (0 + (j : Int)) = some (.dat (.int ((c ^ (k - i) * m : Nat) : Int))) := by
                rw [Int.zero_add]
                exact atI_nat (List.getElem?_set_self hji)
              have hixv : EV K (tOp (rIx K) (tVar 4) (tVar 6)) [.dat (.tup ((zI ms).map D.int)), .dat (dqN (t, u)), .dat (.int (c : Int)), .ptr 0, .ptr 1, .dat (.int z), .dat (.int (0 + (j : Int))), .dat (.int (0 + (i : Int)))] [.lst (F.map .dat), .lst (l.set j (.dat (.int ((c ^ (k - i) * m : Nat) : Int))))] (.dat (.int ((c ^ (k - i) * m : Nat) : Int))) [.lst (F.map .dat), .lst (l.set j (.dat (.int ((c ^ (k - i) * m : Nat) : Int))))] :=
                ev_ix (ev_vp rfl) (ev_vd rfl) (seqE_ptr rfl) hat
              refine sd_seq (M := fun e w => e = [.dat (.tup ((zI ms).map D.int)), .dat (dqN (t, u)), .dat (.int (c : Int)), .ptr 0, .ptr 1, .dat (.int z), .dat (.int (0 + (j : Int))), .dat (.int (0 + (i : Int)))] ∧ w = [.lst (F.map .dat), .lst (l.set j (.dat (.int ((c ^ (k - i) * m : Nat) : Int))))] ∧ i < k)
                (sd_if (et_test (ev_neI (ev_is (ev_mod (ev_intA hixv) (ev_vd rfl) (by omega)) (by rw [fmod_nat])) (ev_int 0))) (fun hb => sd_break ?_) (fun hb => sd_next ⟨rfl, rfl, ?_⟩)) ?_
              · have hik2 : i = k := by
                  apply Classical.byContradiction
                  intro hne
                  have : (c ^ (k - i) * m) % c = 0 := by
                    rw [show k - i = (k - i - 1) + 1 by omega, Nat.pow_succ, Nat.mul_right_comm]
                    exact Nat.mul_mod_left _ _
                  rw [this] at hb
                  simp at hb
                subst hik2
                rw [Nat.sub_self, Nat.pow_zero, Nat.one_mul]
                exact ⟨z, _, rfl, rfl⟩
              · have hne : i ≠ k := by
                  rintro rfl
                  rw [Nat.sub_self, Nat.pow_zero, Nat.one_mul] at hb
                  simp at hb
                  omega
                omega
              · rintro e w ⟨rfl, rfl, hlt2⟩
                have hcd : CDivA ((c ^ (k - i) * m : Nat) : Int) (c : Int) := ⟨by omega, log2_lt (n := s) (by show c < 2 ^ s; exact hcb) (by omega) (by omega)⟩
                have hdv : c ^ (k - i) * m / c = c ^ (k - (i + 1)) * m := by
                  rw [show k - i = (k - (i + 1)) + 1 by omega, Nat.pow_succ, Nat.mul_right_comm]
                  exact Nat.mul_div_cancel _ (by omega)
                refine sd_of (sd_asgT2 (a := .dat (.int ((c ^ (k - (i + 1)) * m : Nat) : Int))) (ea_cons (ev_is (ev_fdiv hixv (ev_vd rfl) hcd) (by rw [fdiv_nat, hdv])) (ea_cons (ev_sub (ev_addI (ev_vd rfl) (ev_int 1)) (ev_mulI (ev_int 2) (ev_vd rfl) (.of_left (by decide)))) ea_nil)) (egw_sub (j := j) (ev_vp rfl) (ev_vd rfl) rfl ?_) egw_name) ⟨by omega, _, _, rfl, ?_⟩
                · rw [Int.zero_add, List.length_set]
                  unfold ixN
                  rw [if_pos (by omega), if_pos (by omega)]
                  simp
                · show [Cn.lst (F.map .dat), Cn.lst ((l.set j _).set j _)] = _
                  rw [List.set_set]
            · rintro e w ⟨hik, _⟩
              rw [rngE_length] at hik
              have : (3000 : Int).toNat = 3000 := rfl
              omega
          match j, hj with
          | 0, _ => exact (side (nE [c ^ ka * ma, c ^ kb * mb]) ka ma (nE [ma, c ^ kb * mb]) la na pa ha2 rfl rfl rfl z y7).imp (fun e w ⟨z, x7, he, hw⟩ => ⟨z, _, x7, he, hw⟩) (fun _ _ x => x.elim) (fun _ _ x => x.elim) (fun _ _ x => x.elim)
          | 1, _ => exact (side (nE [ma, c ^ kb * mb]) kb mb (nE [ma, mb]) lb nb pb hb2 rfl rfl rfl z y7).imp (fun e w ⟨z, x7, he, hw⟩ => ⟨z, _, x7, he, hw⟩) (fun _ _ x => x.elim) (fun _ _ x => x.elim) (fun _ _ x => x.elim)
        · rintro e w ⟨z, y6, y7, rfl, rfl⟩
          exact ⟨z, y6, y7, rfl, rfl⟩
      · rintro e w ⟨z, y6, y7, rfl, rfl⟩
        have hap : (ms.drop (i + 1)) = ms.drop (i + 1) := rfl
        have cl : ∀ {k m : Nat}, c ^ k * m < 2 ^ s → m < 2 ^ s := fun {k m} h => Nat.lt_of_le_of_lt (Nat.le_mul_of_pos_left _ (Nat.pow_pos (by omega))) h
        refine sd_of (sd_drop (ev_append (l := F.map .dat) (ev_vp rfl) (ev_vd rfl) rfl ⟨_, rfl⟩ (by simp; omega))) ⟨_, _, _, _, F ++ [.int z], ma, mb, rfl, ?_, hma, hmb', cl ha2, cl hb2, by simp [hF]⟩
        rw [List.map_append]
        rfl
    · rintro e w ⟨x2, x5, x6, x7, F, a, b, rfl, rfl, ha, hb, _, _, _⟩
      have hl : ((zI ms).map D.int).map En.dat = nE ms := (nE_eq ms).symm
      rw [hl, nE_length, List.drop_length] at ha hb
      rw [ha.nil, hb.nil]
      exact ⟨x2, x5, x6, x7, F, rfl, rfl⟩
  · rintro e w ⟨x2, x5, x6, x7, F, rfl, rfl⟩
    refine sd_ret (ev_ifT (et_test (ev_is (ev_eqL (l := [.int 1, .int 1]) (m := [.int 1, .int 1]) (ev_vp rfl) (ev_lst (l := [.int 1, .int 1]) (ea_cons (ev_int 1) (ea_cons (ev_int 1) ea_nil)) (by simp)) (lstE_ptr rfl) rfl rfl rfl (by decide +kernel) (by decide +kernel)) ?_)) (ev_freeze (ev_vp rfl) rfl)) ⟨_, rfl, rfl⟩
    rfl
end
end K90
namespace K90
open PySem PySem.Spec PyProof.Rows L2 AS
local macro_rules | `(tactic| walk_at "ev") => `(tactic| first
  | exact ev_vd rfl
  | exact ev_vp rfl
  | exact ev_int _
  | exact ev_non
  | exact ev_bl _
  | exact ev_str _
  | assumption
  | (apply ev_addI <;> walk_at "ev")
  | (apply ev_sub <;> walk_at "ev")
  | (apply ev_neg; walk_at "ev")
  | (apply ev_abs; walk_at "ev")
  | (apply ev_intA; walk_at "ev")
  | (apply ev_lt <;> walk_at "ev")
  | (apply ev_le <;> walk_at "ev")
  | (apply ev_gt <;> walk_at "ev")
  | (apply ev_ge <;> walk_at "ev")
  | (apply ev_eqI <;> walk_at "ev")
  | (apply ev_neI <;> walk_at "ev")
  | (apply ev_isN; walk_at "ev")
  | (apply ev_notN; walk_at "ev")
  | (apply ev_isi (by walk_at "ev") rfl; rfl)
  | skip)
local macro_rules | `(tactic| walk_at "ea") => `(tactic| first
  | exact ea_nil
  | (apply ea_cons; walk_at "ev"; walk_at "ea"))
local macro_rules | `(tactic| walk_at "call") => `(tactic| (first
  | exact (fun vs H Q h => ⟨_, h⟩)
  | exact (fun vs H Q h => ⟨_, _, h⟩)
  | exact (fun vs H Q h => ⟨_, _, _, h⟩)))

section
variable {P : Program} {w : World} {K : PySem.W.Frag} {mg : Str → Option Value} {base : Heap}
def spIsB (K : PySem.W.Frag) : Sp := fun vs H Q _ => ∃ (ms : List Nat) (rs : List (Nat × Nat)) (s : Nat), ms.Pairwise (· < ·) ∧ Cb.Cop ms ∧ (∀ b ∈ ms, b < 2 ^ s) ∧ s ≤ 2900 ∧ ms.length ≤ 1000000 ∧ rs.length ≤ 1000000 ∧ (∀ r ∈ rs, Cb.Gen ms r.1 ∧ Cb.Gen ms r.2 ∧ r.1 < 2 ^ s ∧ r.2 < 2 ^ s) ∧
  spV K ([D.tup ((zI ms).map D.int), .lst (rs.map dqN)].map .dat) [] (.dat (.bl true)) [] vs H Q
theorem cut_to {α : Type} (l : List α) (k : Nat) (h : k ≤ l.length) : cutG l none (some (k : Int)) = l.take k := by
  unfold cutG
  rw [HT.sIx_none, HT.sIx_nat, List.drop_zero, Nat.sub_zero, Nat.min_eq_left h]
theorem sc__law_is_base : FnScope N__law_is_base P__law_is_base (defScope s__law_is_base) := ⟨rfl, rfl, rfl, by decide +kernel, rfl, by decide +kernel, by decide +kernel⟩
theorem ok__law_is_base (T : Tx K mg) : Cal P w K mg base CX0 2 "_law_is_base" P__law_is_base (spIsB K) := by
  refine T.f__law_is_base.cal sc__law_is_base (fun vs H Q E h => by obtain ⟨_, _, _, _, _, _, _, _, _, _, h⟩ := h; exact h.len) (fun _ _ _ _ _ _ us hl => match us, hl with | [_, _], _ => rfl) fun f cdv A outer s H vs Q E hr h => ?_
  obtain ⟨ms, rs, s, hasc, hC, hmb, hs, hml, hrl, hrs, h⟩ := h
  refine ⟨_, (pss_cons (ps_if (PW.pt (pw_or (pt_not (pt_truth (pe_callB call_isi (by rfl) T.b_isinstance (by decide +kernel) (pa_cons (pv 0) (pa_cons (pe_bltn (v := .ty "tuple") (u := .type "tuple") (by rfl) T.b_tuple (by decide +kernel) rfl) pa_nil))) (by intro _; rfl))) (pw_or1 (pt_cmpR (op_neA hr.units) (pe_lc (own := [("_law_one", 3)]) rfl sc__law_is_base.nd (pi_seq (pi_list (pv 0)) (pi_tup (pv 0))) (blkOk_by (own := [("_law_one", 3)]) (N := N__law_is_base) (sc := defScope s__law_is_base) (by decide +kernel))
 (fun _ _ _ _ _ => (pg_name (i := 3) sc__law_is_base.nd rfl (Or.inl rfl))) (fun _ _ _ _ _ => (pts_one (PW.pt (pw_or (pt_not (show PT _ _ (tTru K _) from pt_truth (pe_cal (ok__law_is_whole T) (hr.mono (by decide)) rfl (pa_cons (pv 3) pa_nil)) (by intro _; rfl))) (pw_or1 (pt_cmpR op_lt (pv 3) pe_int (nomark _))))))) (fun _ _ _ _ _ => (pv 3))) (pe_lst pa_nil) (nomark _)))))
 (pss_one (ps_ret pe_bl))
 pss_nil)
 (pss_cons (ps_for PassesOwn.never rfl (pi_range1 rfl T.b_range (pa_cons (pe_callB call_lenA (by rfl) T.b_len (by decide +kernel) (pa_cons (pv 0) pa_nil)) pa_nil)) (pg_name (i := 2) sc__law_is_base.nd rfl (Or.inr rfl))
 (pss_cons (ps_if (PW.pt (pw_and (pt_cmpR op_gt (pv 2) pe_int (nomark _)) (pw_and1 (pt_cmpR op_ge (pe_ix ix_seq (pv 0) (pe_op op_sub (pv 2) pe_int) (fun _ _ => rfl)) (pe_ix ix_seq (pv 0) (pv 2) (fun _ _ => rfl)) (nomark _)))))
 (pss_one (ps_ret pe_bl))
 pss_nil)
 (pss_one (ps_if (pt_cmpR (op_neA hr.units) (pe_lc (own := [("_law_other", 4)]) rfl sc__law_is_base.nd (pi_seq (pi_list (pe_slice sl_any (pv 0) po_none (po_some (pv 2)))) (pi_tup (pe_slice sl_any (pv 0) po_none (po_some (pv 2))))) (blkOk_by (own := [("_law_other", 4)]) (N := N__law_is_base) (sc := defScope s__law_is_base) (by decide +kernel))
 (fun _ _ _ _ _ => (pg_name (i := 4) sc__law_is_base.nd rfl (Or.inl rfl))) (fun _ _ _ _ _ => (pts_one (pt_cmpR (show OpR _ (compareOp .NotEq) (rNeA K) from (op_neA hr.units)) (pe_cal (ok__law_gcd T) (hr.mono (by decide)) rfl (pa_cons (pv 4) (pa_cons (pe_ix (show IxR _ (rIx K) from ix_seq) (pv 0) (pv 2) (fun _ _ => rfl)) pa_nil))) pe_int (nomark _)))) (fun _ _ _ _ _ => pe_int)) (pe_lst pa_nil) (nomark _))
 (pss_one (ps_ret pe_bl))
 pss_nil))))
 (pss_one (ps_ret (pe_cmpR (op_eqA hr.units) (pe_lc (own := [("_law_one", 3)]) rfl sc__law_is_base.nd (pi_seq (pi_list (pv 1)) (pi_tup (pv 1))) (blkOk_by (own := [("_law_one", 3)]) (N := N__law_is_base) (sc := defScope s__law_is_base) (by decide +kernel))
 (fun _ _ _ _ _ => (pg_name (i := 3) sc__law_is_base.nd rfl (Or.inl rfl))) (fun _ _ _ _ _ => (pts_one (pt_cmpR op_isN (pe_cal (ok__law_base_powers T) (hr.mono (by decide)) rfl (pa_cons (pv 0) (pa_cons (pv 3) pa_nil))) pe_non (nomark _)))) (fun _ _ _ _ _ => (pv 3))) (pe_lst pa_nil) (nomark _)))))), fn_goD h ?_⟩
  show SD K _ [.dat (.tup ((zI ms).map D.int)), .dat (.lst (rs.map dqN)), .un, .un, .un] [] _
  have hget : ∀ {k : Nat} (hk : k < ms.length), atI ((((zI ms).map D.int).map En.dat)) (k : Int) = some (.dat (.int (ms[k] : Int))) := fun {k} hk => by
    rw [← nE_eq]
    exact atI_nat (by simp [nE, hk])
  refine sd_seq (M := fun e w => e = [.dat (.tup ((zI ms).map D.int)), .dat (.lst (rs.map dqN)), .un, .un, .un] ∧ w = []) (sd_if (b := false) (et_is (et_or (a := false) (b := false) (et_is (et_not (et_truB (ev_isTuple (ev_vd rfl) rfl))) rfl) fun _ => et_test (ev_is (ev_neNil (e1 := .dat (.lst [])) (l := []) (ev_is (ev_lcF (m := ms) (g0 := fun o : Nat => .dat (.int (o : Int))) (f := fun _ => none) (js := [3]) (by rw [show ms.map (fun o : Nat => En.dat (.int (o : Int))) = nE ms from rfl, nE_eq]; exact ei_tup (ev_vd rfl)) hml trivial (by simp) fun o ho => ?_) (by simp)) rfl rfl) rfl)) rfl) (fun hb => by cases hb) (fun _ => sd_next ⟨rfl, rfl⟩)) ?_
  · have := hC.two o ho
    refine ⟨_, eg_name, .inr ⟨rfl, et_is (et_or (a := false) (b := false) (et_is (et_not (et_truB (ev_callD (d := .bl true) (l := [.int (o : Int)]) (ea_cons (ev_vd rfl) ea_nil) (fun vs H Q h => ⟨_, rfl, h⟩)))) rfl) fun _ => et_test (ev_is (ev_lt (ev_vd rfl) (ev_int 2)) (by rw [decide_eq_false (by omega)]))) rfl⟩⟩
  · rintro e w ⟨rfl, rfl⟩
    refine sd_seq (M := fun e w => (∃ x2, e = [.dat (.tup ((zI ms).map D.int)), .dat (.lst (rs.map dqN)), x2, .un, .un]) ∧ w = []) ?_ ?_
    · refine sd_for (ei_rng1 (n := (ms.length : Int)) (ea_cons (ev_is (ev_len (l := ((zI ms).map D.int).map .dat) (ev_vd rfl) rfl) (by simp [zI])) ea_nil) (by omega)) (fun i e w => (∃ x2, e = [.dat (.tup ((zI ms).map D.int)), .dat (.lst (rs.map dqN)), x2, .un, .un]) ∧ w = []) ⟨⟨.un, rfl⟩, rfl⟩ (fun _ _ _ _ => trivial) ?_ ?_
      · rintro i x e w hx ⟨⟨x2, rfl⟩, rfl⟩
        obtain ⟨hi, rfl⟩ := rngE_of hx
        have hi : i < ms.length := by simpa using hi
        refine ⟨[2], _, eg_name, ?_⟩
        rw [Int.zero_add]
        have hbk : ∀ {e : List En}, e[0]? = some (.dat (.tup ((zI ms).map D.int))) → e[2]? = some (.dat (.int (i : Int))) → EV K (tOp (rIx K) (tVar 0) (tVar 2)) e [] (.dat (.int (ms[i] : Int))) [] := fun {e} h0 h2 => ev_ix (ev_vd h0) (ev_vd h2) rfl (hget hi)
        refine sd_seq (M := fun e w => e = [.dat (.tup ((zI ms).map D.int)), .dat (.lst (rs.map dqN)), .dat (.int (i : Int)), .un, .un] ∧ w = []) (sd_if (b := false) (et_is (et_and (a := decide (0 < (i : Int))) (b := false) (et_test (ev_gt (ev_vd rfl) (ev_int 0))) fun h0 => ?_) (by simp)) (fun hb => by cases hb) (fun _ => sd_next ⟨rfl, rfl⟩)) ?_
        · have h0 : 0 < i := by have := of_decide_eq_true h0; omega
          have hlt := List.pairwise_iff_getElem.mp hasc (i - 1) i (by omega) hi (by omega)
          refine et_test (ev_is (ev_ge (ev_ix (ev_vd rfl) (ev_is (ev_sub (ev_vd rfl) (ev_int 1)) (by rw [show (i : Int) - 1 = ((i - 1 : Nat) : Int) by omega])) rfl (hget (k := i - 1) (by omega))) (hbk rfl rfl)) ?_)
          rw [decide_eq_false (by omega)]
        · rintro e w ⟨rfl, rfl⟩
          have hbk2 := hbk (e := [.dat (.tup ((zI ms).map D.int)), .dat (.lst (rs.map dqN)), .dat (.int (i : Int)), .un, .un]) rfl rfl
          refine sd_if (b := false) (et_test (ev_is (ev_neNil (e1 := .dat (.lst [])) (l := []) (ev_is (ev_lcF (stay := fun _ => True) (m := ms.take i) (g0 := fun o : Nat => .dat (.int (o : Int))) (f := fun _ => none) (js := [4]) ?_ (by rw [List.length_take]; omega) trivial (by simp) fun o ho => ?_) (by simp)) rfl rfl) rfl)) (fun hb => by cases hb) (fun _ => sd_next ⟨⟨_, rfl⟩, rfl⟩)
          · have z := ev_slT (K := K) (W := []) (l := (zI ms).map D.int) (es := [.dat (.tup ((zI ms).map D.int)), .dat (.lst (rs.map dqN)), .dat (.int (i : Int)), .un, .un]) (te := tVar 0) (ev_vd rfl) eo_none (eo_some (ev_vd (i := 2) rfl))
            rw [cut_to _ _ (by simp [zI]; omega), ← List.map_take] at z
            have e1 : (ms.take i).map (fun o : Nat => En.dat (.int (o : Int))) = (((zI ms).take i).map D.int).map En.dat := by simp [zI]; rfl
            rw [e1]
            exact ei_tup z
          · obtain ⟨j, hj, rfl⟩ := List.mem_take_iff_getElem.mp ho
            have hji : j < i := by omega
            have hg : Nat.gcd ms[j] ms[i] = 1 := List.pairwise_iff_getElem.mp hC.cop j i (by omega) hi hji
            have hbb := hmb ms[i] (List.getElem_mem hi)
            refine ⟨_, eg_name, .inr ⟨rfl, et_test (ev_is (ev_neI (ev_callD (d := .int 1) (l := [.int (ms[j] : Int), .int (ms[i] : Int)]) (ea_cons (ev_vd rfl) (ea_cons (hbk rfl rfl) ea_nil)) (fun vs H Q h => ⟨(ms[j] : Int), (ms[i] : Int), Nat.lt_of_lt_of_le hbb (Nat.pow_le_pow_right (by decide) (by omega)), ?_⟩)) (ev_int 1)) rfl)⟩⟩
            have e1 : ((Int.gcd (ms[j] : Int) (ms[i] : Int) : Nat) : Int) = 1 := by
              show ((Nat.gcd ms[j] ms[i] : Nat) : Int) = 1
              rw [hg]; rfl
            rw [e1]
            exact h
      · rintro e w ⟨hx, rfl⟩
        exact ⟨hx, rfl⟩
    · rintro e w ⟨⟨x2, rfl⟩, rfl⟩
      have hei := ei_lst (K := K) (W := []) (es := [.dat (.tup ((zI ms).map D.int)), .dat (.lst (rs.map dqN)), x2, .un, .un]) (tl := tVar 1) (ev_vd rfl)
      rw [List.map_map] at hei
      refine sd_ret (ev_eqNil (e1 := .dat (.lst [])) (l := []) (ev_is (ev_lcF (m := rs) (f := fun _ => none) (js := [3]) hei hrl trivial (by simp) fun r hr => ?_) (by simp)) rfl rfl) rfl
      obtain ⟨g1, g2, g3, g4⟩ := hrs r hr
      exact ⟨_, eg_name, .inr ⟨rfl, et_isNP (evp_callD (l := [D.tup ((zI ms).map D.int), dqN r]) (ea_cons (ev_vd rfl) (ea_cons (ev_vd rfl) ea_nil)) (fun vs H Q h => ⟨ms, r.1, r.2, s, hC, g1, g2, g3, g4, hs, hmb, hml, h⟩))⟩⟩
end
end K90
namespace K90
open PySem PySem.Spec PyProof.Rows L2 AS
local macro_rules | `(tactic| walk_at "ev") => `(tactic| first
  | exact ev_vd rfl
  | exact ev_vp rfl
  | exact ev_int _
  | exact ev_non
  | exact ev_bl _
  | exact ev_str _
  | assumption
  | (apply ev_addI <;> walk_at "ev")
  | (apply ev_sub <;> walk_at "ev")
  | (apply ev_neg; walk_at "ev")
  | (apply ev_abs; walk_at "ev")
  | (apply ev_intA; walk_at "ev")
  | (apply ev_lt <;> walk_at "ev")
  | (apply ev_le <;> walk_at "ev")
  | (apply ev_gt <;> walk_at "ev")
  | (apply ev_ge <;> walk_at "ev")
  | (apply ev_eqI <;> walk_at "ev")
  | (apply ev_neI <;> walk_at "ev")
  | (apply ev_isN; walk_at "ev")
  | (apply ev_notN; walk_at "ev")
  | (apply ev_isi (by walk_at "ev") rfl; rfl)
  | skip)
local macro_rules | `(tactic| walk_at "ea") => `(tactic| first
  | exact ea_nil
  | (apply ea_cons; walk_at "ev"; walk_at "ea"))
local macro_rules | `(tactic| walk_at "call") => `(tactic| (first
  | exact (fun vs H Q h => ⟨_, h⟩)
  | exact (fun vs H Q h => ⟨_, _, h⟩)
  | exact (fun vs H Q h => ⟨_, _, _, h⟩)))

section
variable {P : Program} {w : World} {K : PySem.W.Frag} {mg : Str → Option Value} {base : Heap}
/-! one lot that is drawn -/
def lotF (p : Pen) : Nat := ([1, 2, 30] : List Nat).getD (draw p 3).1.toNat 1
def lotS (p : Pen) : Nat × Pen := (2 + (big (draw p 3).2 (lotF p)).1.toNat, (big (draw p 3).2 (lotF p)).2)
theorem lot_get (p : Pen) : ([.int 1, .int 2, .int 30] : List D)[(draw p 3).1.toNat]? = some (.int (lotF p)) ∧ 1 ≤ lotF p ∧ lotF p ≤ 30 := by
  have hd := draw_range p (m := 3) (by decide)
  unfold lotF
  generalize hj : (draw p 3).1.toNat = j
  have hj3 : j < 3 := by omega
  match j, hj3 with
  | 0, _ => exact ⟨rfl, by decide, by decide⟩
  | 1, _ => exact ⟨rfl, by decide, by decide⟩
  | 2, _ => exact ⟨rfl, by decide, by decide⟩
theorem lot_ok {n : Nat} {p : Pen} (h : PenOk n p) : PenOk (n + 12) (lotS p).2 ∧ 2 ≤ (lotS p).1 ∧ (lotS p).1 ≤ 10 ^ 30 + 1 ∧ ((lotS p).1 : Int) = 2 + (big (draw p 3).2 (lotF p)).1 := by
  obtain ⟨g1, g2, g3⟩ := lot_get p
  obtain ⟨b1, b2, b3⟩ := big_ok (h.draw (m := 3) (by decide)) g2 g3
  have h10 : (10 : Nat) ^ lotF p ≤ 10 ^ 30 := Nat.pow_le_pow_right (by decide) g3
  have e : ((10 ^ lotF p : Nat) : Int) = (10 : Int) ^ lotF p := by simp
  have hlt : (big (draw p 3).2 (lotF p)).1.toNat < 10 ^ 30 := by omega
  refine ⟨b1.mono (by omega), ?_, ?_, ?_⟩
  · unfold lotS; dsimp only; omega
  · unfold lotS; dsimp only; omega
  · unfold lotS; dsimp only; omega
def lotP (p : Pen) : Nat → Pen
  | 0 => p
  | i + 1 => (lotS (lotP p i)).2
theorem lotP_ok {n : Nat} {p : Pen} (h : PenOk n p) : ∀ i, PenOk (n + 12 * i) (lotP p i)
  | 0 => h
  | i + 1 => (lot_ok (lotP_ok h i)).1.mono (by omega)
def lotV (p : Pen) (i : Nat) : Nat := (lotS (lotP p i)).1
/-! one power that is drawn -/
def powS (p : Pen) : Int × Pen := if (draw p 2).1 = 0 then ((draw (draw p 2).2 5).1 - 2, (draw (draw p 2).2 5).2) else (0, (draw p 2).2)
theorem powS_ok {n : Nat} {p : Pen} (h : PenOk n p) : PenOk (n + 2) (powS p).2 ∧ (powS p).1.natAbs ≤ 2 := by
  have h1 := h.draw (m := 2) (by decide)
  have hd := draw_range (draw p 2).2 (m := 5) (by decide)
  unfold powS
  split
  · refine ⟨h1.draw (by decide), ?_⟩
    show ((draw (draw p 2).2 5).1 - 2).natAbs ≤ 2
    omega
  · exact ⟨h1.mono (by omega), by show (0 : Int).natAbs ≤ 2; decide⟩
def powP (p : Pen) : Nat → Pen
  | 0 => p
  | i + 1 => (powS (powP p i)).2
theorem powP_ok {n : Nat} {p : Pen} (h : PenOk n p) : ∀ i, PenOk (n + 2 * i) (powP p i)
  | 0 => h
  | i + 1 => (powS_ok (powP_ok h i)).1.mono (by omega)
/-! what the products of powers are -/
def Pos (L : Nat) (q : Int × Int) : Prop := 0 < q.1 ∧ 0 < q.2 ∧ Cb.Pw L q.1.natAbs ∧ Cb.Pw L q.2.natAbs
theorem Lw_dvd {t b : Int} (hb : 0 < b) (ht : 0 < t) : (Lw t b).1.natAbs ∣ t.natAbs ∧ (Lw t b).2.natAbs ∣ b.natAbs := by
  rw [Lw_pos hb]
  refine ⟨Int.natAbs_dvd_natAbs.mpr ?_, Int.natAbs_dvd_natAbs.mpr ?_⟩
  · exact ⟨_, (Int.ediv_mul_cancel (Int.gcd_dvd_left t b)).symm⟩
  · exact ⟨_, (Int.ediv_mul_cancel (Int.gcd_dvd_right t b)).symm⟩
theorem Lw_pos2 {t b : Int} (ht : 0 < t) (hb : 0 < b) : 0 < (Lw t b).1 ∧ 0 < (Lw t b).2 := by
  have hg : 0 < Int.gcd t b := Int.gcd_pos_of_ne_zero_right _ (by omega)
  rw [Lw_pos hb]
  exact ⟨Int.ediv_pos_of_pos_of_dvd ht (by omega) (Int.gcd_dvd_left t b), Int.ediv_pos_of_pos_of_dvd hb (by omega) (Int.gcd_dvd_right t b)⟩
theorem Lw_cop {t b : Int} (hb : 0 < b) : Int.gcd (Lw t b).1 (Lw t b).2 = 1 := by
  rw [Lw_pos hb]
  exact Int.gcd_ediv_gcd_ediv_gcd_of_ne_zero_right (by omega)
theorem Lw_P {L : Nat} {t b : Int} (ht : 0 < t) (hb : 0 < b) (h1 : Cb.Pw L t.natAbs) (h2 : Cb.Pw L b.natAbs) : Pos L (Lw t b) := by
  obtain ⟨d1, d2⟩ := Lw_dvd hb ht
  obtain ⟨p1, p2⟩ := Lw_pos2 ht hb
  exact ⟨p1, p2, Cb.Pw.dc L _ _ d1 (by omega) h1, Cb.Pw.dc L _ _ d2 (by omega) h2⟩
theorem pow_Pw {L : Nat} {a : Int} (h : Cb.Pw L a.natAbs) : ∀ k : Nat, Cb.Pw L (a ^ k).natAbs
  | 0 => ⟨0, by simp⟩
  | k + 1 => by
    rw [Int.pow_succ, Int.natAbs_mul]
    exact (pow_Pw h k).mul h
theorem pw_P {L : Nat} {q : Int × Int} {n : Int} (h : Pos L q) : Pos L (pwQ q n) := by
  obtain ⟨h1, h2, h3, h4⟩ := h
  unfold pwQ
  split
  · exact ⟨pos_pow h1 _, pos_pow h2 _, pow_Pw h3 _, pow_Pw h4 _⟩
  · exact Lw_P (pos_pow h2 _) (pos_pow h1 _) (pow_Pw h4 _) (pow_Pw h3 _)
theorem tm_P {L : Nat} {q r : Int × Int} (h : Pos L q) (k : Pos L r) : Pos L (tmQ q r) := by
  obtain ⟨h1, h2, h3, h4⟩ := h
  obtain ⟨k1, k2, k3, k4⟩ := k
  exact Lw_P (Int.mul_pos h1 k1) (Int.mul_pos h2 k2) (by rw [Int.natAbs_mul]; exact h3.mul k3) (by rw [Int.natAbs_mul]; exact h4.mul k4)
theorem pws_P {L : Nat} : ∀ (l : List ((Int × Int) × Int)) (f : Int × Int), Pos L f → (∀ p ∈ l, Pos L p.1) → Pos L (l.foldl (fun f p => tmQ f (pwQ p.1 p.2)) f)
  | [], _, h, _ => h
  | p :: r, _, h, hl => pws_P r _ (tm_P h (pw_P (hl p (by simp)))) fun q hq => hl q (by simp [hq])
theorem pws_cop : ∀ (l : List ((Int × Int) × Int)) (f : Int × Int), 0 < f.2 → Int.gcd f.1 f.2 = 1 → (∀ p ∈ l, 0 < p.1.1 ∧ 0 < p.1.2) → Int.gcd (l.foldl (fun f p => tmQ f (pwQ p.1 p.2)) f).1 (l.foldl (fun f p => tmQ f (pwQ p.1 p.2)) f).2 = 1
  | [], _, _, h, _ => h
  | p :: r, f, h0, h, hl => by
    obtain ⟨a1, a2⟩ := hl p (by simp)
    have p2 : 0 < (pwQ p.1 p.2).2 := by
      unfold pwQ
      split
      · exact pos_pow a2 _
      · exact (Lw_pos2 (pos_pow a2 _) (pos_pow a1 _)).2
    have hb : 0 < f.2 * (pwQ p.1 p.2).2 := Int.mul_pos h0 p2
    have hg : 0 < Int.gcd (f.1 * (pwQ p.1 p.2).1) (f.2 * (pwQ p.1 p.2).2) := Int.gcd_pos_of_ne_zero_right _ (by omega)
    refine pws_cop r _ ?_ (Lw_cop hb) fun q hq => hl q (by simp [hq])
    show 0 < (Lw _ _).2
    rw [Lw_pos hb]
    exact Int.ediv_pos_of_pos_of_dvd hb (by omega) (Int.gcd_dvd_right _ _)
/-- a ratio that was drawn -/
structure Rat1 (L : Nat) (r : Nat × Nat) : Prop where
  p1 : 1 ≤ r.1
  p2 : 1 ≤ r.2
  w1 : Cb.Pw L r.1
  w2 : Cb.Pw L r.2
  s1 : r.1 < 2 ^ 1100
  s2 : r.2 < 2 ^ 1100
  co : Nat.gcd r.1 r.2 = 1
def LotsOk (L : Nat) : Prop := 0 < L ∧ L < 3 ^ 62 * Cb.fac 62
def spRat (K : PySem.W.Frag) : Sp := fun vs H Q _ => ∃ (n : Nat) (p : Pen), PenOk n p ∧ n < 2 ^ 38 ∧
  spP K [.ptr 0] [p.cn] (fun e w => ∃ (rs : List (Nat × Nat)) (L : Nat) (p' : Pen), e = .dat (.lst (rs.map dqN)) ∧ w = [p'.cn] ∧ PenOk (n + 200) p' ∧ LotsOk L ∧ rs.length ≤ 6 ∧ ∀ r ∈ rs, Rat1 L r) vs H Q
/-- the product of powers of the lots -/
theorem rat_ok {lots : List Nat} {pws : List Int} (h5 : lots.length = 5) (h5' : pws.length = 5) (hl : ∀ x ∈ lots, 2 ≤ x ∧ x ≤ 10 ^ 30 + 1) (hp : ∀ n ∈ pws, n.natAbs ≤ 2) {L : Nat} (hL : ∀ x ∈ lots, x ∣ L) :
    (∀ p ∈ (lots.zip pws).map (fun p => ((((p.1 : Nat) : Int), (1 : Int)), p.2)), Sz 101 p.1 ∧ 0 < p.1.1 ∧ p.2.natAbs ≤ 2) ∧ ∃ r : Nat × Nat, dq (pwsQ ((lots.zip pws).map fun p => ((((p.1 : Nat) : Int), (1 : Int)), p.2))) = dqN r ∧ Rat1 L r := by
  have hm : ∀ p ∈ (lots.zip pws).map (fun p => ((((p.1 : Nat) : Int), (1 : Int)), p.2)), Sz 101 p.1 ∧ 0 < p.1.1 ∧ p.2.natAbs ≤ 2 ∧ Pos L p.1 := fun p hp' => by
    obtain ⟨⟨a, b⟩, hab, rfl⟩ := List.mem_map.mp hp'
    obtain ⟨ha, hb⟩ := List.of_mem_zip hab
    obtain ⟨h1, h2⟩ := hl a ha
    have e : (10 : Nat) ^ 30 + 1 < 2 ^ 101 := by decide
    refine ⟨⟨by show a < 2 ^ 101; omega, by show (0 : Int) < 1; decide, by show (1 : Int).natAbs < 2 ^ 101; decide⟩, by show (0 : Int) < (a : Int); omega, hp b hb, by show (0 : Int) < (a : Int); omega, by show (0 : Int) < 1; decide, ⟨1, ?_⟩, ⟨0, by simp⟩⟩
    rw [Nat.pow_one]
    exact hL a ha
  refine ⟨fun p hp' => ⟨(hm p hp').1, (hm p hp').2.1, (hm p hp').2.2.1⟩, ?_⟩
  generalize hq : (lots.zip pws).map (fun p => ((((p.1 : Nat) : Int), (1 : Int)), p.2)) = l at hm ⊢
  have hlen : l.length = 5 := by rw [← hq]; simp [h5, h5']
  obtain ⟨s1, s2⟩ := pws_facts (s := 101) (b := 2) l (1, 1) 1 ⟨by decide, by decide, by decide⟩ (by decide) fun p hp' => ⟨(hm p hp').1, (hm p hp').2.1, (hm p hp').2.2.1⟩
  have P := pws_P (L := L) l (1, 1) ⟨by decide, by decide, ⟨0, by simp⟩, ⟨0, by simp⟩⟩ fun p hp' => (hm p hp').2.2.2
  have C := pws_cop l (1, 1) (by decide) (by decide) fun p hp' => ⟨(hm p hp').2.1, (hm p hp').1.2.1⟩
  rw [hlen] at s1
  have w : 2 ^ (1 + 5 * (101 * 2 + 1)) ≤ 2 ^ 1100 := Nat.pow_le_pow_right (by decide) (by decide)
  unfold pwsQ
  generalize l.foldl (fun f p => tmQ f (pwQ p.1 p.2)) (1, 1) = q at s1 s2 P C
  obtain ⟨a, b⟩ := q
  obtain ⟨h1, h2, h3, h4⟩ := P
  refine ⟨(a.natAbs, b.natAbs), ?_, ⟨?_, ?_, h3, h4, Nat.lt_of_lt_of_le s1.1 w, Nat.lt_of_lt_of_le s1.2.2 w, C⟩⟩
  · show D.tup [.int a, .int b] = D.tup [.int (a.natAbs : Int), .int (b.natAbs : Int)]
    have e1 : ((a.natAbs : Nat) : Int) = a := by dsimp only at h1; omega
    have e2 : ((b.natAbs : Nat) : Int) = b := by dsimp only at h2; omega
    rw [e1, e2]
  · dsimp only at h1 ⊢; omega
  · dsimp only at h2 ⊢; omega
theorem lots_L {a b c d e : Nat} (ha : 2 ≤ a ∧ a ≤ 10 ^ 30 + 1) (hb : 2 ≤ b ∧ b ≤ 10 ^ 30 + 1) (hc : 2 ≤ c ∧ c ≤ 10 ^ 30 + 1) (hd : 2 ≤ d ∧ d ≤ 30) (he : 2 ≤ e ∧ e ≤ 10 ^ 18 + 9) : LotsOk (a * b * c * d * e) ∧ ∀ x ∈ [a, b, c, d, e], x ∣ a * b * c * d * e := by
  refine ⟨⟨?_, ?_⟩, ?_⟩
  · exact Nat.mul_pos (Nat.mul_pos (Nat.mul_pos (Nat.mul_pos (by omega) (by omega)) (by omega)) (by omega)) (by omega)
  · refine Nat.lt_of_le_of_lt (Nat.mul_le_mul (Nat.mul_le_mul (Nat.mul_le_mul (Nat.mul_le_mul ha.2 hb.2) hc.2) hd.2) he.2) ?_
    decide +kernel
  · intro x hx
    simp at hx
    rcases hx with rfl | rfl | rfl | rfl | rfl
    · exact ⟨b * c * d * e, by simp [Nat.mul_assoc]⟩
    · exact ⟨a * c * d * e, by simp [Nat.mul_assoc, Nat.mul_left_comm]⟩
    · exact ⟨a * b * d * e, by simp [Nat.mul_assoc, Nat.mul_left_comm]⟩
    · exact ⟨a * b * c * e, by simp [Nat.mul_assoc, Nat.mul_left_comm]⟩
    · exact ⟨a * b * c * d, by simp [Nat.mul_comm, Nat.mul_left_comm]⟩
theorem sc__law_ratios : FnScope N__law_ratios P__law_ratios (defScope s__law_ratios) := ⟨rfl, rfl, rfl, by decide +kernel, rfl, by decide +kernel, by decide +kernel⟩
theorem ok__law_ratios (T : Tx K mg) : Cal P w K mg base CX0 5 "_law_ratios" P__law_ratios (spRat K) := by
  refine T.f__law_ratios.cal sc__law_ratios (fun vs H Q E h => by obtain ⟨_, _, _, _, h⟩ := h; exact h.len) (fun _ _ _ _ _ _ us hl => match us, hl with | [_], _ => rfl) fun f cdv A outer s H vs Q E hr h => ?_
  obtain ⟨n, p, hp, hn, h⟩ := h
  refine ⟨_, (pss_cons (ps_setLc (i := 1) (own := [("_law_k", 5)]) rfl sc__law_ratios.nd rfl rfl (sw_true rfl rfl rfl (by decide +kernel)) (pi_range1 rfl T.b_range (pa_cons pe_int pa_nil)) (blkOk_by (own := [("_law_k", 5)]) (N := N__law_ratios) (sc := defScope s__law_ratios) (by decide +kernel))
 (fun _ _ _ _ _ => (pg_name (i := 5) sc__law_ratios.nd rfl (Or.inl rfl))) (fun _ _ _ _ _ => pts_nil) (fun _ _ _ _ _ => (pe_ix (show IxR _ (rIx K) from ix_seq) (pe_cal (ok__law_q T) (hr.mono (by decide)) rfl (pa_cons (pe_op (show OpR _ (binaryOp .Add) (rAddX K) from (op_addX)) pe_int (pe_cal (ok__law_big T) (hr.mono (by decide)) rfl (pa_cons (pv 0) (pa_cons (pe_cal (ok__law_pick T) (hr.mono (by decide)) rfl (pa_cons (pv 0) (pa_cons (pe_lst (pa_cons pe_int (pa_cons pe_int (pa_cons pe_int pa_nil)))) pa_nil))) pa_nil)))) (pa_cons pe_int pa_nil))) pe_int (fun _ _ => rfl))))
 (pss_cons (ps_set (i := 1) sc__law_ratios.nd rfl (Or.inl rfl) (pe_op (op_addX) (pv 1) (pe_lst (pa_cons (pe_cal (ok__law_pick T) (hr.mono (by decide)) rfl (pa_cons (pv 0) (pa_cons (pe_lst (pa_cons pe_int (pa_cons pe_int (pa_cons pe_int (pa_cons pe_int pa_nil))))) pa_nil))) (pa_cons (pe_cal (ok__law_pick T) (hr.mono (by decide)) rfl (pa_cons (pv 0) (pa_cons (pe_lst (pa_cons (pe_op (op_addX) (pe_op op_pow pe_int pe_int) pe_int) (pa_cons pe_int pa_nil))) pa_nil))) pa_nil)))))
 (pss_cons (ps_set (i := 2) sc__law_ratios.nd rfl (Or.inl rfl) (pe_lst pa_nil))
 (pss_cons (ps_for PassesOwn.never rfl (pi_range1 rfl T.b_range (pa_cons (pe_cal (ok__law_draw T) (hr.mono (by decide)) rfl (pa_cons (pv 0) (pa_cons pe_int pa_nil))) pa_nil)) (pg_name (i := 3) sc__law_ratios.nd rfl (Or.inl rfl))
 (pss_cons (ps_setLc (i := 4) (own := [("_law_one", 6)]) rfl sc__law_ratios.nd rfl rfl (sw_true rfl rfl rfl (by decide +kernel)) (pi_seq (pi_list (pv 1)) (pi_tup (pv 1))) (blkOk_by (own := [("_law_one", 6)]) (N := N__law_ratios) (sc := defScope s__law_ratios) (by decide +kernel))
 (fun _ _ _ _ _ => (pg_name (i := 6) sc__law_ratios.nd rfl (Or.inl rfl))) (fun _ _ _ _ _ => pts_nil) (fun _ _ _ _ _ => (pe_ifExp (pt_cmpR (show OpR _ (compareOp .Eq) (rEqA K) from (op_eqA hr.units)) (pe_cal (ok__law_draw T) (hr.mono (by decide)) rfl (pa_cons (pv 0) (pa_cons pe_int pa_nil))) pe_int (nomark _)) (pe_op op_sub (pe_cal (ok__law_draw T) (hr.mono (by decide)) rfl (pa_cons (pv 0) (pa_cons pe_int pa_nil))) pe_int) pe_int)))
 (pss_one (ps_expr (pe_bm PySem.F.plainAttrs_list PySem.F.slot_list_append PySem.F.type_list_append mt_append (pv 2) (pa_cons (pe_cal (ok__law_powers T) (hr.mono (by decide)) rfl (pa_cons (pe_lc (own := [("_law_one", 6)]) rfl sc__law_ratios.nd (pi_seq (pi_list (pv 1)) (pi_tup (pv 1))) (blkOk_by (own := [("_law_one", 6)]) (N := N__law_ratios) (sc := defScope s__law_ratios) (by decide +kernel))
 (fun _ _ _ _ _ => (pg_name (i := 6) sc__law_ratios.nd rfl (Or.inl rfl))) (fun _ _ _ _ _ => pts_nil) (fun _ _ _ _ _ => (pe_tup (pa_cons (pv 6) (pa_cons pe_int pa_nil))))) (pa_cons (pv 4) pa_nil))) pa_nil))))))
 (pss_one (ps_ret (pv 2))))))), fn_goP h (fun r w ⟨rs, L, p', h1, h2, _⟩ => by subst h1 h2; exact ⟨trivial, rfl, fun c hc => by simp at hc; subst hc; exact Pen.cl _ _⟩) ?_⟩
  show SD K _ [.ptr 0, .un, .un, .un, .un, .un, .un] [p.cn] _
  have hpe : ∀ (p : Pen) (c : Cn), c ∈ [p.cn] → c = p.cn := fun p c h => by simpa using h
  -- three lots
  refine sd_then (W1 := [(lotP p 3).cn]) (es1 := [.ptr 0, .dat (.lst [.int (lotV p 0), .int (lotV p 1), .int (lotV p 2)]), .un, .un, .un, .un, .un]) ?_ ?_
  · refine sd_asg (ev_lc (js := [5]) (ei_rng1 (n := 3) (ea_cons (ev_int 3) ea_nil) (by decide)) (fun i => some (.int (lotV p i))) (fun i => [(lotP p i).cn]) rfl (by rw [rngE_length]; decide) (fun _ _ => trivial) (by simp) fun i x hx => ?_)
    obtain ⟨hi, rfl⟩ := rngE_of hx
    have hi : i < 3 := hi
    have hpi := lotP_ok hp i
    obtain ⟨g1, g2, g3⟩ := lot_get (lotP p i)
    obtain ⟨l1, l2, l3, l4⟩ := lot_ok hpi
    have hL1 : (Lw (lotV p i : Int) 1).1 = (lotV p i : Int) := by rw [Lw_pos (by decide)]; simp
    refine ⟨_, eg_name, .inl ⟨_, _, rfl, et_yes, ?_⟩⟩
    refine ev_is (ev_ix (l := [.dat (.int (Lw (lotV p i : Int) 1).1), .dat (.int (Lw (lotV p i : Int) 1).2)]) (ev_callD (l := [.int (lotV p i : Int), .int 1]) (ea_cons (ev_is (ev_addI (ev_int 2) (ev_big (R := []) (ea_cons (ev_vp rfl) (ea_cons (ev_pick (R := []) (n := n + 12 * i) (p := lotP p i) (l := [.int 1, .int 2, .int 30]) (ea_cons (ev_vp rfl) (ea_cons (ev_lst (l := [.int 1, .int 2, .int 30]) (ea_cons (ev_int 1) (ea_cons (ev_int 2) (ea_cons (ev_int 30) ea_nil))) (by simp)) ea_nil)) hpi (by omega) (by decide) (by decide) g1) ea_nil)) (hpi.draw (m := 3) (by decide)) (by omega) g2 g3)) (by show En.dat (D.int (2 + (big (draw (lotP p i) 3).2 (lotF (lotP p i))).1)) = _; rw [← l4]; rfl)) (ea_cons (ev_int 1) ea_nil)) (fun vs H Q h => ⟨_, _, by decide, by decide, h⟩)) (ev_int 0) rfl rfl) (by rw [hL1])
  -- two more
  have p3 := lotP_ok hp 3
  obtain ⟨d3, hd3, hm3⟩ := pick_get (p := lotP p 3) (l := [.int 2, .int 6, .int 12, .int 30]) (by decide)
  obtain ⟨d4, hd4, hm4⟩ := pick_get (p := (draw (lotP p 3) 4).2) (l := [.int 1000000000000000009, .int 1000003]) (by decide)
  obtain ⟨v3, rfl, h3a⟩ : ∃ v : Nat, d3 = .int (v : Int) ∧ 2 ≤ v ∧ v ≤ 30 := by
    simp at hm3
    rcases hm3 with rfl | rfl | rfl | rfl
    · exact ⟨2, rfl, by decide⟩
    · exact ⟨6, rfl, by decide⟩
    · exact ⟨12, rfl, by decide⟩
    · exact ⟨30, rfl, by decide⟩
  obtain ⟨v4, rfl, h4a⟩ : ∃ v : Nat, d4 = .int (v : Int) ∧ 2 ≤ v ∧ v ≤ 10 ^ 18 + 9 := by
    simp at hm4
    rcases hm4 with rfl | rfl
    · exact ⟨1000000000000000009, rfl, by decide⟩
    · exact ⟨1000003, rfl, by decide⟩
  have p4 := p3.draw (m := 4) (by decide)
  have p5 := p4.draw (m := 2) (by decide)
  generalize hP5 : (draw (draw (lotP p 3) 4).2 2).2 = q5 at p5
  refine sd_then (W1 := [q5.cn]) (es1 := [.ptr 0, .dat (.lst ((zI [lotV p 0, lotV p 1, lotV p 2, v3, v4]).map D.int)), .un, .un, .un, .un, .un]) ?_ ?_
  · refine sd_asg (ev_cat (l := [.int (lotV p 0), .int (lotV p 1), .int (lotV p 2)]) (m := [.int (v3 : Int), .int (v4 : Int)]) (W1 := [(lotP p 3).cn]) (ev_vd rfl) (ev_lst (l := [.int (v3 : Int), .int (v4 : Int)]) (ea_cons (ev_pick (R := []) (p := lotP p 3) (l := [.int 2, .int 6, .int 12, .int 30]) (ea_cons (ev_vp rfl) (ea_cons (ev_lst (l := [.int 2, .int 6, .int 12, .int 30]) (ea_cons (ev_int 2) (ea_cons (ev_int 6) (ea_cons (ev_int 12) (ea_cons (ev_int 30) ea_nil)))) (by simp)) ea_nil)) p3 (by omega) (by decide) (by decide) hd3)
      (ea_cons ?_ ea_nil)) (by simp)) rfl rfl (by simp))
    rw [← hP5]
    exact ev_pick (R := []) (p := (draw (lotP p 3) 4).2) (l := [.int 1000000000000000009, .int 1000003]) (ea_cons (ev_vp rfl) (ea_cons (ev_lst (l := [.int 1000000000000000009, .int 1000003]) (ea_cons (ev_is (ev_addI (ev_pow (ev_int 10) (ev_int 18) ⟨by decide, by decide, by decide⟩) (ev_int 9)) (by rw [show (10 : Int) ^ (18 : Int).toNat + 9 = 1000000000000000009 by decide])) (ea_cons (ev_int 1000003) ea_nil)) (by simp)) ea_nil)) p4 (by omega) (by decide) (by decide) hd4
  generalize hlots : [lotV p 0, lotV p 1, lotV p 2, v3, v4] = lots
  have hr : ∀ i, 2 ≤ lotV p i ∧ lotV p i ≤ 10 ^ 30 + 1 := fun i => ⟨(lot_ok (lotP_ok hp i)).2.1, (lot_ok (lotP_ok hp i)).2.2.1⟩
  obtain ⟨hL, hdv⟩ := lots_L (hr 0) (hr 1) (hr 2) h3a h4a
  rw [hlots] at hdv
  generalize hLL : lotV p 0 * lotV p 1 * lotV p 2 * v3 * v4 = L at hL hdv
  have hl5 : lots.length = 5 := by rw [← hlots]; rfl
  have hlr : ∀ x ∈ lots, 2 ≤ x ∧ x ≤ 10 ^ 30 + 1 := fun x hx => by
    rw [← hlots] at hx
    have := hr 0; have := hr 1; have := hr 2
    have e : (30 : Nat) ≤ 10 ^ 30 + 1 := by decide
    have e2 : (10 : Nat) ^ 18 + 9 ≤ 10 ^ 30 + 1 := by decide
    simp at hx
    rcases hx with rfl | rfl | rfl | rfl | rfl <;> omega
  refine sd_then (sd_asg (ev_lstO ea_nil (by simp))) ?_
  refine sd_seq (M := fun e w => ∃ (rs : List (Nat × Nat)) (p' : Pen) (x3 x4 x5 x6 : En), e = [.ptr 0, .dat (.lst ((zI lots).map D.int)), .ptr 1, x3, x4, x5, x6] ∧ w = [p'.cn, .lst ((rs.map dqN).map .dat)] ∧ PenOk (n + 200) p' ∧ rs.length ≤ 6 ∧ ∀ r ∈ rs, Rat1 L r) ?_ ?_
  · have hd7 := draw_range q5 (m := 7) (by decide)
    have p6 := p5.draw (m := 7) (by decide)
    refine sd_for (ei_rng1 (W1 := [(draw q5 7).2.cn, .lst []]) (n := (draw q5 7).1) (ea_cons (ev_draw (R := [.lst []]) (m := 7) (ea_cons (ev_vp rfl) (ea_cons (ev_int 7) ea_nil)) p5 (by omega) (by decide) (by decide)) ea_nil) (by omega))
      (fun i e w => ∃ (rs : List (Nat × Nat)) (p' : Pen) (x3 x4 x5 x6 : En), e = [.ptr 0, .dat (.lst ((zI lots).map D.int)), .ptr 1, x3, x4, x5, x6] ∧ w = [p'.cn, .lst ((rs.map dqN).map .dat)] ∧ PenOk (n + 100 + 10 * i) p' ∧ rs.length = i ∧ ∀ r ∈ rs, Rat1 L r)
      ⟨[], (draw q5 7).2, .un, .un, .un, .un, rfl, rfl, p6.mono (by omega), rfl, fun r hr => absurd hr (by simp)⟩ (fun _ _ _ _ => trivial) ?_ ?_
    · rintro i x e w hx ⟨rs, p', x3, x4, x5, x6, rfl, rfl, hp', hrl, hrs⟩
      obtain ⟨hi, rfl⟩ := rngE_of hx
      have hi : i < 7 := by omega
      refine ⟨[3], _, eg_name, ?_⟩
      have hpw : ∀ j, PenOk (n + 100 + 10 * i + 2 * j) (powP p' j) := powP_ok hp'
      generalize hpws : (List.range 5).map (fun j => (powS (powP p' j)).1) = pws
      have hpl : pws.length = 5 := by rw [← hpws]; simp
      have hpb : ∀ n ∈ pws, n.natAbs ≤ 2 := fun n hn => by
        rw [← hpws] at hn
        obtain ⟨j, _, rfl⟩ := List.mem_map.mp hn
        exact (powS_ok (hpw j)).2
      have hei := ei_lst (K := K) (W := [p'.cn, .lst ((rs.map dqN).map .dat)]) (l := (zI lots).map D.int) (es := [.ptr 0, .dat (.lst ((zI lots).map D.int)), .ptr 1, .dat (.int (0 + (i : Int))), x4, x5, x6]) (tl := tVar 1) (ev_vd rfl)
      refine sd_then (W1 := [(powP p' 5).cn, .lst ((rs.map dqN).map .dat)]) (es1 := [.ptr 0, .dat (.lst ((zI lots).map D.int)), .ptr 1, .dat (.int (0 + (i : Int))), .dat (.lst (pws.map D.int)), x5, x6]) ?_ ?_
      · have e5 : (((zI lots).map D.int).map En.dat).length = 5 := by simp [zI, hl5]
        have z := sd_asg (i := 4) (ev_lc (tt := tYes) (te := tIf (tTest (tOp (rEqA K) (tCall (spDraw K) [] E0 (tCons (tVar 0) (tCons (tC (.int 2)) tNil))) (tC (.int 0)))) (tOp (rI0 fun i j => .int (i - j)) (tCall (spDraw K) [] E0 (tCons (tVar 0) (tCons (tC (.int 5)) tNil))) (tC (.int 2))) (tC (.int 0))) (g := gName 6) (vs := [6]) (js := [6]) hei (fun j => some (.int (powS (powP p' j)).1)) (fun j => [(powP p' j).cn, .lst ((rs.map dqN).map .dat)]) rfl (by rw [e5]; decide) (fun _ _ => trivial) (by simp) fun j x hx => ?_)
        · rw [e5] at z
          have e6 : (List.range 5).filterMap (fun j => some (D.int (powS (powP p' j)).1)) = pws.map D.int := by rw [← hpws]; rfl
          rw [e6] at z
          exact z
        · have hpj := hpw j
          obtain ⟨d, rfl⟩ : ∃ d, x = .dat d := by
            have := List.mem_of_getElem? hx
            obtain ⟨d, _, rfl⟩ := List.mem_map.mp this
            exact ⟨d, rfl⟩
          have hj5 : j < 5 := by
            have := (List.getElem?_eq_some_iff.mp hx).1
            omega
          refine ⟨_, eg_name, .inl ⟨_, _, rfl, et_yes, ?_⟩⟩
          by_cases h0 : (draw (powP p' j) 2).1 = 0
          · have e1 : powS (powP p' j) = ((draw (draw (powP p' j) 2).2 5).1 - 2, (draw (draw (powP p' j) 2).2 5).2) := if_pos h0
            show EV K _ _ _ (.dat (.int (powS (powP p' j)).1)) [(powS (powP p' j)).2.cn, _]
            rw [e1]
            exact ev_ifT (et_test (ev_is (ev_eqI (ev_draw (R := [.lst ((rs.map dqN).map .dat)]) (m := 2) (ea_cons (ev_vp rfl) (ea_cons (ev_int 2) ea_nil)) hpj (by omega) (by decide) (by decide)) (ev_int 0)) (by rw [decide_eq_true h0]))) (ev_sub (ev_draw (R := [.lst ((rs.map dqN).map .dat)]) (m := 5) (ea_cons (ev_vp rfl) (ea_cons (ev_int 5) ea_nil)) (hpj.draw (m := 2) (by decide)) (by omega) (by decide) (by decide)) (ev_int 2))
          · have e1 : powS (powP p' j) = (0, (draw (powP p' j) 2).2) := if_neg h0
            show EV K _ _ _ (.dat (.int (powS (powP p' j)).1)) [(powS (powP p' j)).2.cn, _]
            rw [e1]
            exact ev_ifF (et_test (ev_is (ev_eqI (ev_draw (R := [.lst ((rs.map dqN).map .dat)]) (m := 2) (ea_cons (ev_vp rfl) (ea_cons (ev_int 2) ea_nil)) hpj (by omega) (by decide) (by decide)) (ev_int 0)) (by rw [decide_eq_false h0]))) (ev_int 0)
      · obtain ⟨f1, r, f2, f3⟩ := rat_ok hl5 hpl hlr hpb hdv
        have hei2 := ei_lst (K := K) (W := [(powP p' 5).cn, .lst ((rs.map dqN).map .dat)]) (l := (zI lots).map D.int) (es := [.ptr 0, .dat (.lst ((zI lots).map D.int)), .ptr 1, .dat (.int (0 + (i : Int))), .dat (.lst (pws.map D.int)), x5, x6]) (tl := tVar 1) (ev_vd rfl)
        rw [← nE_eq] at hei2
        have ez1 : ((lots.zip pws).map fun p => ((((p.1 : Nat) : Int), (1 : Int)), p.2)).map (fun p => dq p.1) = lots.map fun o : Nat => D.tup [.int (o : Int), .int 1] := by
          rw [List.map_map]
          have : lots = (lots.zip pws).map (·.1) := by rw [List.map_fst_zip (by omega)]
          conv => rhs; rw [this]
          rw [List.map_map]
          rfl
        have ez2 : ((lots.zip pws).map fun p => ((((p.1 : Nat) : Int), (1 : Int)), p.2)).map (fun p => D.int p.2) = pws.map D.int := by
          rw [List.map_map]
          have : pws = (lots.zip pws).map (·.2) := by rw [List.map_snd_zip (by omega)]
          conv => rhs; rw [this]
          rw [List.map_map]
          rfl
        have hcall := ev_callD (K := K) (sp := spLPws K) (E := E0) (W := [(powP p' 5).cn, .lst ((rs.map dqN).map .dat)]) (W1 := [(powP p' 5).cn, .lst ((rs.map dqN).map .dat)]) (d := dqN r) (es := [.ptr 0, .dat (.lst ((zI lots).map D.int)), .ptr 1, .dat (.int (0 + (i : Int))), .dat (.lst (pws.map D.int)), x5, x6])
          (l := [.lst (lots.map fun o : Nat => D.tup [.int (o : Int), .int 1]), .lst (pws.map D.int)]) (ea_cons (ev_lcM (m := lots) (g0 := fun o : Nat => .dat (.int (o : Int))) (g := gName 6) (vs := [6]) (te := tTup (tCons (tVar 6) (tCons (tC (.int 1)) tNil))) (f := fun o : Nat => D.tup [.int (o : Int), .int 1]) (js := [6]) hei2 (by omega) trivial (by simp) fun o ho => ⟨_, eg_name, ev_tup (l := [.int (o : Int), .int 1]) (ea_cons (ev_vd rfl) (ea_cons (ev_int 1) ea_nil)) (by simp)⟩) (ea_cons (ev_vd (i := 4) rfl) ea_nil))
          (fun vs H Q h => ⟨_, 101, 2, f1, by decide, by simp [hl5, hpl], by rw [ez1, ez2, f2]; exact h⟩)
        refine sd_of (sd_drop (ev_append (i := 1) (l := (rs.map dqN).map .dat) (ev_vp rfl) hcall rfl ⟨_, rfl⟩ (by simp; omega))) ⟨rs ++ [r], powP p' 5, _, _, _, _, rfl, ?_, (hpw 5).mono (by omega), by simp [hrl], fun y hy => ?_⟩
        · rw [List.map_append, List.map_append]
          rfl
        · simp at hy
          rcases hy with hy | rfl
          · exact hrs y hy
          · exact f3
    · rintro e w ⟨rs, p', x3, x4, x5, x6, rfl, rfl, hp', hrl, hrs⟩
      rw [rngE_length] at hp' hrl
      exact ⟨rs, p', x3, x4, x5, x6, rfl, rfl, hp'.mono (by omega), by omega, hrs⟩
  · rintro e w ⟨rs, p', x3, x4, x5, x6, rfl, rfl, hp', hrl, hrs⟩
    exact sd_ret (ev_freeze (l := rs.map dqN) (ev_vp rfl) rfl) ⟨rs, L, p', rfl, rfl, hp', hL, hrl, hrs⟩
end
end K90
namespace K90
open PySem PySem.Spec PyProof.Rows L2 AS
local macro_rules | `(tactic| walk_at "ev") => `(tactic| first
  | exact ev_vd rfl
  | exact ev_vp rfl
  | exact ev_int _
  | exact ev_non
  | exact ev_bl _
  | exact ev_str _
  | assumption
  | (apply ev_addI <;> walk_at "ev")
  | (apply ev_sub <;> walk_at "ev")
  | (apply ev_neg; walk_at "ev")
  | (apply ev_abs; walk_at "ev")
  | (apply ev_intA; walk_at "ev")
  | (apply ev_lt <;> walk_at "ev")
  | (apply ev_le <;> walk_at "ev")
  | (apply ev_gt <;> walk_at "ev")
  | (apply ev_ge <;> walk_at "ev")
  | (apply ev_eqI <;> walk_at "ev")
  | (apply ev_neI <;> walk_at "ev")
  | (apply ev_isN; walk_at "ev")
  | (apply ev_notN; walk_at "ev")
  | (apply ev_isi (by walk_at "ev") rfl; rfl)
  | skip)
local macro_rules | `(tactic| walk_at "ea") => `(tactic| first
  | exact ea_nil
  | (apply ea_cons; walk_at "ev"; walk_at "ea"))
local macro_rules | `(tactic| walk_at "call") => `(tactic| (first
  | exact (fun vs H Q h => ⟨_, h⟩)
  | exact (fun vs H Q h => ⟨_, _, h⟩)
  | exact (fun vs H Q h => ⟨_, _, _, h⟩)))

section
variable {P : Program} {w : World} {K : PySem.W.Frag} {mg : Str → Option Value} {base : Heap}
/-- a ratio in any terms -/
def Good (d : D) : Prop := (∃ i : Int, d = .int i) ∨ ∃ a b : Int, d = .tup [.int a, .int b] ∧ 0 < b ∧ b.natAbs.log2 < 9000
theorem Good.vd {d : D} (h : Good d) : Vd d ∧ d.ratio = true := by
  rcases h with ⟨i, rfl⟩ | ⟨a, b, rfl, hb, _⟩
  · exact ⟨⟨rfl, fun l h => by cases h⟩, rfl⟩
  · refine ⟨⟨rfl, fun l h => ?_⟩, decide_eq_true hb⟩
    cases h
    intro x hx
    simp at hx
    rcases hx with rfl | rfl <;> rfl
def GoodV (d : D) : Prop := Good d ∧ 0 < (toldQ d).1
def BadV (d : D) : Prop := Vd d ∧ (d.ratio = false ∨ (Good d ∧ (toldQ d).1 ≤ 0))
def spTold (K : PySem.W.Frag) : Sp := fun vs H Q _ => ∃ d s : D, Good d ∧ spV K [.dat d, .dat s] [] (.dat (dq (toldQ d))) [] vs H Q
theorem sc_told : FnScope N_told P_told (defScope s_told) := ⟨rfl, rfl, rfl, by decide +kernel, rfl, by decide +kernel, by decide +kernel⟩
theorem ok_told (T : Tx K mg) : Cal P w K mg base CX0 4 "told" P_told (spTold K) := by
  refine T.f_told.cal sc_told (fun vs H Q E h => by obtain ⟨_, _, _, h⟩ := h; exact h.len) (fun _ _ _ _ _ _ us hl => match us, hl with | [_, _], _ => rfl) fun f cdv A outer s H vs Q E hr h => ?_
  obtain ⟨d, z, hd, h⟩ := h
  refine ⟨_, (pss_cons (ps_if (pt_not (pt_truth (pe_cal (ok_is_ratio T) (hr.mono (by decide)) rfl (pa_cons (pv 0) pa_nil)) (by intro _; rfl)))
 (pss_one ps_never)
 pss_nil)
 (pss_cons (ps_if (pt_truth (pe_callB call_isi (by rfl) T.b_isinstance (by decide +kernel) (pa_cons (pv 0) (pa_cons (pe_bltn (v := .ty "int") (u := .type "int") (by rfl) T.b_int (by decide +kernel) rfl) pa_nil))) (by intro _; rfl))
 (pss_one (ps_ret (pe_tup (pa_cons (pv 0) (pa_cons pe_int pa_nil)))))
 pss_nil)
 (pss_one (ps_ret (pe_cal (ok_lowest T) (hr.mono (by decide)) rfl (pa_cons (pe_ix ix_seq (pv 0) pe_int (fun _ _ => rfl)) (pa_cons (pe_ix ix_seq (pv 0) pe_int (fun _ _ => rfl)) pa_nil))))))), fn_goD (l := [d, z]) h ?_⟩
  show SD K _ [.dat d, .dat z] [] _
  have hv := hd.vd
  refine sd_seq (M := fun e w => e = [.dat d, .dat z] ∧ w = []) (sd_if (b := false) (et_is (et_not (et_truB (ev_callD (l := [d]) (ea_cons (ev_vd rfl) ea_nil) (fun vs H Q h => ⟨d, hv.1, h⟩)))) (by rw [hv.2]; rfl)) (fun hb => by cases hb) (fun _ => sd_next ⟨rfl, rfl⟩)) ?_
  rintro e w ⟨rfl, rfl⟩
  rcases hd with ⟨i, rfl⟩ | ⟨a, b, rfl, hb, hlb⟩
  · refine sd_seq (M := fun _ _ => False) (sd_if (b := true) (et_truB (ev_isi (ev_vd rfl) rfl (by rfl))) (fun _ => sd_ret (ev_tup (l := [.int i, .int 1]) (ea_cons (ev_vd rfl) (ea_cons (ev_int 1) ea_nil)) (by simp)) rfl) (fun hb => by cases hb)) (fun _ _ x => x.elim)
  · refine sd_seq (M := fun e w => e = [.dat (.tup [.int a, .int b]), .dat z] ∧ w = []) (sd_if (b := false) (et_truB (ev_isi (ev_vd rfl) rfl (by rfl))) (fun hb => by cases hb) (fun _ => sd_next ⟨rfl, rfl⟩)) ?_
    rintro e w ⟨rfl, rfl⟩
    exact sd_ret (ev_callD (l := [.int a, .int b]) (ea_cons (ev_ix (l := [.dat (.int a), .dat (.int b)]) (ev_vd rfl) (ev_int 0) rfl rfl) (ea_cons (ev_ix (l := [.dat (.int a), .dat (.int b)]) (ev_vd rfl) (ev_int 1) rfl rfl) ea_nil)) (fun vs H Q h => ⟨a, b, by omega, hlb, h⟩)) rfl
theorem sc_BadNumber___init__ : FnScope N_BadNumber___init__ P_BadNumber___init__ (defScope s_BadNumber___init__) := ⟨rfl, rfl, rfl, by decide +kernel, rfl, by decide +kernel, by decide +kernel⟩
theorem ok_init (B : Bad K mg s_BadNumber___init__) {f : Addr} {fd : FuncData} (F : Fun K "__init__" "BadNumber.__init__" s_BadNumber___init__ f fd) : FnOk P w K mg base CX0 1 f fd P_BadNumber___init__ (spInit (CB mg)) ∧ Binds K fd P_BadNumber___init__ [] := by
  refine ⟨F.ok sc_BadNumber___init__ (fun vs H Q E h => by obtain ⟨_, _, _, rfl, _⟩ := h; rfl) fun cdv A outer s H vs Q E hr h => ?_, F.binds (fun _ _ _ _ _ _ us hl => match us, hl with | [_, _, _], _ => rfl)⟩
  exact ⟨_, pss_cons (ps_ost (pv 0) (pv 1)) (pss_one (ps_ost (pv 0) (pv 2))), init_reads B rfl h⟩
abbrev errL (d : D) : List (Str × D) := [("number", d), ("what", .str "ratio")]
def spTA (K : PySem.W.Frag) (mg : Str → Option Value) : Sp := fun vs H Q E => ∃ d : D, (GoodV d ∧ spV K [.dat d, .dat (.str "ratio")] [] (.dat (dq (toldQ d))) [] vs H Q) ∨ (BadV d ∧ spX K (CB mg) (errL d) ([d, .str "ratio"].map .dat) vs H E)
theorem sc_told_above : FnScope N_told_above P_told_above (defScope s_told_above) := ⟨rfl, rfl, rfl, by decide +kernel, rfl, by decide +kernel, by decide +kernel⟩
theorem ok_told_above (T : TxE K mg) : Cal P w K mg base (L2.CX P w) 5 "told_above" P_told_above (spTA K mg) := by
  refine T.f_told_above.calX sc_told_above (fun vs H Q E h => by rcases h with ⟨_, ⟨_, h⟩ | ⟨_, h⟩⟩ <;> exact h.len) (fun _ _ _ _ _ _ us hl => match us, hl with | [_, _], _ => rfl) fun f cdv A outer s H vs Q E hr h => ?_
  refine ⟨_, (pss_cons (ps_if (PW.pt (pw_or (pt_not (pt_truth (pe_cal (ok_is_ratio T.toTx) (hr.mono (by decide)) rfl (pa_cons (pv 0) pa_nil)) (by intro _; rfl))) (pw_or1 (pt_cmpR op_le (pe_ix ix_seq (pe_cal (ok_told T.toTx) (hr.mono (by decide)) rfl (pa_cons (pv 0) (pa_cons (pv 1) pa_nil))) pe_int (fun _ _ => rfl)) pe_int (nomark _)))))
 (pss_one (ps_bad T.bad (fun f fd F => ok_init T.bad F) (hr.mono (by decide)) rfl (takes_of rfl rfl rfl rfl) rfl (pa_cons (pv 1) (pa_cons (pv 0) pa_nil))))
 pss_nil)
 (pss_one (ps_ret (pe_cal (ok_told T.toTx) (hr.mono (by decide)) rfl (pa_cons (pv 0) (pa_cons (pv 1) pa_nil)))))), ?_⟩
  obtain ⟨d, ⟨⟨hd, hp⟩, h⟩ | ⟨⟨hv, hb⟩, h⟩⟩ := h
  · refine fn_goD (l := [d, .str "ratio"]) h ?_
    show SD K _ [.dat d, .dat (.str "ratio")] [] _
    refine sd_seq (M := fun e w => e = [.dat d, .dat (.str "ratio")] ∧ w = []) (sd_if (b := false) (et_is (et_or (a := false) (b := false) (et_is (et_not (et_truB (ev_callD (l := [d]) (ea_cons (ev_vd rfl) ea_nil) (fun vs H Q h => ⟨d, hd.vd.1, h⟩)))) (by rw [hd.vd.2]; rfl))
      fun _ => et_test (ev_is (ev_le (ev_ix (l := [.dat (.int (toldQ d).1), .dat (.int (toldQ d).2)]) (ev_callD (l := [d, .str "ratio"]) (ea_cons (ev_vd rfl) (ea_cons (ev_vd rfl) ea_nil)) (fun vs H Q h => ⟨d, _, hd, h⟩)) (ev_int 0) rfl rfl) (ev_int 0)) (by rw [decide_eq_false (by omega)]))) rfl) (fun hb => by cases hb) (fun _ => sd_next ⟨rfl, rfl⟩)) ?_
    rintro e w ⟨rfl, rfl⟩
    exact sd_ret (ev_callD (l := [d, .str "ratio"]) (ea_cons (ev_vd rfl) (ea_cons (ev_vd rfl) ea_nil)) (fun vs H Q h => ⟨d, _, hd, h⟩)) rfl
  · refine fn_goX h fun F Hb A => ?_
    show XS K F Hb _ [.dat d, .dat (.str "ratio")] []
    refine xs_first (xs_if (W1 := []) (b := true) ?_ (fun _ => xs_raise (d1 := .str "ratio") (d2 := d) A (ea_cons (ev_vd rfl) (ea_cons (ev_vd rfl) ea_nil))) fun hb => by cases hb)
    cases hr : d.ratio with
    | false => exact et_orT (et_is (et_not (et_truB (ev_callD (l := [d]) (ea_cons (ev_vd rfl) ea_nil) (fun vs H Q h => ⟨d, hv, h⟩)))) (by rw [hr]; rfl))
    | true =>
      rcases hb with hb | ⟨hg, hb⟩
      · rw [hr] at hb; cases hb
      · exact et_orF (et_is (et_not (et_truB (ev_callD (l := [d]) (ea_cons (ev_vd rfl) ea_nil) (fun vs H Q h => ⟨d, hv, h⟩)))) (by rw [hr]; rfl)) (et_test (ev_is (ev_le (ev_ix (l := [.dat (.int (toldQ d).1), .dat (.int (toldQ d).2)]) (ev_callD (l := [d, .str "ratio"]) (ea_cons (ev_vd rfl) (ea_cons (ev_vd rfl) ea_nil)) (fun vs H Q h => ⟨d, _, hg, h⟩)) (ev_int 0) rfl rfl) (ev_int 0)) (by rw [decide_eq_true (by omega)])))
/-- the first value that is no ratio above 0 -/
def BadAt (ds : List D) (k : Nat) (d : D) : Prop := (∀ i x, i < k → ds[i]? = some x → GoodV x) ∧ ds[k]? = some d ∧ BadV d ∧ k ≤ 1000
def spCB (K : PySem.W.Frag) (mg : Str → Option Value) : Sp := fun vs H Q E =>
  (∃ (ds : List D) (rs : List (Nat × Nat)) (c : D), (c = .lst ds ∨ c = .tup ds) ∧ (∀ d ∈ ds, GoodV d) ∧ ds.map (fun d => dq (toldQ d)) = rs.map dqN ∧ RefIn (numsOf rs) ∧
    spP K ([c].map .dat) [] (fun e w => w = [] ∧ ∃ d, e = .dat d ∧ ∃ ms, d = .tup ((zI ms).map D.int) ∧ Bs (numsOf rs) ms) vs H Q) ∨
  ∃ (ds : List D) (k : Nat) (d : D), BadAt ds k d ∧ spX K (CB mg) (errL d) ([.lst ds].map .dat) vs H E
/-- the walk over the values up to the one that is none -/
theorem xv_told {mg : Str → Option Value} {K : PySem.W.Frag} {F Hb : Hp} {E : XK} {es : List En} {ds : List D} {k i : Nat} {d : D} {tl : TE} {wi : TI} (A : AccE K (CB mg) (errL d) E F Hb) (hb : BadAt ds k d) (hi : EI K wi es [] (ds.map .dat) (fun _ => True) [])
    (hs : (wipeE es [i]).length = es.length) (hlt : i < es.length) : XV K F Hb (tLc wi (gName i) tYes (tCall (spTA K mg) [] E (tCons (tVar i) (tCons (tC (.str "ratio")) tNil))) [i]) es [] := by
  obtain ⟨h1, h2, h3, h4⟩ := hb
  have hset : ∀ x : En, ((wipeE es [i]).set i x)[i]? = some x := fun x => List.getElem?_set_self (by rw [hs]; exact hlt)
  refine xv_lc (js := [i]) hi k (fun j => match ds[j]? with | some x => dq (toldQ x) | none => .non) (by omega) trivial (by simp) (fun j x hj hx => ?_) ⟨.dat d, _, by rw [List.getElem?_map, h2]; rfl, eg_name, et_yes, ?_⟩
  · rw [List.getElem?_map] at hx
    cases q : ds[j]? with
    | none => rw [q] at hx; cases hx
    | some y =>
      rw [q] at hx; cases hx
      refine ⟨_, eg_name, et_yes, ?_⟩
      simp only [q]
      exact ev_callD (l := [y, .str "ratio"]) (ea_cons (ev_vd (hset _)) (ea_cons (ev_str _) ea_nil)) (fun vs H Q h => ⟨y, .inl ⟨h1 j y hj q, h⟩⟩)
  · exact xv_call (args := [d, .str "ratio"]) A (ea_cons (ev_vd (hset _)) (ea_cons (ev_str _) ea_nil)) (fun vs H Q h => ⟨d, .inr ⟨h3, h⟩⟩)
theorem sc_coprime_base : FnScope N_coprime_base P_coprime_base (defScope s_coprime_base) := ⟨rfl, rfl, rfl, by decide +kernel, rfl, by decide +kernel, by decide +kernel⟩
theorem ok_coprime_base (T : TxE K mg) : Cal P w K mg base (L2.CX P w) 6 "coprime_base" P_coprime_base (spCB K mg) := by
  refine T.f_coprime_base.calX sc_coprime_base (fun vs H Q E h => by rcases h with ⟨_, _, _, _, _, _, _, h⟩ | ⟨_, _, _, _, h⟩ <;> exact h.len) (fun _ _ _ _ _ _ us hl => match us, hl with | [_], _ => rfl) fun f cdv A outer s H vs Q E hr h => ?_
  refine ⟨_, (pss_one (ps_ret (pe_cal (ok_base_of T.toTx) (hr.mono (by decide)) rfl (pa_cons (XC.pe_lcX (own := [("ratio", 1)]) (EB := E) rfl rfl (takes_of rfl rfl rfl rfl) (fun _ _ _ _ h => h) rfl sc_coprime_base.nd (pi_seq (pi_list (pv 0)) (pi_tup (pv 0))) (blkOk_by (own := [("ratio", 1)]) (N := N_coprime_base) (sc := defScope s_coprime_base) (by decide +kernel))
 (fun _ _ _ _ _ => (pg_name (i := 1) sc_coprime_base.nd rfl (Or.inl rfl))) (fun _ _ _ _ _ => pts_nil) (fun _ _ _ _ _ => (pe_calX (ok_told_above T) XC.Let.passes (hr.mono (by decide)) rfl (pa_cons (pv 1) (pa_cons pe_str pa_nil))))) pa_nil)))), ?_⟩
  rcases h with ⟨ds, rs, c, hc, hg, htold, hI, h⟩ | ⟨ds, k, d, hb, h⟩
  · refine fn_goPD (l := [c]) h ?_
    show SD K _ [.dat c, .un] [] _
    have hlen : rs.length ≤ 40 := by
      obtain ⟨s, L, _, _, _, _, _, h⟩ := hI
      unfold numsOf at h
      rw [List.length_append, List.length_map] at h
      omega
    have hl2 : ds.length = rs.length := by
      have := congrArg List.length htold
      simpa using this
    have hei : EI K (iSeq K (tVar 0)) [.dat c, .un] [] (ds.map .dat) (fun _ => True) [] := by
      rcases hc with rfl | rfl
      · exact ei_lst (ev_vd rfl)
      · exact ei_tup (ev_vd rfl)
    refine sd_retP (evp_callD (W1 := []) (l := [.lst (rs.map dqN)]) (ea_cons (ev_is (ev_lcM (m := ds) (g0 := En.dat) (f := fun d => dq (toldQ d)) (js := [1]) hei (by omega) trivial (by simp) fun d hd => ⟨_, eg_name, ev_callD (l := [d, .str "ratio"]) (ea_cons (ev_vd rfl) (ea_cons (ev_str _) ea_nil)) (fun vs H Q h => ⟨d, .inl ⟨hg d hd, h⟩⟩)⟩) (by rw [htold])) ea_nil) (fun vs H Q h => ⟨rs, hI, h⟩)) (fun e w ⟨_, d, he, ms, hd, hb⟩ => ⟨d, he, ms, hd, hb⟩)
  · refine fn_goX h fun F Hb A => ?_
    show XS K F Hb _ [.dat (.lst ds), .un] []
    exact xs_ret (xv_callA (xa_first (xv_told A hb (tl := tVar 0) (ei_lst (ev_vd rfl)) rfl (by simp))))
def spRel (K : PySem.W.Frag) (mg : Str → Option Value) : Sp := fun vs H Q E => ∃ (ds : List D) (k : Nat) (d : D), BadAt ds k d ∧ spX K (CB mg) (errL d) ([.lst ds].map .dat) vs H E
theorem sc_relations : FnScope N_relations P_relations (defScope s_relations) := ⟨rfl, rfl, rfl, by decide +kernel, rfl, by decide +kernel, by decide +kernel⟩
theorem ok_relations (T : TxE K mg) : Cal P w K mg base (L2.CX P w) 7 "relations" P_relations (spRel K mg) := by
  refine T.f_relations.calX sc_relations (fun vs H Q E h => by obtain ⟨_, _, _, _, h⟩ := h; exact h.len) (fun _ _ _ _ _ _ us hl => match us, hl with | [_], _ => rfl) fun f cdv A outer s H vs Q E hr h => ?_
  refine ⟨_, (pss_cons (XC.ps_setLcX (i := 1) (own := [("ratio", 3)]) (EB := E) rfl rfl (takes_of rfl rfl rfl rfl) (fun _ _ _ _ h => h) rfl sc_relations.nd rfl rfl (sw_true rfl rfl rfl (by decide +kernel)) (pi_seq (pi_list (pv 0)) (pi_tup (pv 0))) (blkOk_by (own := [("ratio", 3)]) (N := N_relations) (sc := defScope s_relations) (by decide +kernel))
 (fun _ _ _ _ _ => (pg_name (i := 3) sc_relations.nd rfl (Or.inl rfl))) (fun _ _ _ _ _ => pts_nil) (fun _ _ _ _ _ => (pe_calX (ok_told_above T) XC.Let.passes (hr.mono (by decide)) rfl (pa_cons (pv 3) (pa_cons pe_str pa_nil)))))
 pss_dead), ?_⟩
  obtain ⟨ds, k, d, hb, h⟩ := h
  refine fn_goX h fun F Hb A => ?_
  show XS K F Hb _ [.dat (.lst ds), .un, .un, .un] []
  exact xs_first (xs_asg (xv_told A hb (tl := tVar 0) (ei_lst (ev_vd rfl)) rfl (by simp)))
def spAP (K : PySem.W.Frag) (mg : Str → Option Value) : Sp := fun vs H Q E => ∃ (r : D) (ds : List D) (d : D), ((BadV r ∧ d = r) ∨ (GoodV r ∧ ∃ k, BadAt ds k d)) ∧ spX K (CB mg) (errL d) ([r, .lst ds, .bl false].map .dat) vs H E
theorem sc_as_powers : FnScope N_as_powers P_as_powers (defScope s_as_powers) := ⟨rfl, rfl, rfl, by decide +kernel, rfl, by decide +kernel, by decide +kernel⟩
theorem ok_as_powers (T : TxE K mg) : CalD P w K mg base (L2.CX P w) 10 "as_powers" P_as_powers (spAP K mg) [.bl false] := by
  obtain ⟨f, fd, F, hm⟩ := T.p_as_powers
  obtain ⟨ds, hv, hb⟩ := F.binds1 (ps := P_as_powers) 2 0 (by simp) rfl fun T kV doc pm an cdv ct us its hu hi => by
    match us, its, hu, hi with
    | [_, _], [_], _, _ => exact ⟨_, rfl, rfl⟩
  refine ⟨f, fd, ds, F.ok sc_as_powers (fun vs H Q E h => by obtain ⟨_, _, _, _, h⟩ := h; exact h.len) (fun cdv A outer s H vs Q E hr h => ?_), hm, F.kp, hb, hv⟩
  refine ⟨_, (pss_cons (ps_set (i := 3) sc_as_powers.nd rfl (Or.inl rfl) (pe_calX (ok_told_above T) passes_def (hr.mono (by decide)) rfl (pa_cons (pv 0) (pa_cons pe_str pa_nil))))
 (pss_cons (XC.ps_setLcX (i := 4) (own := [("item", 9)]) (EB := E) rfl rfl (takes_of rfl rfl rfl rfl) (fun _ _ _ _ h => h) rfl sc_as_powers.nd rfl rfl (sw_true rfl rfl rfl (by decide +kernel)) (pi_seq (pi_list (pv 1)) (pi_tup (pv 1))) (blkOk_by (own := [("item", 9)]) (N := N_as_powers) (sc := defScope s_as_powers) (by decide +kernel))
 (fun _ _ _ _ _ => (pg_name (i := 9) sc_as_powers.nd rfl (Or.inl rfl))) (fun _ _ _ _ _ => pts_nil) (fun _ _ _ _ _ => (pe_calX (ok_told_above T) XC.Let.passes (hr.mono (by decide)) rfl (pa_cons (pv 9) (pa_cons pe_str pa_nil)))))
 pss_dead)), ?_⟩
  obtain ⟨r, ds, d, hb, h⟩ := h
  refine fn_goX h fun F Hb A => ?_
  show XS K F Hb _ [.dat r, .dat (.lst ds), .dat (.bl false), .un, .un, .un, .un, .un, .un, .un, .un, .un] []
  rcases hb with ⟨hb, rfl⟩ | ⟨hg, k, hb⟩
  · exact xs_first (xs_asg (xv_call (args := [d, .str "ratio"]) A (ea_cons (ev_vd rfl) (ea_cons (ev_str _) ea_nil)) (fun vs H Q h => ⟨d, .inr ⟨hb, h⟩⟩)))
  · refine xs_then (sd_asg (ev_callD (l := [r, .str "ratio"]) (ea_cons (ev_vd rfl) (ea_cons (ev_str _) ea_nil)) (fun vs H Q h => ⟨r, .inl ⟨hg, h⟩⟩))) ?_
    exact xs_first (xs_asg (xv_told A hb (tl := tVar 1) (ei_lst (ev_vd rfl)) rfl (by simp)))
end
end K90
/-! AS15: try .. except BadNumber as e: return (e.what, repr(e.number)). -/
namespace AS
open PySem PySem.Spec PyProof.Rows L2
section
variable {K : PySem.W.Frag} {mg : Str → Option Value} {C : Addr} {l : List (Str × D)} {F Hb H : Hp} {σ : L2.St} {es : List En} {as : List Addr} {ta : TA} {P : Po} {D0 : Ends}
/-- a state without owned objects over a heap that has grown -/
theorem ST.grown {Hb' H' : Hp} (S : ST K F Hb H σ es [] as) (s1 : Same Hb Hb') (s2 : Same Hb' H') (f : Same F H') (ds : ∀ a o, F a = some o → Hb' a = none) : ST K F Hb' H' σ es [] as :=
  ⟨s2, f, ds, S.len, fun i a c q1 q2 q3 => by simp at q2, fun i j a c d q1 q2 q3 q4 q5 q6 => by simp at q3, S.sl, fun i e h => RS.mono (Gr.refl _) s1 (S.slot i e h)⟩
/-- a call whose exception is wished for at the caller's slots -/
theorem call_bad {sp : Sp} {dvs : List V} {ES : L2.St → XK} {args : List D} (S : ST K F Hb H σ es [] as) (A : AccE K C l (ES σ) F Hb) (ha : EA K ta es [] (args.map .dat) [])
    (h : ∀ vs H Q, spX K C l (args.map .dat) vs H (ES σ) → sp (vs ++ dvs) H Q (ES σ)) (Q : VK) : tCallSD sp dvs ES ta σ H Q :=
  ha F Hb H σ as S _ fun vs Hb1 H1 as1 g1 s1 S1 r1 => by
    obtain ⟨F2, as0, g0, h0, Sc, Fn, Rn, back⟩ := call_in (cW := []) (R := []) S1 r1 (fun e he => by obtain ⟨d, _, rfl⟩ := List.mem_map.mp he; trivial) (fun c hc => absurd hc (by simp))
    have f2 : Same F F2 := fun a o q => by
      have q1 := S1.frm a o q
      cases q2 : F2 a with
      | none => rw [Fn a q2] at q; cases q
      | some o2 => rw [Sc.frm a o2 q2] at q1; exact q1
    exact h vs H1 Q ⟨F2, Hb1, as0, Sc, A.mono f2 s1⟩
/-- one value more -/
theorem spX.more {args : List D} {vs : List V} {E : XK} {b : Bool} (h : spX K C l (args.map .dat) vs H E) : spX K C l ((args ++ [D.bl b]).map .dat) (vs ++ [V.bl b]) H E := by
  obtain ⟨F, Hb, as, S, A⟩ := h
  have hl : vs.length = args.length := by have := S.sl; simpa using this
  refine ⟨F, Hb, as, S.slots (by simp [hl]) fun i e he => ?_, A⟩
  rw [List.map_append] at he
  by_cases hi : i < args.length
  · rw [List.getElem?_append_left (by simpa using hi)] at he
    rw [List.map_append, List.getElem?_append_left (by simpa [hl] using hi)]
    exact S.slot i e he
  · rw [List.getElem?_append_right (by simpa using hi)] at he
    rw [List.map_append, List.getElem?_append_right (by simpa [hl] using hi)]
    have hi2 : i - (args.map En.dat).length = 0 := by
      have := (List.getElem?_eq_some_iff.mp he).1
      simp at this ⊢
      omega
    have hi3 : i - (vs.map some).length = 0 := by simpa [hl] using hi2
    rw [hi2] at he
    rw [hi3]
    cases he
    exact RS.of (e := .dat (.bl b)) (.bl b)
abbrev tSuite (K : PySem.W.Frag) (C : Addr) (i : Nat) (a : Addr) (cls : Value) (d : Option Addr) : TS :=
  tRet (tTup (tCons (tXf a cls d C "what" (tVar i)) (tCons (tCB (XC.rRepr K) (tCons (tXf a cls d C "number" (tVar i)) tNil)) tNil)))
/-- the except clause takes it and returns -/
theorem acc_as {i : Nat} {Wout : WX} {d : D} {p : PyData} {x : Str} (own : PySem.W.exmOne K (.ref C) (.ref C) = some true) (S : ST K F Hb H σ es [] as) (k : Rt K F Hb as P.rt D0.rt) (hi : i < es.length) (hp : d.py = some p) (h1 : p.showable = true) (h2 : p.hasDict = false) (h3 : p.depth ≤ 9) (h4 : p.shown.length ≤ sizeLine)
    (hq : P.rt (.dat (.tup [.str x, .str p.shown])) []) : AccE K C [("number", d), ("what", .str x)] (WE (wAs K (.ref C) i (tSuite K C i) Wout D0) σ) F Hb := fun Hb' H' dx fs s1 s2 f1 ds hx pf => by
  refine ⟨true, own, fun _ a ha => ?_, fun q => nomatch q⟩
  have S1 := S.grown s1 s2 f1 ds
  have S2 := S1.set (i := i) (v := .ref a) (e := .dat (.rf a)) (.rf a)
  have hs : (σ.set i (some (V.ref a)))[i]? = some (some (.ref a)) := List.getElem?_set_self (by rw [S.sl]; exact hi)
  cases pf with
  | @cons n _ _ _ pn pr => cases pr with
    | @cons m _ _ _ pm pr2 =>
      cases pr2
      obtain ⟨nk, nv⟩ := n
      obtain ⟨mk, mv⟩ := m
      obtain ⟨rfl, dn⟩ := pn
      obtain ⟨rfl, dm⟩ := pm
      cases dm
      have hH := s2 dx _ hx
      refine ⟨.ref a, hs, rfl, rfl, dx, _, .str x, rfl, hH, by rw [L2.lookup_put, if_neg (show ¬ ("what" : Str) = "number" by decide), L2.lookup_put, if_pos rfl], ?_⟩
      refine ⟨.ref a, hs, rfl, rfl, dx, _, nv, rfl, hH, by rw [L2.lookup_put, if_pos rfl], ?_⟩
      refine ⟨nv, p, rfl, Dt.py _ _ _ (Dt.mono s2 _ _ dn) hp, h1, h2, h3, h4, ?_⟩
      refine ⟨by show 2 ≤ sizeLine; decide, fun q hqn => ?_⟩
      obtain ⟨S3, s3⟩ := S2.new (o := .tup [.str x, .str p.shown]) hqn
      exact k _ _ _ _ as _ [] _ hq (Gr.refl _) (s1.trans s3) S3 (.tup (.inl (.inl upd_same)) (.cons (.str _) (.cons (.str _) .nil)))
end
/-- the law's own def -/
theorem fn_ofGn {P : Program} {w : World} {K : PySem.W.Frag} {mg : Str → Option Value} {base : Heap} {x : Str} {st : Stmt} {N ps : List Str} {k : Nat} {sp : Sp} {f : Addr} {fd : FuncData} (F : Fun K x x st f fd) (S : FnScope N ps (defScope st)) (len : ∀ vs H Q E, sp vs H Q E → vs.length = ps.length)
    (hbody : ∀ (cdv : Value) (A : Around) (outer : List Env) (s : Shared) (H : Hp) (vs : List V) (Q : VK) (E : XK), A.guards = some [] → Room k (A.deeper (envOfC x (defScope st) s.heap.objs.size f cdv)) → sp vs H Q E →
      ∃ t, PSs (cxOf CX0 P w K mg base N x (defScope st) f cdv A outer s H E).nox (defBody st) t ∧ t { nx := fun _ H' => Q .non H', rt := Q } (L2.start N vs) H) : XC.FnG P w K mg base CX0 (k + 1) f fd ps sp :=
  XC.fn_ofG F S len fun cdv A outer s H vs Q E hg hr h => by
    obtain ⟨t, h1, h2⟩ := hbody cdv A outer s H vs Q E hg hr h
    exact ⟨t, h1.nox, h2⟩
end AS
namespace K90
open PySem PySem.Spec PyProof.Rows L2 AS
local macro_rules | `(tactic| walk_at "ev") => `(tactic| first
  | exact ev_vd rfl
  | exact ev_vp rfl
  | exact ev_int _
  | exact ev_non
  | exact ev_bl _
  | exact ev_str _
  | assumption
  | (apply ev_addI <;> walk_at "ev")
  | (apply ev_sub <;> walk_at "ev")
  | (apply ev_neg; walk_at "ev")
  | (apply ev_abs; walk_at "ev")
  | (apply ev_intA; walk_at "ev")
  | (apply ev_lt <;> walk_at "ev")
  | (apply ev_le <;> walk_at "ev")
  | (apply ev_gt <;> walk_at "ev")
  | (apply ev_ge <;> walk_at "ev")
  | (apply ev_eqI <;> walk_at "ev")
  | (apply ev_neI <;> walk_at "ev")
  | (apply ev_isN; walk_at "ev")
  | (apply ev_notN; walk_at "ev")
  | (apply ev_isi (by walk_at "ev") rfl; rfl)
  | skip)
local macro_rules | `(tactic| walk_at "ea") => `(tactic| first
  | exact ea_nil
  | (apply ea_cons; walk_at "ev"; walk_at "ea"))
local macro_rules | `(tactic| walk_at "call") => `(tactic| (first
  | exact (fun vs H Q h => ⟨_, h⟩)
  | exact (fun vs H Q h => ⟨_, _, h⟩)
  | exact (fun vs H Q h => ⟨_, _, _, h⟩)))

section
variable {P : Program} {w : World} {K : PySem.W.Frag} {mg : Str → Option Value} {base : Heap}
/-- what repr tells -/
def Shown (d : D) (t : Str) : Prop := ∃ p : PyData, d.py = some p ∧ p.showable = true ∧ p.hasDict = false ∧ p.depth ≤ 9 ∧ p.shown.length ≤ sizeLine ∧ t = p.shown
def spRefd (K : PySem.W.Frag) : Sp := fun vs H Q _ => ∃ (kind : Int) (vals : List D) (k : Nat) (d : D) (t : Str), BadAt vals k d ∧ Shown d t ∧ spV K ([.int kind, .lst vals].map .dat) [] (.dat (.tup [.str "ratio", .str t])) [] vs H Q
theorem cut_from {α : Type} (l : List α) (k : Nat) : cutG l (some (k : Int)) none = l.drop k := by
  unfold cutG
  rw [HT.sIx_none, HT.sIx_nat]
  by_cases h : k ≤ l.length
  · rw [Nat.min_eq_left h, ← List.length_drop, List.take_length]
  · rw [Nat.min_eq_right (by omega), List.drop_length, List.drop_eq_nil_of_le (by omega)]
    simp
theorem sc__law_refused : FnScope N__law_refused P__law_refused (defScope s__law_refused) := ⟨rfl, rfl, rfl, by decide +kernel, rfl, by decide +kernel, by decide +kernel⟩
theorem ok__law_refused (T : TxE K mg) : CalG P w K mg base CX0 11 "_law_refused" P__law_refused (spRefd K) := by
  refine T.f__law_refused.calG sc__law_refused (fun vs H Q E h => by obtain ⟨_, _, _, _, _, _, _, h⟩ := h; exact h.len) (fun _ _ _ _ _ _ us hl => match us, hl with | [_, _], _ => rfl) fun f cdv A outer s H vs Q E hgd hr h => ?_
  obtain ⟨kind, vals, k, d, t, hb, ⟨p, hp, p1, p2, p3, p4, rfl⟩, h⟩ := h
  refine ⟨_, pss_cons (ps_try_as (i := 2) rfl rfl sc__law_refused.nd rfl rfl ⟨rfl, by decide, .inl T.bad.gC⟩ takes0
      (fun W pn xe tk _ => pss_one (ps_if (pt_cmpR (show OpR _ (compareOp .Eq) (rEqA K) from op_eqA hr.units) (pv 0) pe_int (nomark _))
        (pss_one (ps_expr (pe_calS (ok_coprime_base T) (fun σ => passAt tk σ) (hr.mono (by decide)) rfl (pa_cons (pv 1) pa_nil))))
        (pss_one (ps_if (pt_cmpR (show OpR _ (compareOp .Eq) (rEqA K) from op_eqA hr.units) (pv 0) pe_int (nomark _))
          (pss_one (ps_expr (pe_calS (ok_relations T) (fun σ => passAt tk σ) (hr.mono (by decide)) rfl (pa_cons (pv 1) pa_nil))))
          (pss_one (ps_expr (pe_calDS (ok_as_powers T) (fun σ => passAt tk σ) (hr.mono (by decide)) rfl (pa_cons (pe_ix (show IxR _ (rIx K) from ix_seq) (pv 1) pe_int (fun _ _ => rfl)) (pa_cons (pe_slice (show SlR _ (rSlAny K) from sl_any) (pv 1) (po_some pe_int) po_none) pa_nil)))))))))
      (fun a oe cls dd pn hz hf => pss_one (ps_ret (pe_tup (pa_cons (pe_xf T.bad.xfc T.bad.noW hz hf (pv 2)) (pa_cons (pe_callB (id := "repr") (show CallR _ (.builtin "repr") (XC.rRepr K) from XC.call_repr hgd hr.units) (by rfl) T.b_repr (by decide +kernel) (pa_cons (pe_xf T.bad.xfc T.bad.noN hz hf (pv 2)) pa_nil)) pa_nil))))))
    (pss_one (ps_ret pe_non)), fn_goD h ?_⟩
  refine sd_seq (M := fun _ _ => False) ?_ (fun _ _ x => x.elim)
  intro F Hb H σ as D0 S kk
  have S : ST K F Hb H σ [.dat (.int kind), .dat (.lst vals), .un] [] as := S
  obtain ⟨b1, b2, b3, b4⟩ := hb
  have acc : ∀ Hb1 H1 as1, Gr as as1 → Same Hb Hb1 → ST K F Hb1 H1 σ [.dat (.int kind), .dat (.lst vals), .un] [] as1 → AccE K (CB mg) (errL d) (WE (wAs K (.ref (CB mg)) 2 (tSuite K (CB mg) 2) (fun _ _ _ _ => False) D0) σ) F Hb1 := fun Hb1 H1 as1 g1 s1 S1 =>
    acc_as (P := ⟨fun _ _ => False, fun e w => e = .dat (.tup [.str "ratio", .str p.shown]), fun _ _ => False, fun _ _ => False⟩) T.bad.own S1 (kk.rt.on g1 s1) (by simp) hp p1 p2 p3 p4 rfl
  refine et_test (ev_eqI (ev_vd rfl) (ev_int 0)) F Hb H σ as S _ fun Hb1 H1 as1 g1 s1 S1 => ?_
  by_cases h0 : kind = 0
  · rw [decide_eq_true h0]
    exact call_bad S1 (acc _ _ _ g1 s1 S1) (ES := WE (wAs K (.ref (CB mg)) 2 (tSuite K (CB mg) 2) (fun _ _ _ _ => False) D0)) (args := [.lst vals]) (ea_cons (ev_vd rfl) ea_nil) (fun vs H Q h => by rw [List.append_nil]; exact .inr ⟨vals, k, d, ⟨b1, b2, b3, b4⟩, h⟩) _
  · rw [decide_eq_false h0]
    refine et_test (ev_eqI (ev_vd rfl) (ev_int 1)) F Hb1 H1 σ as1 S1 _ fun Hb2 H2 as2 g2 s2 S2 => ?_
    have acc2 := acc _ _ _ (g1.trans g2) (s1.trans s2) S2
    by_cases h1 : kind = 1
    · rw [decide_eq_true h1]
      exact call_bad S2 acc2 (ES := WE (wAs K (.ref (CB mg)) 2 (tSuite K (CB mg) 2) (fun _ _ _ _ => False) D0)) (args := [.lst vals]) (ea_cons (ev_vd rfl) ea_nil) (fun vs H Q h => by rw [List.append_nil]; exact ⟨vals, k, d, ⟨b1, b2, b3, b4⟩, h⟩) _
    · rw [decide_eq_false h1]
      cases vals with
      | nil => simp at b2
      | cons r rest =>
        have hsl := ev_slL (K := K) (W := []) (W1 := []) (W2 := []) (W3 := []) (l := r :: rest) (es := [.dat (.int kind), .dat (.lst (r :: rest)), .un]) (te := tVar 1) (ev_vd rfl) (eo_some (ev_int 1)) eo_none rfl
        rw [show (1 : Int) = ((1 : Nat) : Int) from rfl, cut_from] at hsl
        refine call_bad S2 acc2 (ES := WE (wAs K (.ref (CB mg)) 2 (tSuite K (CB mg) 2) (fun _ _ _ _ => False) D0)) (args := [r, .lst rest]) (ea_cons (ev_ix (l := (r :: rest).map .dat) (ev_vd rfl) (ev_int 0) rfl (by simp [atI, ixN])) (ea_cons hsl ea_nil)) (fun vs H Q h => ⟨r, rest, d, ?_, h.more⟩) _
        cases k with
        | zero =>
          cases b2
          exact .inl ⟨b3, rfl⟩
        | succ k =>
          refine .inr ⟨b1 0 r (by omega) rfl, k, fun i x hi hx => b1 (i + 1) x (by omega) (by simpa using hx), by simpa using b2, b3, by omega⟩
end
end K90
namespace K90
open PySem PySem.Spec PyProof.Rows L2 AS
def wrongs : List D := [.non, .int 0, .int (-2), .tup [.int (-1), .int 2], .tup [.int 1, .int 0], .str "2", .bl true, .lst [.int 1, .int 2], .tup [.int 0, .int 3]]
theorem vd_of {d : D} (h : d.kn = true) (h2 : d.isTup = false) : Vd d := ⟨h, fun l e => by subst e; cases h2⟩
theorem shaped_rep (t : Str) (h : PyData.strOk t = true) : SeqAt.shaped (.tuple [.str "ratio", .str t]) = true := by
  have h2 : PyData.strOk "ratio" = true := by decide +kernel
  simp [SeqAt.shaped, PyData.canLay0, PyData.canLayAll0, PyData.depth, PyData.depthAll, h, h2]
theorem wrong_bad : ∀ d ∈ wrongs, BadV d := by
  intro d hd
  simp only [wrongs, List.mem_cons, List.mem_nil_iff, or_false] at hd
  rcases hd with rfl | rfl | rfl | rfl | rfl | rfl | rfl | rfl | rfl
  · exact ⟨vd_of rfl rfl, .inl rfl⟩
  · exact ⟨vd_of rfl rfl, .inr ⟨.inl ⟨0, rfl⟩, by decide⟩⟩
  · exact ⟨vd_of rfl rfl, .inr ⟨.inl ⟨-2, rfl⟩, by decide⟩⟩
  · have g : Good (.tup [.int (-1), .int 2]) := .inr ⟨-1, 2, rfl, by decide, by decide +kernel⟩
    exact ⟨g.vd.1, .inr ⟨g, by decide +kernel⟩⟩
  · exact ⟨⟨rfl, fun l e => by cases e; intro x hx; simp at hx; rcases hx with rfl | rfl <;> rfl⟩, .inl (by decide)⟩
  · exact ⟨vd_of rfl rfl, .inl rfl⟩
  · exact ⟨vd_of rfl rfl, .inl rfl⟩
  · exact ⟨vd_of rfl rfl, .inl rfl⟩
  · have g : Good (.tup [.int 0, .int 3]) := .inr ⟨0, 3, rfl, by decide, by decide +kernel⟩
    exact ⟨g.vd.1, .inr ⟨g, by decide +kernel⟩⟩
theorem wrong_shown : ∀ d ∈ wrongs, ∃ t, Shown d t ∧ SeqAt.shaped (.tuple [.str "ratio", .str t]) = true := by
  intro d hd
  simp only [wrongs, List.mem_cons, List.mem_nil_iff, or_false] at hd
  have ok : ∀ (d : D) (p : PyData), d.py = some p → p.showable = true → p.hasDict = false → p.depth ≤ 9 → p.shown.length ≤ sizeLine → PyData.strOk p.shown = true → ∃ t, Shown d t ∧ SeqAt.shaped (.tuple [.str "ratio", .str t]) = true :=
    fun d p h1 h2 h3 h4 h5 h6 => ⟨p.shown, ⟨p, h1, h2, h3, h4, h5, rfl⟩, shaped_rep _ h6⟩
  rcases hd with rfl | rfl | rfl | rfl | rfl | rfl | rfl | rfl | rfl
  · exact ok _ .none rfl (by decide +kernel) (by decide +kernel) (by decide +kernel) (by decide +kernel) (by decide +kernel)
  · exact ok _ (.int 0) rfl (by decide +kernel) (by decide +kernel) (by decide +kernel) (by decide +kernel) (by decide +kernel)
  · exact ok _ (.int (-2)) rfl (by decide +kernel) (by decide +kernel) (by decide +kernel) (by decide +kernel) (by decide +kernel)
  · exact ok _ (.tuple [.int (-1), .int 2]) rfl (by decide +kernel) (by decide +kernel) (by decide +kernel) (by decide +kernel) (by decide +kernel)
  · exact ok _ (.tuple [.int 1, .int 0]) rfl (by decide +kernel) (by decide +kernel) (by decide +kernel) (by decide +kernel) (by decide +kernel)
  · exact ok _ (.str "2") rfl (by decide +kernel) (by decide +kernel) (by decide +kernel) (by decide +kernel) (by decide +kernel)
  · exact ok _ (.bool true) rfl (by decide +kernel) (by decide +kernel) (by decide +kernel) (by decide +kernel) (by decide +kernel)
  · exact ok _ (.list [.int 1, .int 2]) rfl (by decide +kernel) (by decide +kernel) (by decide +kernel) (by decide +kernel) (by decide +kernel)
  · exact ok _ (.tuple [.int 0, .int 3]) rfl (by decide +kernel) (by decide +kernel) (by decide +kernel) (by decide +kernel) (by decide +kernel)
/-! the ratios, passed in any terms -/
def qAt (rs : List (Nat × Nat)) (i : Nat) : Int × Int := match rs[i]? with
  | some r => ((r.1 : Int), (r.2 : Int))
  | none => (1, 1)
def pasP (p : Pen) (rs : List (Nat × Nat)) : Nat → Pen
  | 0 => p
  | i + 1 => (passed (pasP p rs i) (qAt rs i)).2
theorem pasP_ok {n : Nat} {p : Pen} (h : PenOk n p) (rs : List (Nat × Nat)) : ∀ i, PenOk (n + 2 * i) (pasP p rs i)
  | 0 => h
  | i + 1 => (passed_pen (pasP_ok h rs i)).mono (by omega)
def pasV (p : Pen) (rs : List (Nat × Nat)) (i : Nat) : D := (passed (pasP p rs i) (qAt rs i)).1
theorem qAt_get {rs : List (Nat × Nat)} {i : Nat} (h : i < rs.length) : qAt rs i = ((rs[i].1 : Int), (rs[i].2 : Int)) := by
  unfold qAt
  rw [List.getElem?_eq_getElem h]
theorem log2_small {b : Int} {s : Nat} (h : b.natAbs < 2 ^ s) (hs : s ≤ 8000) : b.natAbs.log2 < 9000 := by
  by_cases h0 : b.natAbs = 0
  · rw [h0]; decide
  · have := (Nat.log2_lt h0).mpr h; omega
theorem passed_good {L : Nat} {r : Nat × Nat} (h : Rat1 L r) (p : Pen) : GoodV (passed p ((r.1 : Int), (r.2 : Int))).1 ∧ toldQ (passed p ((r.1 : Int), (r.2 : Int))).1 = ((r.1 : Int), (r.2 : Int)) := by
  have p1 := h.p1
  have p2 := h.p2
  have t := (passed_told p (q := ((r.1 : Int), (r.2 : Int))) (by dsimp only; omega) h.co).2
  refine ⟨⟨?_, by rw [t]; dsimp only; omega⟩, t⟩
  have hd := draw_range (draw p 4).2 (m := 5) (by decide)
  have s2 := h.s2
  unfold passed
  split
  · exact .inl ⟨_, rfl⟩
  · split
    · generalize (draw (draw p 4).2 5).1 = b at hd
      refine .inr ⟨_, _, rfl, Int.mul_pos (by dsimp only; omega) (by omega), log2_small (s := 1103) ?_ (by decide)⟩
      rw [Int.natAbs_mul]
      have h1 : ((r.2 : Int)).natAbs < 2 ^ 1100 := s2
      have h2 : (2 + b).natAbs < 2 ^ 3 := by omega
      have := Nat.mul_lt_mul'' h1 h2
      rw [← Nat.pow_add] at this
      exact this
    · exact .inr ⟨_, _, rfl, by dsimp only; omega, log2_small (s := 1100) s2 (by decide)⟩
theorem vals_told {L : Nat} {rs : List (Nat × Nat)} (h : ∀ r ∈ rs, Rat1 L r) (p : Pen) : (∀ d ∈ (List.range rs.length).map (pasV p rs), GoodV d) ∧ ((List.range rs.length).map (pasV p rs)).map (fun d => dq (toldQ d)) = rs.map dqN := by
  have hg : ∀ i (hi : i < rs.length), GoodV (pasV p rs i) ∧ toldQ (pasV p rs i) = ((rs[i].1 : Int), (rs[i].2 : Int)) := fun i hi => by
    have := passed_good (h rs[i] (List.getElem_mem hi)) (pasP p rs i)
    unfold pasV
    rw [qAt_get hi]
    exact this
  refine ⟨fun d hd => ?_, ?_⟩
  · obtain ⟨i, hi, rfl⟩ := List.mem_map.mp hd
    exact (hg i (by simpa using hi)).1
  · apply List.ext_getElem
    · simp
    · intro i h1 h2
      have hi : i < rs.length := by simpa using h2
      simp only [List.getElem_map, List.getElem_range]
      rw [(hg i hi).2]
      rfl
theorem ref_in {L : Nat} {rs : List (Nat × Nat)} (hL : LotsOk L) (h : ∀ r ∈ rs, Rat1 L r) (hl : rs.length ≤ 6) : RefIn (numsOf rs) := by
  refine ⟨1100, L, fun n hn => ?_, by decide, by decide, hL.1, hL.2, by unfold numsOf; simp; omega⟩
  unfold numsOf at hn
  rw [List.mem_append, List.mem_map, List.mem_map] at hn
  rcases hn with ⟨r, hr, rfl⟩ | ⟨r, hr, rfl⟩
  · exact ⟨(h r hr).p1, (h r hr).s1, (h r hr).w1⟩
  · exact ⟨(h r hr).p2, (h r hr).s2, (h r hr).w2⟩
/-- the ratios, what is told of them -/
theorem base_in {L : Nat} {rs : List (Nat × Nat)} {ms : List Nat} (hL : LotsOk L) (h : ∀ r ∈ rs, Rat1 L r) (B : Bs (numsOf rs) ms) : (∀ b ∈ ms, b < 2 ^ 1100) ∧ ms.length ≤ 1000000 ∧ ∀ r ∈ rs, Cb.Gen ms r.1 ∧ Cb.Gen ms r.2 ∧ r.1 < 2 ^ 1100 ∧ r.2 < 2 ^ 1100 := by
  have hn : ∀ n ∈ numsOf rs, n < 2 ^ 1100 ∧ Cb.Pw L n := fun n hn => by
    unfold numsOf at hn
    rw [List.mem_append, List.mem_map, List.mem_map] at hn
    rcases hn with ⟨r, hr, rfl⟩ | ⟨r, hr, rfl⟩
    · exact ⟨(h r hr).s1, (h r hr).w1⟩
    · exact ⟨(h r hr).s2, (h r hr).w2⟩
  refine ⟨B.her (fun x => x < 2 ^ 1100) (fun a b hd hb hp => Nat.lt_of_le_of_lt (Nat.le_of_dvd hb hd) hp) fun n q => (hn n q).1, ?_, fun r hr => ?_⟩
  · have := Cb.Cop.few ⟨B.two, B.cop⟩ hL.1 (B.her (Cb.Pw L) (Cb.Pw.dc L) fun n q => (hn n q).2) hL.2
    omega
  · exact ⟨B.gen _ (by unfold numsOf; simp; exact .inl ⟨r.2, hr⟩), B.gen _ (by unfold numsOf; simp; exact .inr ⟨r.1, hr⟩), (h r hr).s1, (h r hr).s2⟩
theorem base_ones {ns ms : List Nat} (B : Bs ns ms) (h : ∀ n ∈ ns, n = 1) : ms = [] := by
  have := B.her (fun x => x = 1) (fun a b hd _ hp => by subst hp; exact Nat.eq_one_of_dvd_one hd) h
  cases ms with
  | nil => rfl
  | cons x r =>
    have h1 := this x (by simp)
    have h2 := B.two x (by simp)
    omega
end K90
namespace K90
open PySem PySem.Spec PyProof.Rows L2 AS
local macro_rules | `(tactic| walk_at "ev") => `(tactic| first
  | exact ev_vd rfl
  | exact ev_vp rfl
  | exact ev_int _
  | exact ev_non
  | exact ev_bl _
  | exact ev_str _
  | assumption
  | (apply ev_addI <;> walk_at "ev")
  | (apply ev_sub <;> walk_at "ev")
  | (apply ev_neg; walk_at "ev")
  | (apply ev_abs; walk_at "ev")
  | (apply ev_intA; walk_at "ev")
  | (apply ev_lt <;> walk_at "ev")
  | (apply ev_le <;> walk_at "ev")
  | (apply ev_gt <;> walk_at "ev")
  | (apply ev_ge <;> walk_at "ev")
  | (apply ev_eqI <;> walk_at "ev")
  | (apply ev_neI <;> walk_at "ev")
  | (apply ev_isN; walk_at "ev")
  | (apply ev_notN; walk_at "ev")
  | (apply ev_isi (by walk_at "ev") rfl; rfl)
  | skip)
local macro_rules | `(tactic| walk_at "ea") => `(tactic| first
  | exact ea_nil
  | (apply ea_cons; walk_at "ev"; walk_at "ea"))
local macro_rules | `(tactic| walk_at "call") => `(tactic| (first
  | exact (fun vs H Q h => ⟨_, h⟩)
  | exact (fun vs H Q h => ⟨_, _, h⟩)
  | exact (fun vs H Q h => ⟨_, _, _, h⟩)))

section
variable {P : Program} {w : World} {K : PySem.W.Frag} {mg : Str → Option Value} {base : Heap}
def spLaw (K : PySem.W.Frag) : Sp := fun vs H Q _ => ∃ (a : Addr) (ns : List Int), vs = [.ref a] ∧ SqL K H a (ns.map V.int) ∧ ns.length ≤ 63 ∧ ∀ H', Q (.bl true) H'
theorem EVp.imp {te : TE} {es : List En} {W : List Cn} {p q : En → List Cn → Prop} (h : EVp K te es W p) (hi : ∀ e w, p e w → q e w) : EVp K te es W q := fun F Hb H σ as S Q k => h F Hb H σ as S Q fun v Hb' H' as' e w hp => k v Hb' H' as' e w (hi e w hp)
theorem EVp.ev {te : TE} {es : List En} {W W1 : List Cn} {e0 : En} (h : EVp K te es W fun e w => e = e0 ∧ w = W1) : EV K te es W e0 W1 := fun F Hb H σ as S Q k => h F Hb H σ as S Q fun v Hb' H' as' e w ⟨p, q⟩ g s S' r => by
  subst p q
  exact k v Hb' H' as' g s S' r
/-- coprime_base of values that are all 1 -/
theorem ev_cb1s {mg : Str → Option Value} {es : List En} {W : List Cn} {ta : TA} {ds : List D} {rs : List (Nat × Nat)} (ha : EA K ta es W ([D.lst ds].map .dat) W) (hg : ∀ d ∈ ds, GoodV d) (ht : ds.map (fun d => dq (toldQ d)) = rs.map dqN) (h1 : ∀ n ∈ numsOf rs, n = 1) (hl : rs.length ≤ 20) :
    EV K (tCall (spCB K mg) [] E0 ta) es W (.dat (.tup [])) W := by
  have hI : RefIn (numsOf rs) := ⟨1, 1, fun n hn => by have := h1 n hn; subst this; exact ⟨by decide, by decide, ⟨0, by simp⟩⟩, by decide, by decide, by decide, by decide +kernel, by unfold numsOf; simp; omega⟩
  refine EVp.ev (EVp.imp (evp_callD (l := [D.lst ds]) (pd := fun d => ∃ ms, d = .tup ((zI ms).map D.int) ∧ Bs (numsOf rs) ms) ha (fun vs H Q h => .inl ⟨ds, rs, .lst ds, .inl rfl, hg, ht, hI, h⟩)) ?_)
  rintro e w ⟨rfl, d, rfl, ms, rfl, B⟩
  rw [base_ones B h1]
  exact ⟨rfl, rfl⟩
theorem sc_law : FnScope N_law P_law (defScope s_law) := ⟨rfl, rfl, rfl, by decide +kernel, rfl, by decide +kernel, by decide +kernel⟩
theorem ok_law (T : TxE K mg) {f : Addr} {fd : FuncData} (F : Fun K "law" "law" s_law f fd) : XC.FnG P w K mg base CX0 12 f fd P_law (spLaw K) := by
  refine fn_ofGn F sc_law (fun vs H Q E h => by obtain ⟨_, _, rfl, _⟩ := h; rfl) fun cdv A outer s H vs Q E hgd hr h => ?_
  obtain ⟨a, ns, rfl, hs, hn, hq⟩ := h
  refine ⟨_, (pss_cons (ps_set (i := 1) sc_law.nd rfl (Or.inr rfl) (pe_cal (ok__law_pen T.toTx) (hr.mono (by decide)) rfl (pa_cons (pv 0) pa_nil)))
 (pss_cons (ps_for PassesOwn.never rfl (pi_range1 rfl T.b_range (pa_cons pe_int pa_nil)) (pg_name (i := 2) sc_law.nd rfl (Or.inl rfl))
 (pss_cons (ps_set (i := 3) sc_law.nd rfl (Or.inl rfl) (pe_cal (ok__law_ratios T.toTx) (hr.mono (by decide)) rfl (pa_cons (pv 1) pa_nil)))
 (pss_cons (ps_setLc (i := 4) (own := [("_law_one", 9)]) rfl sc_law.nd rfl rfl (sw_true rfl rfl rfl (by decide +kernel)) (pi_seq (pi_list (pv 3)) (pi_tup (pv 3))) (blkOk_by (own := [("_law_one", 9)]) (N := N_law) (sc := defScope s_law) (by decide +kernel))
 (fun _ _ _ _ _ => (pg_name (i := 9) sc_law.nd rfl (Or.inl rfl))) (fun _ _ _ _ _ => pts_nil) (fun _ _ _ _ _ => (pe_cal (ok__law_passed T.toTx) (hr.mono (by decide)) rfl (pa_cons (pv 1) (pa_cons (pv 9) pa_nil)))))
 (pss_cons (ps_set (i := 5) sc_law.nd rfl (Or.inl rfl) (pe_calX (ok_coprime_base T) passL (hr.mono (by decide)) rfl (pa_cons (pe_cal (ok__law_pick T.toTx) (hr.mono (by decide)) rfl (pa_cons (pv 1) (pa_cons (pe_lst (pa_cons (pv 4) (pa_cons (pe_callTy call_tuple_of (by rfl) T.b_tuple (by decide +kernel) (pa_cons (pv 4) pa_nil)) pa_nil))) pa_nil))) pa_nil)))
 (pss_cons (ps_if (pt_not (pt_truth (pe_cal (ok__law_is_base T.toTx) (hr.mono (by decide)) rfl (pa_cons (pv 5) (pa_cons (pv 3) pa_nil))) (by intro _; rfl)))
 (pss_one (ps_ret pe_bl))
 pss_nil)
 (pss_cons (ps_if (PW.pt (pw_and (pt_cmpR (op_eqA hr.units) (pe_lc (own := [("_law_one", 9)]) rfl sc_law.nd (pi_seq (pi_list (pv 3)) (pi_tup (pv 3))) (blkOk_by (own := [("_law_one", 9)]) (N := N_law) (sc := defScope s_law) (by decide +kernel))
 (fun _ _ _ _ _ => (pg_name (i := 9) sc_law.nd rfl (Or.inl rfl))) (fun _ _ _ _ _ => (pts_one (pt_cmpR (show OpR _ (compareOp .NotEq) (rNeA K) from (op_neA hr.units)) (pv 9) (pe_tup (pa_cons pe_int (pa_cons pe_int pa_nil))) (nomark _)))) (fun _ _ _ _ _ => (pv 9))) (pe_lst pa_nil) (nomark _)) (pw_and1 (pt_cmpR (op_neA hr.units) (pv 5) (pe_tup pa_nil) (nomark _)))))
 (pss_one (ps_ret pe_bl))
 pss_nil)
 (pss_cons (ps_set (i := 6) sc_law.nd rfl (Or.inl rfl) (pe_ix ix_seq (pe_lst (pa_cons pe_non (pa_cons pe_int (pa_cons (pe_un un_neg pe_int) (pa_cons (pe_tup (pa_cons (pe_un un_neg pe_int) (pa_cons pe_int pa_nil))) (pa_cons (pe_tup (pa_cons pe_int (pa_cons pe_int pa_nil))) (pa_cons pe_str (pa_cons pe_bl (pa_cons (pe_lst (pa_cons pe_int (pa_cons pe_int pa_nil))) (pa_cons (pe_tup (pa_cons pe_int (pa_cons pe_int pa_nil))) pa_nil)))))))))) (pe_cal (ok__law_draw T.toTx) (hr.mono (by decide)) rfl (pa_cons (pv 1) (pa_cons pe_int pa_nil))) (fun _ _ => rfl)))
 (pss_cons (ps_set (i := 7) sc_law.nd rfl (Or.inl rfl) (pe_ix ix_seq (pe_lst (pa_cons pe_non (pa_cons pe_int (pa_cons pe_str pa_nil)))) (pe_cal (ok__law_draw T.toTx) (hr.mono (by decide)) rfl (pa_cons (pv 1) (pa_cons pe_int pa_nil))) (fun _ _ => rfl)))
 (pss_one (ps_for PassesOwn.never rfl (pi_range1 rfl T.b_range (pa_cons pe_int pa_nil)) (pg_name (i := 8) sc_law.nd rfl (Or.inl rfl))
 (pss_cons (ps_if (pt_cmpR (op_neA hr.units) (pe_calG (ok__law_refused T) hgd (hr.mono (by decide)) rfl (pa_cons (pv 8) (pa_cons (pe_lst (pa_cons pe_int (pa_cons (pv 6) (pa_cons (pv 7) pa_nil)))) pa_nil))) (pe_tup (pa_cons pe_str (pa_cons (pe_callB (id := "repr") (XC.call_repr hgd hr.units) (by rfl) T.b_repr (by decide +kernel) (pa_cons (pv 6) pa_nil)) pa_nil))) (nomark _))
 (pss_one (ps_ret pe_bl))
 pss_nil)
 (pss_one (ps_if (pt_cmpR (op_neA hr.units) (pe_calG (ok__law_refused T) hgd (hr.mono (by decide)) rfl (pa_cons (pv 8) (pa_cons (pe_lst (pa_cons (pv 6) (pa_cons (pv 7) pa_nil))) pa_nil))) (pe_tup (pa_cons pe_str (pa_cons (pe_callB (id := "repr") (XC.call_repr hgd hr.units) (by rfl) T.b_repr (by decide +kernel) (pa_cons (pv 6) pa_nil)) pa_nil))) (nomark _))
 (pss_one (ps_ret pe_bl))
 pss_nil)))))))))))))
 (pss_one (ps_ret (pe_and (pe_cmpR (op_eqA hr.units) (pe_calX (ok_coprime_base T) passL (hr.mono (by decide)) rfl (pa_cons (pe_lst pa_nil) pa_nil)) (pe_tup pa_nil) (nomark _)) (pe_one (pe_cmpR (op_eqA hr.units) (pe_calX (ok_coprime_base T) passL (hr.mono (by decide)) rfl (pa_cons (pe_lst (pa_cons pe_int (pa_cons (pe_tup (pa_cons pe_int (pa_cons pe_int pa_nil))) pa_nil))) pa_nil)) (pe_tup pa_nil) (nomark _)))))))), ?_⟩
  have S0 : ST K (fun _ => none) H H (L2.start N_law [.ref a]) [.dat (.rl (ns.map .int)), .un, .un, .un, .un, .un, .un, .un, .un, .un] [] [] := by
    refine ⟨Same.refl _, fun a o q => (by cases q), fun a o q => (by cases q), rfl, fun i a c q => by simp at q, fun i j a c d q => by simp at q, rfl, fun i e he => ?_⟩
    match i with
    | 0 => cases he; exact RS.of (e := .dat (.rl (ns.map .int))) (.rl hs (DtA.ints ns))
    | 1 | 2 | 3 | 4 | 5 | 6 | 7 | 8 | 9 => cases he; trivial
    | i + 10 => simp at he
  suffices hb : SD K _ [.dat (.rl (ns.map .int)), .un, .un, .un, .un, .un, .un, .un, .un, .un] [] ⟨fun _ _ => False, fun e _ => e = .dat (.bl true), fun _ _ => False, fun _ _ => False⟩ by
    refine hb (fun _ => none) H H _ [] _ S0 ⟨fun _ _ _ _ _ _ x => x.elim, ?_, fun _ _ _ _ _ _ x => x.elim, fun _ _ _ _ _ _ x => x.elim⟩
    rintro v Hb' H' σ' as' es' W' e rfl _ _ _ rv
    cases rv
    exact hq _
  refine sd_then (sd_asg (ev_callN (l := [.rl (ns.map .int)]) (ea_cons (ev_vd rfl) ea_nil) (fun vs H Q h => ⟨ns, h⟩) (Pen.cl _ _) rfl)) ?_
  refine sd_seq (M := fun e w => ∃ (p : Pen) (x2 x3 x4 x5 x6 x7 x8 x9 : En), e = [.dat (.rl (ns.map .int)), .ptr 0, x2, x3, x4, x5, x6, x7, x8, x9] ∧ w = [p.cn]) ?_ ?_
  · refine sd_for (ei_rng1 (n := 3) (ea_cons (ev_int 3) ea_nil) (by decide)) (fun i e w => ∃ (p : Pen) (x2 x3 x4 x5 x6 x7 x8 x9 : En), e = [.dat (.rl (ns.map .int)), .ptr 0, x2, x3, x4, x5, x6, x7, x8, x9] ∧ w = [p.cn] ∧ PenOk (300 * i) p)
      ⟨_, .un, .un, .un, .un, .un, .un, .un, .un, rfl, rfl, pen0_ok ns⟩ (fun _ _ _ _ => trivial) ?_ ?_
    · rintro i x e w hx ⟨p, x2, x3, x4, x5, x6, x7, x8, x9, rfl, rfl, hp⟩
      obtain ⟨hi, rfl⟩ := rngE_of hx
      have hi : i < 3 := hi
      refine ⟨[2], _, eg_name, ?_⟩
      -- the ratios
      refine sd_asgP (evp_call (cW := [p.cn]) (R := []) (args := [.ptr 0]) (ea_cons (ev_vp rfl) ea_nil) (fun vs H Q h => ⟨_, p, hp, by omega, h⟩) (fun r w ⟨_, _, _, _, h, _⟩ => by rw [h]; rfl) (fun e he => by simp at he; subst he; exact (by decide : 0 < 1)) (fun c hc => by simp at hc; subst hc; exact Pen.cl _ _)) ?_
      rintro e w ⟨w', ⟨rs, L, p1, rfl, rfl, hp1, hL, hrl, hrs⟩, rfl⟩
      -- passed in any terms
      have hpp := pasP_ok hp1 rs
      refine sd_then (W1 := [(pasP p1 rs rs.length).cn]) (es1 := [.dat (.rl (ns.map .int)), .ptr 0, .dat (.int (0 + (i : Int))), .dat (.lst (rs.map dqN)), .dat (.lst ((List.range rs.length).map (pasV p1 rs))), x5, x6, x7, x8, x9]) ?_ ?_
      · have hei := ei_lst (K := K) (W := [p1.cn]) (l := rs.map dqN) (es := [.dat (.rl (ns.map .int)), .ptr 0, .dat (.int (0 + (i : Int))), .dat (.lst (rs.map dqN)), x4, x5, x6, x7, x8, x9]) (tl := tVar 3) (ev_vd rfl)
        have z := sd_asg (i := 4) (ev_lc (tt := tYes) (te := tCall (spPassed K) [] E0 (tCons (tVar 1) (tCons (tVar 9) tNil))) (g := gName 9) (vs := [9]) (js := [9]) hei (fun j => some (pasV p1 rs j)) (fun j => [(pasP p1 rs j).cn]) rfl (by simp; omega) (fun _ _ => trivial) (by simp) fun j x hx => ?_)
        · have e6 : (List.range (((rs.map dqN).map En.dat)).length).filterMap (fun j => some (pasV p1 rs j)) = (List.range rs.length).map (pasV p1 rs) := by simp
          rw [e6] at z
          have e7 : ((rs.map dqN).map En.dat).length = rs.length := by simp
          rw [e7] at z
          exact z
        · have hj : j < rs.length := by
            have := (List.getElem?_eq_some_iff.mp hx).1
            simpa using this
          have hx2 : x = .dat (dqN rs[j]) := by
            simp [hj] at hx
            exact hx.symm
          subst hx2
          refine ⟨_, eg_name, .inl ⟨_, _, rfl, et_yes, ?_⟩⟩
          have := ev_passed (K := K) (E := E0) (R := []) (q := qAt rs j) (p := pasP p1 rs j) (W := [(pasP p1 rs j).cn]) (es := (wipeE [.dat (.rl (ns.map .int)), .ptr 0, .dat (.int (0 + (i : Int))), .dat (.lst (rs.map dqN)), x4, x5, x6, x7, x8, x9] [9]).set 9 (.dat (dqN rs[j]))) (tA := tCons (tVar 1) (tCons (tVar 9) tNil))
            (by rw [qAt_get hj]; exact ea_cons (ev_vp rfl) (ea_cons (ev_vd rfl) ea_nil)) (hpp j) (by omega)
          exact this
      have p2 := hpp rs.length
      generalize hvals : (List.range rs.length).map (pasV p1 rs) = vals
      obtain ⟨hgood, htold⟩ := vals_told hrs p1
      rw [hvals] at hgood htold
      generalize pasP p1 rs rs.length = q2 at p2
      -- what is told
      obtain ⟨c, hc, hcm⟩ := pick_get (p := q2) (l := [.lst vals, .tup vals]) (by simp)
      have hc2 : c = .lst vals ∨ c = .tup vals := by simpa using hcm
      have p3 := p2.draw (m := 2) (by decide)
      have hRI := ref_in hL hrs hrl
      refine sd_asgP (evp_callD (W1 := [(draw q2 2).2.cn]) (l := [c]) (pd := fun d => ∃ ms, d = .tup ((zI ms).map D.int) ∧ Bs (numsOf rs) ms) (ea_cons (ev_pick (R := []) (p := q2) (l := [.lst vals, .tup vals]) (ea_cons (ev_vp rfl) (ea_cons (ev_lst (l := [.lst vals, .tup vals]) (ea_cons (ev_vd rfl) (ea_cons (ev_tupleL (l := vals) (ev_vd rfl) rfl) ea_nil)) (by simp)) ea_nil)) p2 (by omega) (by simp) (by simp) hc) ea_nil)
        (fun vs H Q h => .inl ⟨vals, rs, c, hc2, hgood, htold, hRI, h⟩)) ?_
      rintro e w ⟨rfl, d, rfl, ms, rfl, B⟩
      obtain ⟨mb, ml, mg'⟩ := base_in hL hrs B
      generalize (draw q2 2).2 = q3 at p3
      refine sd_seq (M := fun e w => e = [.dat (.rl (ns.map .int)), .ptr 0, .dat (.int (0 + (i : Int))), .dat (.lst (rs.map dqN)), .dat (.lst vals), .dat (.tup ((zI ms).map D.int)), x6, x7, x8, x9] ∧ w = [q3.cn]) (sd_if (b := false) (et_is (et_not (et_truB (ev_callD (d := .bl true) (l := [.tup ((zI ms).map D.int), .lst (rs.map dqN)]) (ea_cons (ev_vd rfl) (ea_cons (ev_vd rfl) ea_nil)) (fun vs H Q h => ⟨ms, rs, 1100, B.asc, ⟨B.two, B.cop⟩, mb, by decide, ml, by omega, mg', h⟩)))) rfl) (fun hb => by cases hb) (fun _ => sd_next ⟨rfl, rfl⟩)) ?_
      rintro e w ⟨rfl, rfl⟩
      -- () for 1
      have hei := ei_lst (K := K) (W := [q3.cn]) (l := rs.map dqN) (es := [.dat (.rl (ns.map .int)), .ptr 0, .dat (.int (0 + (i : Int))), .dat (.lst (rs.map dqN)), .dat (.lst vals), .dat (.tup ((zI ms).map D.int)), x6, x7, x8, x9]) (tl := tVar 3) (ev_vd rfl)
      rw [List.map_map] at hei
      have hone := ev_lcF (K := K) (f := fun r : Nat × Nat => if r = (1, 1) then none else some (dqN r)) (g := gName 9) (vs := [9]) (js := [9]) (tt := tTest (tOp (rNeA K) (tVar 9) (tTup (tCons (tC (.int 1)) (tCons (tC (.int 1)) tNil))))) (te := tVar 9) hei (by omega) trivial (by simp) fun r hr => by
        refine ⟨_, eg_name, ?_⟩
        have ev1 : EV K (tOp (rNeA K) (tVar 9) (tTup (tCons (tC (.int 1)) (tCons (tC (.int 1)) tNil)))) ((wipeE [.dat (.rl (ns.map .int)), .ptr 0, .dat (.int (0 + (i : Int))), .dat (.lst (rs.map dqN)), .dat (.lst vals), .dat (.tup ((zI ms).map D.int)), x6, x7, x8, x9] [9]).set 9 (.dat (dqN r))) [q3.cn] _ _ :=
          ev_neD (d1 := dqN r) (d2 := .tup [.int 1, .int 1]) (p := .tuple [.int (r.1 : Int), .int (r.2 : Int)]) (q := .tuple [.int 1, .int 1]) (ev_vd rfl) (ev_tup (l := [.int 1, .int 1]) (ea_cons (ev_int 1) (ea_cons (ev_int 1) ea_nil)) (by simp)) rfl rfl (by simp [SeqAt.shaped, PyData.canLay0, PyData.canLayAll0, PyData.depth, PyData.depthAll]) (by decide +kernel)
        have ee : PyData.eqv (.tuple [.int (r.1 : Int), .int (r.2 : Int)]) (.tuple [.int 1, .int 1]) = decide (r = (1, 1)) := by
          obtain ⟨u, v⟩ := r
          show (((u : Int) == 1) && (((v : Int) == 1) && true)) = _
          by_cases h1 : u = 1 <;> by_cases h2 : v = 1 <;> simp [h1, h2] <;> omega
        rw [ee] at ev1
        by_cases h1 : r = (1, 1)
        · exact .inr ⟨if_pos h1, et_test (ev_is ev1 (by rw [decide_eq_true h1]; rfl))⟩
        · exact .inl ⟨_, if_neg h1, et_test (ev_is ev1 (by rw [decide_eq_false h1]; rfl)), ev_vd rfl⟩
      refine sd_seq (M := fun e w => e = [.dat (.rl (ns.map .int)), .ptr 0, .dat (.int (0 + (i : Int))), .dat (.lst (rs.map dqN)), .dat (.lst vals), .dat (.tup ((zI ms).map D.int)), x6, x7, x8, x9] ∧ w = [q3.cn]) (sd_if (b := false) (et_is (et_and (b := false) (et_test (ev_eqNil hone rfl ?_)) fun hb => ?_) (by simp)) (fun hb => by cases hb) (fun _ => sd_next ⟨rfl, rfl⟩)) ?_
      · rw [List.all_eq_true]
        intro d hd
        obtain ⟨r, _, hr⟩ := List.mem_filterMap.mp hd
        split at hr
        · cases hr
        · cases hr; simp [D.flat, dqN]
      · have hms : ms = [] := base_ones B fun n hn => by
          have hall : ∀ r ∈ rs, r = (1, 1) := fun r hr => by
            rw [List.isEmpty_iff, List.filterMap_eq_nil_iff] at hb
            have := hb r hr
            apply Classical.byContradiction
            intro hne
            rw [if_neg hne] at this
            cases this
          unfold numsOf at hn
          rw [List.mem_append, List.mem_map, List.mem_map] at hn
          rcases hn with ⟨r, hr, rfl⟩ | ⟨r, hr, rfl⟩ <;> rw [hall r hr]
        subst hms
        exact et_test (ev_is (ev_neD (d1 := .tup []) (d2 := .tup []) (p := .tuple []) (q := .tuple []) (ev_vd rfl) (ev_tup (l := []) ea_nil (by simp)) rfl rfl (by decide +kernel) (by decide +kernel)) rfl)
      rintro e w ⟨rfl, rfl⟩
      -- what is wrong
      have hd9 := draw_range q3 (m := 9) (by decide)
      have p4 := p3.draw (m := 9) (by decide)
      have h9 : (draw q3 9).1.toNat < wrongs.length := by show _ < 9; omega
      obtain ⟨wr, hwr⟩ : ∃ wr, wrongs[(draw q3 9).1.toNat]? = some wr := ⟨wrongs[(draw q3 9).1.toNat], by simp [h9]⟩
      have hwm := List.mem_of_getElem? hwr
      have e9 : (draw q3 9).1 = (((draw q3 9).1.toNat : Nat) : Int) := by omega
      refine sd_then (sd_asg (e := .dat wr) (W1 := [(draw q3 9).2.cn]) (ev_ix (l := wrongs.map .dat) (i := (draw q3 9).1) (ev_lst (l := wrongs) (ea_cons ev_non (ea_cons (ev_int 0) (ea_cons (ev_neg (ev_int 2)) (ea_cons (ev_tup (l := [.int (-1), .int 2]) (ea_cons (ev_neg (ev_int 1)) (ea_cons (ev_int 2) ea_nil)) (by simp)) (ea_cons (ev_tup (l := [.int 1, .int 0]) (ea_cons (ev_int 1) (ea_cons (ev_int 0) ea_nil)) (by simp)) (ea_cons (ev_str _) (ea_cons (ev_bl true) (ea_cons (ev_lst (l := [.int 1, .int 2]) (ea_cons (ev_int 1) (ea_cons (ev_int 2) ea_nil)) (by simp)) (ea_cons (ev_tup (l := [.int 0, .int 3]) (ea_cons (ev_int 0) (ea_cons (ev_int 3) ea_nil)) (by simp)) ea_nil))))))))) (by decide))
        (ev_draw (R := []) (m := 9) (ea_cons (ev_vp rfl) (ea_cons (ev_int 9) ea_nil)) p3 (by omega) (by decide) (by decide)) rfl (by rw [e9]; exact atI_nat (by rw [List.getElem?_map, hwr]; rfl)))) ?_
      generalize (draw q3 9).2 = q4 at p4
      have hd3 := draw_range q4 (m := 3) (by decide)
      have p5 := p4.draw (m := 3) (by decide)
      obtain ⟨la, hla⟩ : ∃ la, ([.non, .int 0, .str "x"] : List D)[(draw q4 3).1.toNat]? = some la := ⟨([.non, .int 0, .str "x"] : List D)[(draw q4 3).1.toNat]'(by simp; omega), by simp⟩
      have e3 : (draw q4 3).1 = (((draw q4 3).1.toNat : Nat) : Int) := by omega
      refine sd_then (sd_asg (e := .dat la) (W1 := [(draw q4 3).2.cn]) (ev_ix (l := ([.non, .int 0, .str "x"] : List D).map .dat) (i := (draw q4 3).1) (ev_lst (l := [.non, .int 0, .str "x"]) (ea_cons ev_non (ea_cons (ev_int 0) (ea_cons (ev_str _) ea_nil))) (by simp))
        (ev_draw (R := []) (m := 3) (ea_cons (ev_vp rfl) (ea_cons (ev_int 3) ea_nil)) p4 (by omega) (by decide) (by decide)) rfl (by rw [e3]; exact atI_nat (by rw [List.getElem?_map, hla]; rfl)))) ?_
      generalize (draw q4 3).2 = q5 at p5
      have hbad := wrong_bad wr hwm
      obtain ⟨t, hsh, hst⟩ := wrong_shown wr hwm
      have bad1 : BadAt [.int 2, wr, la] 1 wr := ⟨fun i x hi hx => by
        have : i = 0 := by omega
        subst this
        cases hx
        exact ⟨.inl ⟨2, rfl⟩, by decide⟩, rfl, hbad, by decide⟩
      have bad2 : BadAt [wr, la] 0 wr := ⟨fun i x hi => absurd hi (by omega), rfl, hbad, by decide⟩
      have hrep : ∀ {es : List En}, es[6]? = some (.dat wr) → EV K (tCB (XC.rRepr K) (tCons (tVar 6) tNil)) es [q5.cn] (.dat (.str t)) [q5.cn] := fun {es} h6 => ev_cb1 (ev_vd h6) fun F Hb H σ as v S r1 Q k => by
        obtain ⟨pp, s1, s2, s3, s4, s5, rfl⟩ := hsh
        exact ⟨v, pp, rfl, Dt.py _ _ _ (Dt.mono S.base _ _ r1) s1, s2, s3, s4, s5, k.here S (.str _)⟩
      have heq : ∀ {es : List En} {tA : TA} {tB : TE} {vals2 : List D} {k : Nat} {z : Int}, es[6]? = some (.dat wr) → BadAt vals2 k wr → EA K tA es [q5.cn] ([.int z, .lst vals2].map .dat) [q5.cn] → ET K (tTest (tOp (rNeA K) (tCall (spRefd K) [] E0 tA) (tTup (tCons (tC (.str "ratio")) (tCons (tCB (XC.rRepr K) (tCons (tVar 6) tNil)) tNil))))) es [q5.cn] false [q5.cn] := fun {es tA tB vals2 k z} h6 hb ha =>
        et_test (ev_is (ev_neD (d1 := .tup [.str "ratio", .str t]) (d2 := .tup [.str "ratio", .str t]) (p := .tuple [.str "ratio", .str t]) (q := .tuple [.str "ratio", .str t]) (ev_callD (l := [.int z, .lst vals2]) ha (fun vs H Q h => ⟨z, vals2, k, wr, t, hb, hsh, h⟩)) (ev_tup (l := [.str "ratio", .str t]) (ea_cons (ev_str _) (ea_cons (hrep h6) ea_nil)) (by simp)) rfl rfl hst hst) (by
          have : PyData.eqv (.tuple [.str "ratio", .str t]) (.tuple [.str "ratio", .str t]) = true := by
            show ((("ratio" : Str) == "ratio") && ((t == t) && true)) = true
            simp
          rw [this]; rfl))
      refine sd_for (ei_rng1 (n := 3) (ea_cons (ev_int 3) ea_nil) (by decide)) (fun j e w => ∃ x8 : En, e = [.dat (.rl (ns.map .int)), .ptr 0, .dat (.int (0 + (i : Int))), .dat (.lst (rs.map dqN)), .dat (.lst vals), .dat (.tup ((zI ms).map D.int)), .dat wr, .dat la, x8, x9] ∧ w = [q5.cn])
        ⟨x8, rfl, rfl⟩ (fun _ _ _ _ => trivial) ?_ ?_
      · rintro j x e w hx ⟨y8, rfl, rfl⟩
        obtain ⟨hj, rfl⟩ := rngE_of hx
        refine ⟨[8], _, eg_name, ?_⟩
        refine sd_seq (M := fun e w => e = [.dat (.rl (ns.map .int)), .ptr 0, .dat (.int (0 + (i : Int))), .dat (.lst (rs.map dqN)), .dat (.lst vals), .dat (.tup ((zI ms).map D.int)), .dat wr, .dat la, .dat (.int (0 + (j : Int))), x9] ∧ w = [q5.cn]) (sd_if (b := false) (heq (tB := tC .non) rfl bad1 (ea_cons (ev_vd rfl) (ea_cons (ev_lst (l := [.int 2, wr, la]) (ea_cons (ev_int 2) (ea_cons (ev_vd rfl) (ea_cons (ev_vd rfl) ea_nil))) (by simp)) ea_nil))) (fun hb => by cases hb) (fun _ => sd_next ⟨rfl, rfl⟩)) ?_
        rintro e w ⟨rfl, rfl⟩
        exact sd_if (b := false) (heq (tB := tC .non) rfl bad2 (ea_cons (ev_vd rfl) (ea_cons (ev_lst (l := [wr, la]) (ea_cons (ev_vd rfl) (ea_cons (ev_vd rfl) ea_nil)) (by simp)) ea_nil))) (fun hb => by cases hb) (fun _ => sd_next ⟨_, rfl, rfl⟩)
      · rintro e w ⟨y8, rfl, rfl⟩
        exact ⟨q5, _, _, _, _, _, _, _, _, rfl, rfl, p5.mono (by omega)⟩
    · rintro e w ⟨p, x2, x3, x4, x5, x6, x7, x8, x9, rfl, rfl, _⟩
      exact ⟨p, x2, x3, x4, x5, x6, x7, x8, x9, rfl, rfl⟩
  · rintro e w ⟨p, x2, x3, x4, x5, x6, x7, x8, x9, rfl, rfl⟩
    have e1 : EV K (tOp (rEqA K) (tCall (spCB K mg) [] E0 (tCons (tLst tNil) tNil)) (tTup tNil)) [.dat (.rl (ns.map .int)), .ptr 0, x2, x3, x4, x5, x6, x7, x8, x9] [p.cn] (.dat (.bl true)) [p.cn] :=
      ev_is (ev_eqD (d1 := .tup []) (d2 := .tup []) (p := .tuple []) (q := .tuple []) (ev_cb1s (ds := []) (rs := []) (ea_cons (ev_lst (l := []) ea_nil (by simp)) ea_nil) (fun d h => absurd h (by simp)) rfl (fun n h => absurd h (by simp [numsOf])) (by simp)) (ev_tup (l := []) ea_nil (by simp)) rfl rfl (by decide +kernel) (by decide +kernel)) rfl
    have g33 : GoodV (.tup [.int 3, .int 3]) := ⟨.inr ⟨3, 3, rfl, by decide, by decide +kernel⟩, by decide +kernel⟩
    have e2 : EV K (tOp (rEqA K) (tCall (spCB K mg) [] E0 (tCons (tLst (tCons (tC (.int 1)) (tCons (tTup (tCons (tC (.int 3)) (tCons (tC (.int 3)) tNil))) tNil))) tNil)) (tTup tNil)) [.dat (.rl (ns.map .int)), .ptr 0, x2, x3, x4, x5, x6, x7, x8, x9] [p.cn] (.dat (.bl true)) [p.cn] :=
      ev_is (ev_eqD (d1 := .tup []) (d2 := .tup []) (p := .tuple []) (q := .tuple []) (ev_cb1s (ds := [.int 1, .tup [.int 3, .int 3]]) (rs := [(1, 1), (1, 1)]) (ea_cons (ev_lst (l := [.int 1, .tup [.int 3, .int 3]]) (ea_cons (ev_int 1) (ea_cons (ev_tup (l := [.int 3, .int 3]) (ea_cons (ev_int 3) (ea_cons (ev_int 3) ea_nil)) (by simp)) ea_nil)) (by simp)) ea_nil) (fun d h => by
        simp at h
        rcases h with rfl | rfl
        · exact ⟨.inl ⟨1, rfl⟩, by decide⟩
        · exact g33) (by
          have : toldQ (.tup [.int 3, .int 3]) = (1, 1) := by decide +kernel
          show [dq (toldQ (.int 1)), dq (toldQ (.tup [.int 3, .int 3]))] = _
          rw [this]; rfl) (fun n h => by simpa [numsOf] using h) (by simp)) (ev_tup (l := []) ea_nil (by simp)) rfl rfl (by decide +kernel) (by decide +kernel)) rfl
    exact sd_ret (ev_is (ev_andV e1 fun _ => e2) rfl) rfl
end
end K90
/-! what the top has written, the head -/
namespace K90
open PySem PySem.Spec PyProof.Rows L2 AS
/-- an own error is caught by its own class -/
theorem own_exc {K : PySem.W.Frag} {C : Addr} (base_ : PySem.W.subIn K (.ref C) (.type "BaseException") = some true) (cls_ : PySem.W.isClsIn K C = true) (ty_ : PySem.W.typeIn K (.ref C) = some (.type "type")) (self_ : PySem.W.subIn K (.ref C) (.ref C) = some true) : PySem.W.exmOne K (.ref C) (.ref C) = some true := by
  have c2 : (PySem.W.clsIn K C).isSome = true := cls_
  simp only [PySem.W.exmOne, PySem.W.kitCls, base_, c2, ty_, self_, beq_self_eq_true, Bool.and_self, if_true]
theorem all_mk {l : PySem.W.OpenLaw} {w : World} {K : PySem.W.Frag} {h : Heap} {mg : Str → Option Value} {fa fb Cb fi Td f0 f1 f2 f3 f4 f5 f6 f7 f8 f9 f10 f11 f12 f13 f14 f15 f16 f17 f18 f19 f20 f21 f22 f23 f24 f25 : Addr} (X : K.In h) (G : h.Ns mainGlobals mg) (hfa : mg "law" = some (.ref fa))
    {oc0 kV0 dc0 pm0 cd0 ct0 oc1 kV1 dc1 pm1 cd1 ct1 oc2 kV2 dc2 pm2 cd2 ct2 oc3 kV3 dc3 pm3 cd3 ct3 oc4 kV4 dc4 pm4 cd4 ct4 oc5 kV5 dc5 pm5 cd5 ct5 oc6 kV6 dc6 pm6 cd6 ct6 oc7 kV7 dc7 pm7 cd7 ct7 oc8 kV8 dc8 pm8 cd8 ct8 oc9 kV9 dc9 pm9 cd9 ct9 oc10 kV10 dc10 pm10 cd10 ct10 oc11 kV11 dc11 pm11 cd11 ct11 oc12 kV12 dc12 pm12 cd12 ct12 oc13 kV13 dc13 pm13 cd13 ct13 oc14 kV14 dc14 pm14 cd14 ct14 oc15 kV15 dc15 pm15 cd15 ct15 oc16 kV16 dc16 pm16 cd16 ct16 oc17 kV17 dc17 pm17 cd17 ct17 oc18 kV18 dc18 pm18 cd18 ct18 oc19 kV19 dc19 pm19 cd19 ct19 oc20 kV20 dc20 pm20 cd20 ct20 oc21 kV21 dc21 pm21 cd21 ct21 oc22 kV22 dc22 pm22 cd22 ct22 oc23 kV23 dc23 pm23 cd23 ct23 oc24 kV24 dc24 pm24 cd24 ct24 oc25 kV25 dc25 pm25 cd25 ct25 ocp kVp dcp pmp cdp ctp oci kVi dci pmi cdi cti : Value} {od0 an0 od1 an1 od2 an2 od3 an3 od4 an4 od5 an5 od6 an6 od7 an7 od8 an8 od9 an9 od10 an10 od11 an11 od12 an12 od13 an13 od14 an14 od15 an15 od16 an16 od17 an17 od18 an18 od19 an19 od20 an20 od21 an21 od22 an22 od23 an23 od24 an24 od25 an25 odp anp odi ani : Option Addr} {sl0 sl1 sl2 sl3 sl4 sl5 sl6 sl7 sl8 sl9 sl10 sl11 sl12 sl13 sl14 sl15 sl16 sl17 sl18 sl19 sl20 sl21 sl22 sl23 sl24 sl25 slp sli : Array (Option Value)} {ot : Obj} {nt : Nat}
    {nm q : Str} {Nn : Addr} {bs0 bm : List Value} {sn : List Str} {sub : List Value} {ab : Bool} {col : Option Bool} {dd : Option Addr} {m0 m1 m2 m3 m5 : Option Value}
    (a0 : PySem.W.nsIn K mainGlobals "common_divisor" = some (some (.ref f0)))
    (l0 : K.lookup f0 = some ⟨oc0, od0, .func (PySem.W.fnOf "common_divisor" "common_divisor" (defArgs s_common_divisor) (defBody s_common_divisor) (defScope s_common_divisor) .none kV0 dc0 pm0 an0 cd0 ct0), sl0⟩)
    (c0 : PySem.W.codeIn K cd0 "common_divisor" = true)
    (k0 : PySem.W.keepIn K (.ref f0) = true)
    (a1 : PySem.W.nsIn K mainGlobals "lowest" = some (some (.ref f1)))
    (l1 : K.lookup f1 = some ⟨oc1, od1, .func (PySem.W.fnOf "lowest" "lowest" (defArgs s_lowest) (defBody s_lowest) (defScope s_lowest) .none kV1 dc1 pm1 an1 cd1 ct1), sl1⟩)
    (c1 : PySem.W.codeIn K cd1 "lowest" = true)
    (k1 : PySem.W.keepIn K (.ref f1) = true)
    (a2 : PySem.W.nsIn K mainGlobals "is_whole" = some (some (.ref f2)))
    (l2 : K.lookup f2 = some ⟨oc2, od2, .func (PySem.W.fnOf "is_whole" "is_whole" (defArgs s_is_whole) (defBody s_is_whole) (defScope s_is_whole) .none kV2 dc2 pm2 an2 cd2 ct2), sl2⟩)
    (c2 : PySem.W.codeIn K cd2 "is_whole" = true)
    (k2 : PySem.W.keepIn K (.ref f2) = true)
    (a3 : PySem.W.nsIn K mainGlobals "is_ratio" = some (some (.ref f3)))
    (l3 : K.lookup f3 = some ⟨oc3, od3, .func (PySem.W.fnOf "is_ratio" "is_ratio" (defArgs s_is_ratio) (defBody s_is_ratio) (defScope s_is_ratio) .none kV3 dc3 pm3 an3 cd3 ct3), sl3⟩)
    (c3 : PySem.W.codeIn K cd3 "is_ratio" = true)
    (k3 : PySem.W.keepIn K (.ref f3) = true)
    (a4 : PySem.W.nsIn K mainGlobals "told" = some (some (.ref f4)))
    (l4 : K.lookup f4 = some ⟨oc4, od4, .func (PySem.W.fnOf "told" "told" (defArgs s_told) (defBody s_told) (defScope s_told) .none kV4 dc4 pm4 an4 cd4 ct4), sl4⟩)
    (c4 : PySem.W.codeIn K cd4 "told" = true)
    (k4 : PySem.W.keepIn K (.ref f4) = true)
    (a5 : PySem.W.nsIn K mainGlobals "told_above" = some (some (.ref f5)))
    (l5 : K.lookup f5 = some ⟨oc5, od5, .func (PySem.W.fnOf "told_above" "told_above" (defArgs s_told_above) (defBody s_told_above) (defScope s_told_above) .none kV5 dc5 pm5 an5 cd5 ct5), sl5⟩)
    (c5 : PySem.W.codeIn K cd5 "told_above" = true)
    (k5 : PySem.W.keepIn K (.ref f5) = true)
    (a6 : PySem.W.nsIn K mainGlobals "refined" = some (some (.ref f6)))
    (l6 : K.lookup f6 = some ⟨oc6, od6, .func (PySem.W.fnOf "refined" "refined" (defArgs s_refined) (defBody s_refined) (defScope s_refined) .none kV6 dc6 pm6 an6 cd6 ct6), sl6⟩)
    (c6 : PySem.W.codeIn K cd6 "refined" = true)
    (k6 : PySem.W.keepIn K (.ref f6) = true)
    (a7 : PySem.W.nsIn K mainGlobals "base_of" = some (some (.ref f7)))
    (l7 : K.lookup f7 = some ⟨oc7, od7, .func (PySem.W.fnOf "base_of" "base_of" (defArgs s_base_of) (defBody s_base_of) (defScope s_base_of) .none kV7 dc7 pm7 an7 cd7 ct7), sl7⟩)
    (c7 : PySem.W.codeIn K cd7 "base_of" = true)
    (k7 : PySem.W.keepIn K (.ref f7) = true)
    (a8 : PySem.W.nsIn K mainGlobals "coprime_base" = some (some (.ref f8)))
    (l8 : K.lookup f8 = some ⟨oc8, od8, .func (PySem.W.fnOf "coprime_base" "coprime_base" (defArgs s_coprime_base) (defBody s_coprime_base) (defScope s_coprime_base) .none kV8 dc8 pm8 an8 cd8 ct8), sl8⟩)
    (c8 : PySem.W.codeIn K cd8 "coprime_base" = true)
    (k8 : PySem.W.keepIn K (.ref f8) = true)
    (a9 : PySem.W.nsIn K mainGlobals "relations" = some (some (.ref f9)))
    (l9 : K.lookup f9 = some ⟨oc9, od9, .func (PySem.W.fnOf "relations" "relations" (defArgs s_relations) (defBody s_relations) (defScope s_relations) .none kV9 dc9 pm9 an9 cd9 ct9), sl9⟩)
    (c9 : PySem.W.codeIn K cd9 "relations" = true)
    (k9 : PySem.W.keepIn K (.ref f9) = true)
    (a10 : PySem.W.nsIn K mainGlobals "_law_pen" = some (some (.ref f10)))
    (l10 : K.lookup f10 = some ⟨oc10, od10, .func (PySem.W.fnOf "_law_pen" "_law_pen" (defArgs s__law_pen) (defBody s__law_pen) (defScope s__law_pen) .none kV10 dc10 pm10 an10 cd10 ct10), sl10⟩)
    (c10 : PySem.W.codeIn K cd10 "_law_pen" = true)
    (k10 : PySem.W.keepIn K (.ref f10) = true)
    (a11 : PySem.W.nsIn K mainGlobals "_law_draw" = some (some (.ref f11)))
    (l11 : K.lookup f11 = some ⟨oc11, od11, .func (PySem.W.fnOf "_law_draw" "_law_draw" (defArgs s__law_draw) (defBody s__law_draw) (defScope s__law_draw) .none kV11 dc11 pm11 an11 cd11 ct11), sl11⟩)
    (c11 : PySem.W.codeIn K cd11 "_law_draw" = true)
    (k11 : PySem.W.keepIn K (.ref f11) = true)
    (a12 : PySem.W.nsIn K mainGlobals "_law_pick" = some (some (.ref f12)))
    (l12 : K.lookup f12 = some ⟨oc12, od12, .func (PySem.W.fnOf "_law_pick" "_law_pick" (defArgs s__law_pick) (defBody s__law_pick) (defScope s__law_pick) .none kV12 dc12 pm12 an12 cd12 ct12), sl12⟩)
    (c12 : PySem.W.codeIn K cd12 "_law_pick" = true)
    (k12 : PySem.W.keepIn K (.ref f12) = true)
    (a13 : PySem.W.nsIn K mainGlobals "_law_big" = some (some (.ref f13)))
    (l13 : K.lookup f13 = some ⟨oc13, od13, .func (PySem.W.fnOf "_law_big" "_law_big" (defArgs s__law_big) (defBody s__law_big) (defScope s__law_big) .none kV13 dc13 pm13 an13 cd13 ct13), sl13⟩)
    (c13 : PySem.W.codeIn K cd13 "_law_big" = true)
    (k13 : PySem.W.keepIn K (.ref f13) = true)
    (a14 : PySem.W.nsIn K mainGlobals "_law_gcd" = some (some (.ref f14)))
    (l14 : K.lookup f14 = some ⟨oc14, od14, .func (PySem.W.fnOf "_law_gcd" "_law_gcd" (defArgs s__law_gcd) (defBody s__law_gcd) (defScope s__law_gcd) .none kV14 dc14 pm14 an14 cd14 ct14), sl14⟩)
    (c14 : PySem.W.codeIn K cd14 "_law_gcd" = true)
    (k14 : PySem.W.keepIn K (.ref f14) = true)
    (a15 : PySem.W.nsIn K mainGlobals "_law_q" = some (some (.ref f15)))
    (l15 : K.lookup f15 = some ⟨oc15, od15, .func (PySem.W.fnOf "_law_q" "_law_q" (defArgs s__law_q) (defBody s__law_q) (defScope s__law_q) .none kV15 dc15 pm15 an15 cd15 ct15), sl15⟩)
    (c15 : PySem.W.codeIn K cd15 "_law_q" = true)
    (k15 : PySem.W.keepIn K (.ref f15) = true)
    (a16 : PySem.W.nsIn K mainGlobals "_law_times" = some (some (.ref f16)))
    (l16 : K.lookup f16 = some ⟨oc16, od16, .func (PySem.W.fnOf "_law_times" "_law_times" (defArgs s__law_times) (defBody s__law_times) (defScope s__law_times) .none kV16 dc16 pm16 an16 cd16 ct16), sl16⟩)
    (c16 : PySem.W.codeIn K cd16 "_law_times" = true)
    (k16 : PySem.W.keepIn K (.ref f16) = true)
    (a17 : PySem.W.nsIn K mainGlobals "_law_is_whole" = some (some (.ref f17)))
    (l17 : K.lookup f17 = some ⟨oc17, od17, .func (PySem.W.fnOf "_law_is_whole" "_law_is_whole" (defArgs s__law_is_whole) (defBody s__law_is_whole) (defScope s__law_is_whole) .none kV17 dc17 pm17 an17 cd17 ct17), sl17⟩)
    (c17 : PySem.W.codeIn K cd17 "_law_is_whole" = true)
    (k17 : PySem.W.keepIn K (.ref f17) = true)
    (a18 : PySem.W.nsIn K mainGlobals "_law_passed" = some (some (.ref f18)))
    (l18 : K.lookup f18 = some ⟨oc18, od18, .func (PySem.W.fnOf "_law_passed" "_law_passed" (defArgs s__law_passed) (defBody s__law_passed) (defScope s__law_passed) .none kV18 dc18 pm18 an18 cd18 ct18), sl18⟩)
    (c18 : PySem.W.codeIn K cd18 "_law_passed" = true)
    (k18 : PySem.W.keepIn K (.ref f18) = true)
    (a19 : PySem.W.nsIn K mainGlobals "_law_power" = some (some (.ref f19)))
    (l19 : K.lookup f19 = some ⟨oc19, od19, .func (PySem.W.fnOf "_law_power" "_law_power" (defArgs s__law_power) (defBody s__law_power) (defScope s__law_power) .none kV19 dc19 pm19 an19 cd19 ct19), sl19⟩)
    (c19 : PySem.W.codeIn K cd19 "_law_power" = true)
    (k19 : PySem.W.keepIn K (.ref f19) = true)
    (a20 : PySem.W.nsIn K mainGlobals "_law_powers" = some (some (.ref f20)))
    (l20 : K.lookup f20 = some ⟨oc20, od20, .func (PySem.W.fnOf "_law_powers" "_law_powers" (defArgs s__law_powers) (defBody s__law_powers) (defScope s__law_powers) .none kV20 dc20 pm20 an20 cd20 ct20), sl20⟩)
    (c20 : PySem.W.codeIn K cd20 "_law_powers" = true)
    (k20 : PySem.W.keepIn K (.ref f20) = true)
    (a21 : PySem.W.nsIn K mainGlobals "_law_is_base" = some (some (.ref f21)))
    (l21 : K.lookup f21 = some ⟨oc21, od21, .func (PySem.W.fnOf "_law_is_base" "_law_is_base" (defArgs s__law_is_base) (defBody s__law_is_base) (defScope s__law_is_base) .none kV21 dc21 pm21 an21 cd21 ct21), sl21⟩)
    (c21 : PySem.W.codeIn K cd21 "_law_is_base" = true)
    (k21 : PySem.W.keepIn K (.ref f21) = true)
    (a22 : PySem.W.nsIn K mainGlobals "_law_base_powers" = some (some (.ref f22)))
    (l22 : K.lookup f22 = some ⟨oc22, od22, .func (PySem.W.fnOf "_law_base_powers" "_law_base_powers" (defArgs s__law_base_powers) (defBody s__law_base_powers) (defScope s__law_base_powers) .none kV22 dc22 pm22 an22 cd22 ct22), sl22⟩)
    (c22 : PySem.W.codeIn K cd22 "_law_base_powers" = true)
    (k22 : PySem.W.keepIn K (.ref f22) = true)
    (a23 : PySem.W.nsIn K mainGlobals "_law_ratios" = some (some (.ref f23)))
    (l23 : K.lookup f23 = some ⟨oc23, od23, .func (PySem.W.fnOf "_law_ratios" "_law_ratios" (defArgs s__law_ratios) (defBody s__law_ratios) (defScope s__law_ratios) .none kV23 dc23 pm23 an23 cd23 ct23), sl23⟩)
    (c23 : PySem.W.codeIn K cd23 "_law_ratios" = true)
    (k23 : PySem.W.keepIn K (.ref f23) = true)
    (a24 : PySem.W.nsIn K mainGlobals "_law_refused" = some (some (.ref f24)))
    (l24 : K.lookup f24 = some ⟨oc24, od24, .func (PySem.W.fnOf "_law_refused" "_law_refused" (defArgs s__law_refused) (defBody s__law_refused) (defScope s__law_refused) .none kV24 dc24 pm24 an24 cd24 ct24), sl24⟩)
    (c24 : PySem.W.codeIn K cd24 "_law_refused" = true)
    (k24 : PySem.W.keepIn K (.ref f24) = true)
    (a25 : PySem.W.nsIn K mainGlobals "law" = some (some (.ref f25)))
    (l25 : K.lookup f25 = some ⟨oc25, od25, .func (PySem.W.fnOf "law" "law" (defArgs s_law) (defBody s_law) (defScope s_law) .none kV25 dc25 pm25 an25 cd25 ct25), sl25⟩)
    (c25 : PySem.W.codeIn K cd25 "law" = true)
    (k25 : PySem.W.keepIn K (.ref f25) = true)
    (ap : PySem.W.nsIn K mainGlobals "as_powers" = some (some (.ref fb)))
    (lp : K.lookup fb = some ⟨ocp, odp, .func (PySem.W.fnOf "as_powers" "as_powers" (defArgs s_as_powers) (defBody s_as_powers) (defScope s_as_powers) (.ref Td) kVp dcp pmp anp cdp ctp), slp⟩)
    (cp : PySem.W.codeIn K cdp "as_powers" = true)
    (kp : PySem.W.keepIn K (.ref fb) = true)
    (tp : K.lookup Td = some ot)
    (dp : ot.data = .seq #[Value.bool false] nt)
    (aC : PySem.W.nsIn K mainGlobals "BadNumber" = some (some (.ref Cb)))
    (xL : K.lookup Cb = some (excClassObj nm q Cb Nn bs0 bm true sn sub ab col dd m0 m1 m2 m3 m5 "ValueError.__new__"))
    (xB : PySem.HandSPX.refsVE bm = true)
    (sa : PySem.W.findIn K (.ref Cb) "__setattr__" = some (some (.builtin "object.__setattr__")))
    (ga : PySem.W.findIn K (.ref Cb) "__getattribute__" = some (some (.builtin "BaseException.__getattribute__")))
    (gg : PySem.W.findIn K (.ref Cb) "__getattr__" = some none)
    (nW : PySem.W.findIn K (.ref Cb) "what" = some none)
    (nN : PySem.W.findIn K (.ref Cb) "number" = some none)
    (ai : PySem.W.findIn K (.ref Cb) "__init__" = some (some (.ref fi)))
    (ti : PySem.W.typeIn K (.ref fi) = some (.type "function"))
    (li : K.lookup fi = some ⟨oci, odi, .func (PySem.W.fnOf "__init__" "BadNumber.__init__" (defArgs s_BadNumber___init__) (defBody s_BadNumber___init__) (defScope s_BadNumber___init__) .none kVi dci pmi ani cdi cti), sli⟩)
    (ci : PySem.W.codeIn K cdi "BadNumber.__init__" = true)
    (ki : PySem.W.keepIn K (.ref fi) = true)
    (kC : PySem.W.keepIn K (.ref Cb) = true)
    (eC : PySem.W.subIn K (.ref Cb) (.type "BaseException") = some true)
    (tC : PySem.W.typeIn K (.ref Cb) = some (.type "type"))
    (hC : PySem.W.hasDictIn K Cb = true)
    (iC : PySem.W.isClsIn K Cb = true)
    (sC : PySem.W.subIn K (.ref Cb) (.ref Cb) = some true)
    (z_abs : PySem.W.nsIn K mainGlobals "abs" = some none)
    (z_len : PySem.W.nsIn K mainGlobals "len" = some none)
    (z_int : PySem.W.nsIn K mainGlobals "int" = some none)
    (z_bool : PySem.W.nsIn K mainGlobals "bool" = some none)
    (z_list : PySem.W.nsIn K mainGlobals "list" = some none)
    (z_tuple : PySem.W.nsIn K mainGlobals "tuple" = some none)
    (z_sorted : PySem.W.nsIn K mainGlobals "sorted" = some none)
    (z_str : PySem.W.nsIn K mainGlobals "str" = some none)
    (z_repr : PySem.W.nsIn K mainGlobals "repr" = some none)
    (z_range : PySem.W.nsIn K mainGlobals "range" = some none)
    (z_zip : PySem.W.nsIn K mainGlobals "zip" = some none)
    (z_isinstance : PySem.W.nsIn K mainGlobals "isinstance" = some none) :
    ∃ fd : FuncData, (∀ (s : Shared) (v : Value), BindsTo s fd ⟨[v], []⟩ [("_law_script", v)]) ∧ ∀ base : Heap, K.In base → base.Ns mainGlobals mg → XC.FnG l.prog w K mg base CX0 12 fa fd ["_law_script"] (spLaw K) := by
  have e := hfa.symm.trans (PySem.W.mg_of X G a25)
  cases e
  have gB : mg "BadNumber" = some (.ref Cb) := PySem.W.mg_of X G aC
  have eB : CB mg = Cb := by unfold CB; rw [gB]
  have T : TxE K mg := {
    f_common_divisor := ⟨f0, _, fun_mk (st := s_common_divisor) l0 c0 k0, PySem.W.mg_of X G a0⟩
    f_lowest := ⟨f1, _, fun_mk (st := s_lowest) l1 c1 k1, PySem.W.mg_of X G a1⟩
    f_is_whole := ⟨f2, _, fun_mk (st := s_is_whole) l2 c2 k2, PySem.W.mg_of X G a2⟩
    f_is_ratio := ⟨f3, _, fun_mk (st := s_is_ratio) l3 c3 k3, PySem.W.mg_of X G a3⟩
    f_told := ⟨f4, _, fun_mk (st := s_told) l4 c4 k4, PySem.W.mg_of X G a4⟩
    f_told_above := ⟨f5, _, fun_mk (st := s_told_above) l5 c5 k5, PySem.W.mg_of X G a5⟩
    f_refined := ⟨f6, _, fun_mk (st := s_refined) l6 c6 k6, PySem.W.mg_of X G a6⟩
    f_base_of := ⟨f7, _, fun_mk (st := s_base_of) l7 c7 k7, PySem.W.mg_of X G a7⟩
    f_coprime_base := ⟨f8, _, fun_mk (st := s_coprime_base) l8 c8 k8, PySem.W.mg_of X G a8⟩
    f_relations := ⟨f9, _, fun_mk (st := s_relations) l9 c9 k9, PySem.W.mg_of X G a9⟩
    f__law_pen := ⟨f10, _, fun_mk (st := s__law_pen) l10 c10 k10, PySem.W.mg_of X G a10⟩
    f__law_draw := ⟨f11, _, fun_mk (st := s__law_draw) l11 c11 k11, PySem.W.mg_of X G a11⟩
    f__law_pick := ⟨f12, _, fun_mk (st := s__law_pick) l12 c12 k12, PySem.W.mg_of X G a12⟩
    f__law_big := ⟨f13, _, fun_mk (st := s__law_big) l13 c13 k13, PySem.W.mg_of X G a13⟩
    f__law_gcd := ⟨f14, _, fun_mk (st := s__law_gcd) l14 c14 k14, PySem.W.mg_of X G a14⟩
    f__law_q := ⟨f15, _, fun_mk (st := s__law_q) l15 c15 k15, PySem.W.mg_of X G a15⟩
    f__law_times := ⟨f16, _, fun_mk (st := s__law_times) l16 c16 k16, PySem.W.mg_of X G a16⟩
    f__law_is_whole := ⟨f17, _, fun_mk (st := s__law_is_whole) l17 c17 k17, PySem.W.mg_of X G a17⟩
    f__law_passed := ⟨f18, _, fun_mk (st := s__law_passed) l18 c18 k18, PySem.W.mg_of X G a18⟩
    f__law_power := ⟨f19, _, fun_mk (st := s__law_power) l19 c19 k19, PySem.W.mg_of X G a19⟩
    f__law_powers := ⟨f20, _, fun_mk (st := s__law_powers) l20 c20 k20, PySem.W.mg_of X G a20⟩
    f__law_is_base := ⟨f21, _, fun_mk (st := s__law_is_base) l21 c21 k21, PySem.W.mg_of X G a21⟩
    f__law_base_powers := ⟨f22, _, fun_mk (st := s__law_base_powers) l22 c22 k22, PySem.W.mg_of X G a22⟩
    f__law_ratios := ⟨f23, _, fun_mk (st := s__law_ratios) l23 c23 k23, PySem.W.mg_of X G a23⟩
    f__law_refused := ⟨f24, _, fun_mk (st := s__law_refused) l24 c24 k24, PySem.W.mg_of X G a24⟩
    f_law := ⟨fa, _, fun_mk (st := s_law) l25 c25 k25, PySem.W.mg_of X G a25⟩
    b_abs := PySem.W.mg_none_of X G z_abs
    b_len := PySem.W.mg_none_of X G z_len
    b_int := PySem.W.mg_none_of X G z_int
    b_bool := PySem.W.mg_none_of X G z_bool
    b_list := PySem.W.mg_none_of X G z_list
    b_tuple := PySem.W.mg_none_of X G z_tuple
    b_sorted := PySem.W.mg_none_of X G z_sorted
    b_str := PySem.W.mg_none_of X G z_str
    b_repr := PySem.W.mg_none_of X G z_repr
    b_range := PySem.W.mg_none_of X G z_range
    b_zip := PySem.W.mg_none_of X G z_zip
    b_isinstance := PySem.W.mg_none_of X G z_isinstance
    bad := by
      have g := gB
      rw [← eB] at g xL sa ga gg nW nN ai kC eC tC hC iC sC
      exact { gC := g, oex := ⟨⟨nm, q, Nn, bs0, bm, sn, sub, ab, col, dd, m0, m1, m2, m3, m5, xL, xB⟩, sa, eC, tC, kC⟩, xfc := ⟨ga, gg, eC, hC⟩, noW := nW, noN := nN, own := own_exc eC iC tC sC, ini := ⟨fi, _, ai, ti, fun_mk (st := s_BadNumber___init__) li ci ki⟩ }
    p_as_powers := ⟨fb, _, ⟨⟨_, _, _, _, _, _, _, _, _, _, rfl, lp, cp, .inr ⟨by simp, Td, ot, [Value.bool false], nt, rfl, tp, dp, .cons rfl .nil⟩, .inl rfl⟩, kp⟩, PySem.W.mg_of X G ap⟩ }
  have FL := fun_mk (st := s_law) l25 c25 k25
  exact ⟨_, fun s v => .of_eq rfl, fun base _ _ => ok_law T FL⟩
end K90
open PySem PySem.W PyProof.Rows L2 in
set_option maxRecDepth 100000 in
set_option maxHeartbeats 0 in
theorem PySem.Challenge.cw_allscales_k90_whole_coprime_bases_holds : PySem.Challenge.rw_allscales_k90_whole_coprime_bases.Holds := by
  w_on; o_law; k_head; (case hw => w_witness2)
  k_fill
  refine XC.walk_ofG (l := PySem.Challenge.rw_allscales_k90_whole_coprime_bases) (n := 63) (k := 12) (x := "_law_script") (CX := fun _ => CX0) (sp := fun w => K90.spLaw _) rfl (by decide) rfl ⟨rfl, by decide, by decide⟩ (fun w h Y => PySem.W.kIn_of Y) ?F (fun _ _ a ns hl _ hS => ⟨a, ns, rfl, hS, hl, fun _ => rfl⟩) fun _ _ _ _ _ z => z
  case F =>
    intro w mg fa h KX G hmg
    refine' K90.all_mk KX G hmg ?a0 ?l0 ?c0 ?k0 ?a1 ?l1 ?c1 ?k1 ?a2 ?l2 ?c2 ?k2 ?a3 ?l3 ?c3 ?k3 ?a4 ?l4 ?c4 ?k4 ?a5 ?l5 ?c5 ?k5 ?a6 ?l6 ?c6 ?k6 ?a7 ?l7 ?c7 ?k7 ?a8 ?l8 ?c8 ?k8 ?a9 ?l9 ?c9 ?k9 ?a10 ?l10 ?c10 ?k10 ?a11 ?l11 ?c11 ?k11 ?a12 ?l12 ?c12 ?k12 ?a13 ?l13 ?c13 ?k13 ?a14 ?l14 ?c14 ?k14 ?a15 ?l15 ?c15 ?k15 ?a16 ?l16 ?c16 ?k16 ?a17 ?l17 ?c17 ?k17 ?a18 ?l18 ?c18 ?k18 ?a19 ?l19 ?c19 ?k19 ?a20 ?l20 ?c20 ?k20 ?a21 ?l21 ?c21 ?k21 ?a22 ?l22 ?c22 ?k22 ?a23 ?l23 ?c23 ?k23 ?a24 ?l24 ?c24 ?k24 ?a25 ?l25 ?c25 ?k25 ?ap ?lp ?cp ?kp ?tp ?dp ?aC ?xL ?xB ?sa ?ga ?gg ?nW ?nN ?ai ?ti ?li ?ci ?ki ?kC ?eC ?tC ?hC ?iC ?sC ?z_abs ?z_len ?z_int ?z_bool ?z_list ?z_tuple ?z_sorted ?z_str ?z_repr ?z_range ?z_zip ?z_isinstance
    (case a0 => k_is)
    (case l0 => k_is)
    (case c0 => k_is)
    (case k0 => k_is)
    (case a1 => k_is)
    (case l1 => k_is)
    (case c1 => k_is)
    (case k1 => k_is)
    (case a2 => k_is)
    (case l2 => k_is)
    (case c2 => k_is)
    (case k2 => k_is)
    (case a3 => k_is)
    (case l3 => k_is)
    (case c3 => k_is)
    (case k3 => k_is)
    (case a4 => k_is)
    (case l4 => k_is)
    (case c4 => k_is)
    (case k4 => k_is)
    (case a5 => k_is)
    (case l5 => k_is)
    (case c5 => k_is)
    (case k5 => k_is)
    (case a6 => k_is)
    (case l6 => k_is)
    (case c6 => k_is)
    (case k6 => k_is)
    (case a7 => k_is)
    (case l7 => k_is)
    (case c7 => k_is)
    (case k7 => k_is)
    (case a8 => k_is)
    (case l8 => k_is)
    (case c8 => k_is)
    (case k8 => k_is)
    (case a9 => k_is)
    (case l9 => k_is)
    (case c9 => k_is)
    (case k9 => k_is)
    (case a10 => k_is)
    (case l10 => k_is)
    (case c10 => k_is)
    (case k10 => k_is)
    (case a11 => k_is)
    (case l11 => k_is)
    (case c11 => k_is)
    (case k11 => k_is)
    (case a12 => k_is)
    (case l12 => k_is)
    (case c12 => k_is)
    (case k12 => k_is)
    (case a13 => k_is)
    (case l13 => k_is)
    (case c13 => k_is)
    (case k13 => k_is)
    (case a14 => k_is)
    (case l14 => k_is)
    (case c14 => k_is)
    (case k14 => k_is)
    (case a15 => k_is)
    (case l15 => k_is)
    (case c15 => k_is)
    (case k15 => k_is)
    (case a16 => k_is)
    (case l16 => k_is)
    (case c16 => k_is)
    (case k16 => k_is)
    (case a17 => k_is)
    (case l17 => k_is)
    (case c17 => k_is)
    (case k17 => k_is)
    (case a18 => k_is)
    (case l18 => k_is)
    (case c18 => k_is)
    (case k18 => k_is)
    (case a19 => k_is)
    (case l19 => k_is)
    (case c19 => k_is)
    (case k19 => k_is)
    (case a20 => k_is)
    (case l20 => k_is)
    (case c20 => k_is)
    (case k20 => k_is)
    (case a21 => k_is)
    (case l21 => k_is)
    (case c21 => k_is)
    (case k21 => k_is)
    (case a22 => k_is)
    (case l22 => k_is)
    (case c22 => k_is)
    (case k22 => k_is)
    (case a23 => k_is)
    (case l23 => k_is)
    (case c23 => k_is)
    (case k23 => k_is)
    (case a24 => k_is)
    (case l24 => k_is)
    (case c24 => k_is)
    (case k24 => k_is)
    (case a25 => k_is)
    (case l25 => k_is)
    (case c25 => k_is)
    (case k25 => k_is)
    (case ap => k_is)
    (case lp => k_is)
    (case cp => k_is)
    (case kp => k_is)
    (case tp => k_is)
    (case dp => rfl)
    (case aC => k_is)
    (case xL => k_is)
    (case xB => decide +kernel)
    (case sa => k_is)
    (case ga => k_is)
    (case gg => k_is)
    (case nW => k_is)
    (case nN => k_is)
    (case ai => k_is)
    (case ti => k_is)
    (case li => k_is)
    (case ci => k_is)
    (case ki => k_is)
    (case kC => k_is)
    (case eC => k_is)
    (case tC => k_is)
    (case hC => k_is)
    (case iC => k_is)
    (case sC => first | rfl | k_is)
    (case z_abs => k_is)
    (case z_len => k_is)
    (case z_int => k_is)
    (case z_bool => k_is)
    (case z_list => k_is)
    (case z_tuple => k_is)
    (case z_sorted => k_is)
    (case z_str => k_is)
    (case z_repr => k_is)
    (case z_range => k_is)
    (case z_zip => k_is)
    (case z_isinstance => k_is)
