import PyProof.Rows.All
import Wide.All
import OpenK.AllK
import Wide.FinOn
import HandS.ForMost
import HandS.ForExc
import HandS.HeadHook1
import HandS.Lambda
import HandS.Bytes
import HandS.Zip
import HandS.Defaults
import HandS.Wide
import HandS.TupAny
import HandS.IsInst
import HandS.RaiseMore
import HandS.More
import PyProof.ReprReads
import HandS.ExcOwn
import HandS.Exc
import HandS.Comp
import HandS.Iter
import HandS.Codes
import HandS.Text
import PyProof.ReprLen
import PyProof.ReprRoads
import KE.BytesMulAny
import HandS.ToBytes
import KE.KBytesStep
import HandS.Deep
import KE.DataFind
import HandS.HotCalls
import HandS.ExcIs
import HandS.Dict
import HandS.EndTab
import HandS.HeadWalk
import HandS.HeadHook4
import KE.KStateDown
import HandS.Head0
import HandS.Head1
import HandS.Head2
import HandS.HeadHook2
import HandS.HeadHook3
import PySem.Challenge.RW_rowclash_k92_keys_as_bytes
set_option Elab.async false
set_option linter.all false
set_option maxRecDepth 100000
set_option maxHeartbeats 2000000
/-! Pm1: data D, how it stands in an abstract heap (Rep), frames of data (Gud), the readings of code as functions of data. -/
namespace Pm
open PySem PySem.Spec PyProof.Rows L2

/-- a value with all that it holds -/
inductive D where
  | non | bl (b : Bool) | int (i : Int) | str (s : Str) | byt (b : Array UInt8) | ref (a : Addr) | ty (n : String) | cls (n : Str)
  | lst (xs : List D) | tup (xs : List D) | scr (ns : List Int)
  | dic (ks : List Key) (xs : List D) | ins (C : Str) (ns : List Str) (xs : List D)

def Ext (H H' : Hp) : Prop := ∀ a o, H a = some o → H' a = some o
theorem Ext.refl (H : Hp) : Ext H H := fun _ _ h => h
theorem Ext.trans {H H1 H2 : Hp} (a : Ext H H1) (b : Ext H1 H2) : Ext H H2 := fun x o h => b x o (a x o h)
theorem Ext.new {H : Hp} {p : Addr} {o : HO} (h : H p = none) : Ext H (upd H p o) := fun a u e => by
  rw [upd_ne (ne_of_none e h)]; exact e
theorem Ext.none {H H' : Hp} (e : Ext H H') {p : Addr} (h : H' p = none) : H p = none := by
  cases q : H p with
  | none => rfl
  | some o => rw [e p o q] at h; cases h
theorem ext_rd {H H' : Hp} {a : Addr} {u : HO} (e : Ext H H') (h : Rd H a u) : Rd H' a u := by
  rcases h with h | ⟨o, h⟩
  · exact .inl (e a _ h)
  · exact .inr ⟨o, e a _ h⟩
theorem ext_l {K : PySem.W.Frag} {H H' : Hp} {a : Addr} {xs : List V} (e : Ext H H') (h : SqL K H a xs) : SqL K H' a xs := by
  rcases h with h | h
  · exact .inl (ext_rd e h)
  · exact .inr h
theorem ext_t {K : PySem.W.Frag} {H H' : Hp} {a : Addr} {xs : List V} (e : Ext H H') (h : SqT K H a xs) : SqT K H' a xs := by
  rcases h with h | h
  · exact .inl (ext_rd e h)
  · exact .inr h

mutual
inductive Rep (K : PySem.W.Frag) (F : Hp) : D → V → Prop
  | non : Rep K F .non .non
  | bl (b : Bool) : Rep K F (.bl b) (.bl b)
  | int (i : Int) : Rep K F (.int i) (.int i)
  | str (x : Str) : Rep K F (.str x) (.str x)
  | byt (x : Array UInt8) : Rep K F (.byt x) (.byt x)
  | ref (a : Addr) : Rep K F (.ref a) (.ref a)
  | ty (n : String) : Rep K F (.ty n) (.ty n)
  | cls (n : Str) : Rep K F (.cls n) (.ref (He.ga K n))
  | lst {a : Addr} {xs : List V} {ds : List D} : F a = some (.lst xs) → xs.length ≤ sizeLine → RepL K F ds xs → Rep K F (.lst ds) (.ref a)
  | tup {a : Addr} {xs : List V} {ds : List D} : SqT K F a xs → xs.length ≤ sizeLine → RepL K F ds xs → Rep K F (.tup ds) (.ref a)
  | scr {a : Addr} {ns : List Int} : SqL K F a (ns.map V.int) → ns.length ≤ sizeLine → Rep K F (.scr ns) (.ref a)
  | dic {a : Addr} {kvs : List (Key × V)} {ks : List Key} {ds : List D} : F a = some (.dK kvs) → kvs.map (·.1) = ks → RepL K F ds (kvs.map (·.2)) → Rep K F (.dic ks ds) (.ref a)
  | ins {a dx : Addr} {C : Str} {fs : List (Str × V)} {ns : List Str} {ds : List D} : F a = some (.ins (He.ga K C) dx fs) → fs.map (·.1) = ns → RepL K F ds (fs.map (·.2)) → Rep K F (.ins C ns ds) (.ref a)
inductive RepL (K : PySem.W.Frag) (F : Hp) : List D → List V → Prop
  | nil : RepL K F [] []
  | cons {d : D} {ds : List D} {v : V} {vs : List V} : Rep K F d v → RepL K F ds vs → RepL K F (d :: ds) (v :: vs)
end
section
variable {K : PySem.W.Frag} {F F' : Hp}
mutual
theorem Rep.mono (e : Ext F F') : ∀ (d : D) (v : V), Rep K F d v → Rep K F' d v
  | .non, _, h => by cases h; exact .non
  | .bl b, _, h => by cases h; exact .bl b
  | .int i, _, h => by cases h; exact .int i
  | .str x, _, h => by cases h; exact .str x
  | .byt x, _, h => by cases h; exact .byt x
  | .ref a, _, h => by cases h; exact .ref a
  | .ty n, _, h => by cases h; exact .ty n
  | .cls n, _, h => by cases h; exact .cls n
  | .lst ds, _, h => by cases h with | lst a b c => exact .lst (e _ _ a) b (RepL.mono e ds _ c)
  | .tup ds, _, h => by cases h with | tup a b c => exact .tup (ext_t e a) b (RepL.mono e ds _ c)
  | .scr ns, _, h => by cases h with | scr a b => exact .scr (ext_l e a) b
  | .dic ks ds, _, h => by cases h with | dic a b c => exact .dic (e _ _ a) b (RepL.mono e ds _ c)
  | .ins C ns ds, _, h => by cases h with | ins a b c => exact .ins (e _ _ a) b (RepL.mono e ds _ c)
theorem RepL.mono (e : Ext F F') : ∀ (ds : List D) (vs : List V), RepL K F ds vs → RepL K F' ds vs
  | [], _, h => by cases h; exact .nil
  | d :: ds, _, h => by cases h with | cons a b => exact .cons (Rep.mono e d _ a) (RepL.mono e ds _ b)
end
theorem Rep.up {d : D} {v : V} (h : Rep K F d v) (e : Ext F F') : Rep K F' d v := Rep.mono e d v h
theorem RepL.up {ds : List D} {vs : List V} (h : RepL K F ds vs) (e : Ext F F') : RepL K F' ds vs := RepL.mono e ds vs h
theorem RepL.length : ∀ {ds : List D} {vs : List V}, RepL K F ds vs → ds.length = vs.length
  | [], _, h => by cases h; rfl
  | d :: ds, _, h => by cases h with | cons a b => exact congrArg Nat.succ (RepL.length b)
theorem RepL.get : ∀ {ds : List D} {vs : List V} {i : Nat} {d : D}, RepL K F ds vs → ds[i]? = some d → ∃ v, vs[i]? = some v ∧ Rep K F d v
  | [], _, _, _, _, e => by simp at e
  | d :: ds, _, 0, _, .cons a b, e => by simp at e; subst e; exact ⟨_, rfl, a⟩
  | d :: ds, _, i + 1, _, .cons a b, e => by
    obtain ⟨v, h1, h2⟩ := RepL.get (i := i) b (by simpa using e)
    exact ⟨v, by simpa using h1, h2⟩
theorem RepL.getV : ∀ {ds : List D} {vs : List V} {i : Nat} {v : V}, RepL K F ds vs → vs[i]? = some v → ∃ d, ds[i]? = some d ∧ Rep K F d v
  | [], _, _, _, h, e => by cases h; simp at e
  | d :: ds, _, 0, _, .cons a b, e => by simp at e; subst e; exact ⟨_, rfl, a⟩
  | d :: ds, _, i + 1, _, .cons a b, e => by
    obtain ⟨v, h1, h2⟩ := RepL.getV (i := i) b (by simpa using e)
    exact ⟨v, by simpa using h1, h2⟩
theorem RepL.append : ∀ {ds es : List D} {vs us : List V}, RepL K F ds vs → RepL K F es us → RepL K F (ds ++ es) (vs ++ us)
  | [], _, _, _, h, k => by cases h; exact k
  | d :: ds, _, _, _, .cons a b, k => .cons a (RepL.append b k)
theorem RepL.take : ∀ {ds : List D} {vs : List V} (n : Nat), RepL K F ds vs → RepL K F (ds.take n) (vs.take n)
  | _, _, 0, _ => .nil
  | _, _, _ + 1, .nil => .nil
  | _, _, n + 1, .cons a b => .cons a (RepL.take n b)
theorem RepL.drop : ∀ {ds : List D} {vs : List V} (n : Nat), RepL K F ds vs → RepL K F (ds.drop n) (vs.drop n)
  | _, _, 0, h => h
  | _, _, _ + 1, .nil => .nil
  | _, _, n + 1, .cons _ b => RepL.drop n b
theorem RepL.set : ∀ {ds : List D} {vs : List V} {d : D} {v : V} (i : Nat), Rep K F d v → RepL K F ds vs → RepL K F (ds.set i d) (vs.set i v)
  | _, _, _, _, _, _, .nil => .nil
  | _, _, _, _, 0, r, .cons _ b => .cons r b
  | _, _, _, _, i + 1, r, .cons a b => .cons a (RepL.set i r b)
theorem RepL.snoc {ds : List D} {vs : List V} {d : D} {v : V} (h : RepL K F ds vs) (r : Rep K F d v) : RepL K F (ds ++ [d]) (vs ++ [v]) := h.append (.cons r .nil)
theorem RepL.ints : ∀ (ns : List Int), RepL K F (ns.map D.int) (ns.map V.int)
  | [] => .nil
  | n :: ns => .cons (.int n) (RepL.ints ns)
end

/-- the heap has grown: new objects alone; F' tells more -/
structure Grw (F H F' H' : Hp) : Prop where
  ff : Ext F F'
  fh : Ext F' H'
  hh : Ext H H'
  new : ∀ a, F a = none → H a ≠ none → F' a = none
  nt : ∀ a ps, F' a = some (.tbl ps) → F a = some (.tbl ps)
theorem Grw.refl {F H : Hp} (e : Ext F H) : Grw F H F H := ⟨Ext.refl _, e, Ext.refl _, fun _ h _ => h, fun _ _ h => h⟩
theorem Grw.trans {F H F1 H1 F2 H2 : Hp} (a : Grw F H F1 H1) (b : Grw F1 H1 F2 H2) : Grw F H F2 H2 :=
  ⟨a.ff.trans b.ff, b.fh, a.hh.trans b.hh, fun x h1 h2 => b.new x (a.new x h1 h2) (by
    cases q : H x with
    | none => exact absurd q h2
    | some o => rw [a.hh x o q]; simp), fun x ps h => a.nt x ps (b.nt x ps h)⟩
theorem Grw.lay {F H : Hp} {p : Addr} {o : HO} (e : Ext F H) (hp : H p = none) (ho : ∀ ps, o ≠ .tbl ps := by intro _ z; cases z) : Grw F H (upd F p o) (upd H p o) :=
  ⟨Ext.new (e.none hp), fun a u h => by
    by_cases q : a = p
    · subst q; rw [upd_same] at h ⊢; exact h
    · rw [upd_ne q] at h ⊢; exact e a u h, Ext.new hp, fun a h1 h2 => by rw [upd_ne (fun q => h2 (by rw [q]; exact hp))]; exact h1, fun a ps h => by
    by_cases q : a = p
    · rw [q, upd_same] at h; exact absurd (Option.some.inj h) (ho ps)
    · rw [upd_ne q] at h; exact h⟩
/-- a new object that F does not tell -/
theorem Grw.lay0 {F H : Hp} {p : Addr} {o : HO} (e : Ext F H) (hp : H p = none) : Grw F H F (upd H p o) :=
  ⟨Ext.refl _, e.trans (Ext.new hp), Ext.new hp, fun _ h _ => h, fun _ _ h => h⟩

/-! ### tables of code objects: they may grow -/
class Tb (K : PySem.W.Frag) where
  T : List (Addr × Str)
/-- the tables stand, the ground tells none -/
structure TbOk (K : PySem.W.Frag) [Tb K] (F H : Hp) : Prop where
  tabs : LamX.Tabs (Tb.T K) H
  none : ∀ b ps, F b ≠ some (.tbl ps)
abbrev ExtN := LamX.ExtN
theorem Ext.n {H H' : Hp} (e : Ext H H') : ExtN H H' := LamX.ExtN.of e
/-- an object stands there, no table -/
def Lv (H : Hp) (a : Addr) : Prop := ∃ o, H a = some o ∧ ∀ ps, o ≠ .tbl ps
theorem Lv.up {H H' : Hp} {a : Addr} (h : Lv H a) (e : ExtN H H') : Lv H' a := let ⟨o, h1, h2⟩ := h; ⟨o, e a o h1 h2, h2⟩
theorem Lv.ne {H : Hp} {a : Addr} (h : Lv H a) : H a ≠ none := let ⟨o, h1, _⟩ := h; by rw [h1]; simp
abbrev Off (B : Hp) (p : Addr) : Prop := ¬ Lv B p
theorem Off.new {B H : Hp} {p : Addr} (e : ExtN B H) (h : H p = none) : Off B p := fun l => (l.up e).ne h
theorem Lv.lst {H : Hp} {a : Addr} {xs : List V} (h : H a = some (.lst xs)) : Lv H a := ⟨_, h, fun _ z => by cases z⟩
/-- the heap has grown, the tables too -/
structure GrwT (K : PySem.W.Frag) [Tb K] (F H F' H' : Hp) : Prop where
  ff : Ext F F'
  fh : Ext F' H'
  hh : ExtN H H'
  new : ∀ a, F a = none → Lv H a → F' a = none
  tab : TbOk K F' H'
section
variable {K : PySem.W.Frag} [Tb K] {F H F' H' : Hp}
theorem TbOk.grow (t : TbOk K F H) (w : Grw F H F' H') : TbOk K F' H' := ⟨t.tabs.ext w.hh, fun b ps h => t.none b ps (w.nt b ps h)⟩
theorem Grw.t (w : Grw F H F' H') (t : TbOk K F H) : GrwT K F H F' H' := ⟨w.ff, w.fh, w.hh.n, fun a h1 h2 => w.new a h1 h2.ne, t.grow w⟩
theorem GrwT.refl (e : Ext F H) (t : TbOk K F H) : GrwT K F H F H := ⟨Ext.refl _, e, LamX.ExtN.refl _, fun _ h _ => h, t⟩
/-- a list may be changed -/
theorem TbOk.lst {p : Addr} {xs ys : List V} (t : TbOk K F H) (hp : H p = some (.lst xs)) : TbOk K F (upd H p (.lst ys)) := by
  refine ⟨fun q hq => ?_, t.none⟩
  obtain ⟨ps, h1, h2, h3⟩ := t.tabs q hq
  refine ⟨ps, by rw [upd_ne (fun z => by rw [z, hp] at h1; cases h1)]; exact h1, h2, fun pos cv hc => ?_⟩
  obtain ⟨c, e1, e2⟩ := h3 pos cv hc
  exact ⟨c, e1, by rw [upd_ne (fun z => by rw [z, hp] at e2; unfold LamX.CodeO at e2; cases e2)]; exact e2⟩
/-- what is no more changed is told -/
theorem TbOk.say {p : Addr} {o : HO} (t : TbOk K F H) (ho : ∀ ps, o ≠ .tbl ps := by intro _ z; cases z) : TbOk K (upd F p o) H := ⟨t.tabs, fun b ps h => by
  by_cases q : b = p
  · rw [q, upd_same] at h; exact ho ps (Option.some.inj h)
  · rw [upd_ne q] at h; exact t.none b ps h⟩
end

/-! ### frames of data -/
inductive Sl where
  | un | dat (d : D) | own (par : Bool) (ds : List D)
abbrev DEnv := List Sl
structure Gr where
  B : Hp
  F0 : Hp
  pin : Option Addr
structure Gud (K : PySem.W.Frag) [Tb K] (G : Gr) (F H : Hp) (σ : L2.St) (ρ : DEnv) : Prop where
  len : σ.length = ρ.length
  f0 : Ext G.F0 F
  ff : Ext F H
  bb : ExtN G.B H
  tab : TbOk K F H
  new : ∀ a, G.F0 a = none → Lv G.B a → F a = none
  dat : ∀ (i : Nat) (d : D), ρ[i]? = some (.dat d) → ∃ v, σ[i]? = some (some v) ∧ Rep K F d v
  own : ∀ (i : Nat) (b : Bool) (ds : List D), ρ[i]? = some (.own b ds) → ∃ p xs, σ[i]? = some (some (.ref p)) ∧ H p = some (.lst xs) ∧ xs.length ≤ sizeLine ∧ RepL K F ds xs ∧ F p = none ∧ Off G.B p ∧ (b = true → G.pin = some p)
  dis : ∀ (i j : Nat) (b c : Bool) (ds es : List D) (p : Addr), i ≠ j → ρ[i]? = some (.own b ds) → ρ[j]? = some (.own c es) → σ[i]? = some (some (.ref p)) → σ[j]? ≠ some (some (.ref p))
section
variable {K : PySem.W.Frag} [Tb K] {G : Gr} {F H F' H' : Hp} {σ : L2.St} {ρ : DEnv}
theorem Gud.growT (g : Gud K G F H σ ρ) (w : GrwT K F H F' H') : Gud K G F' H' σ ρ where
  len := g.len
  f0 := g.f0.trans w.ff
  ff := w.fh
  bb := g.bb.trans w.hh
  tab := w.tab
  new := fun a h1 h2 => w.new a (g.new a h1 h2) (h2.up g.bb)
  dat := fun i d e => let ⟨v, h1, h2⟩ := g.dat i d e; ⟨v, h1, h2.up w.ff⟩
  own := fun i b ds e => let ⟨p, xs, h1, h2, h3, h4, h5, h6, h7⟩ := g.own i b ds e
    ⟨p, xs, h1, w.hh _ _ h2 (fun _ z => by cases z), h3, h4.up w.ff, w.new p h5 (.lst h2), h6, h7⟩
  dis := g.dis
theorem Gud.grow (g : Gud K G F H σ ρ) (w : Grw F H F' H') : Gud K G F' H' σ ρ := g.growT (w.t g.tab)
theorem getElem_set_cases {α : Type} {l : List α} {i j : Nat} {x y : α} (h : (l.set i x)[j]? = some y) : (j = i ∧ y = x) ∨ (j ≠ i ∧ l[j]? = some y) := by
  by_cases q : i = j
  · subst q
    by_cases hl : i < l.length
    · rw [List.getElem?_set_self hl] at h; exact .inl ⟨rfl, (Option.some.inj h).symm⟩
    · rw [List.getElem?_eq_none (by simpa using Nat.le_of_not_lt hl)] at h; cases h
  · rw [List.getElem?_set_ne q] at h; exact .inr ⟨fun z => q z.symm, h⟩
/-- data into a slot -/
theorem Gud.setDat (g : Gud K G F H σ ρ) {i : Nat} {d : D} {v : V} (hi : i < ρ.length) (r : Rep K F d v) : Gud K G F H (σ.set i (some v)) (ρ.set i (.dat d)) where
  len := by simp [g.len]
  f0 := g.f0
  ff := g.ff
  bb := g.bb
  tab := g.tab
  new := g.new
  dat := fun j e h => by
    rcases getElem_set_cases h with ⟨rfl, q⟩ | ⟨ne, q⟩
    · cases q; exact ⟨v, by rw [List.getElem?_set_self (by rw [g.len]; exact hi)], r⟩
    · rw [List.getElem?_set_ne (Ne.symm ne)]; exact g.dat j e q
  own := fun j b es h => by
    rcases getElem_set_cases h with ⟨rfl, q⟩ | ⟨ne, q⟩
    · cases q
    · rw [List.getElem?_set_ne (Ne.symm ne)]; exact g.own j b es q
  dis := fun j k b c ds es p ne h1 h2 => by
    rcases getElem_set_cases h1 with ⟨rfl, q⟩ | ⟨n1, q1⟩
    · cases q
    · rcases getElem_set_cases h2 with ⟨rfl, q⟩ | ⟨n2, q2⟩
      · cases q
      · rw [List.getElem?_set_ne (Ne.symm n1), List.getElem?_set_ne (Ne.symm n2)]; exact g.dis j k b c ds es p ne q1 q2
/-- a new list into a slot -/
theorem Gud.setOwn (g : Gud K G F H σ ρ) {i : Nat} {ds : List D} {p : Addr} {xs : List V} (hi : i < ρ.length) (hp : H p = some (.lst xs)) (hz : xs.length ≤ sizeLine) (r : RepL K F ds xs) (hF : F p = none) (hB : Off G.B p)
    (ho : ∀ (j : Nat) (b : Bool) (es : List D), ρ[j]? = some (.own b es) → σ[j]? ≠ some (some (.ref p))) : Gud K G F H (σ.set i (some (.ref p))) (ρ.set i (.own false ds)) where
  len := by simp [g.len]
  f0 := g.f0
  ff := g.ff
  bb := g.bb
  tab := g.tab
  new := g.new
  dat := fun j e h => by
    rcases getElem_set_cases h with ⟨rfl, q⟩ | ⟨ne, q⟩
    · cases q
    · rw [List.getElem?_set_ne (Ne.symm ne)]; exact g.dat j e q
  own := fun j b es h => by
    rcases getElem_set_cases h with ⟨rfl, q⟩ | ⟨ne, q⟩
    · cases q; exact ⟨p, xs, by rw [List.getElem?_set_self (by rw [g.len]; exact hi)], hp, hz, r, hF, hB, fun z => by cases z⟩
    · rw [List.getElem?_set_ne (Ne.symm ne)]; exact g.own j b es q
  dis := fun j k b c es fs q ne h1 h2 => by
    rcases getElem_set_cases h1 with ⟨rfl, z⟩ | ⟨n1, q1⟩
    · rcases getElem_set_cases h2 with ⟨e, _⟩ | ⟨n2, q2⟩
      · exact absurd e.symm ne
      · rw [List.getElem?_set_self (by rw [g.len]; exact hi), List.getElem?_set_ne (Ne.symm n2)]
        intro e; cases e; exact ho k c fs q2
    · rcases getElem_set_cases h2 with ⟨rfl, z⟩ | ⟨n2, q2⟩
      · rw [List.getElem?_set_self (by rw [g.len]; exact hi), List.getElem?_set_ne (Ne.symm n1)]
        intro e z; cases z; exact ho j b es q1 e
      · rw [List.getElem?_set_ne (Ne.symm n1), List.getElem?_set_ne (Ne.symm n2)]; exact g.dis j k b c es fs q ne q1 q2
/-- the list of a slot is no more changed -/
theorem Gud.freeze (g : Gud K G F H σ ρ) {i : Nat} {b : Bool} {ds : List D} {p : Addr} {xs : List V} (h : ρ[i]? = some (.own b ds)) (hs : σ[i]? = some (some (.ref p))) (hp : H p = some (.lst xs)) :
    Gud K G (upd F p (.lst xs)) H σ (ρ.set i (.dat (.lst ds))) ∧ Ext F (upd F p (.lst xs)) ∧ Rep K (upd F p (.lst xs)) (.lst ds) (.ref p) := by
  obtain ⟨p', xs', h1, h2, h3, h4, h5, h6, h7⟩ := g.own i b ds h
  rw [hs] at h1; cases h1
  rw [hp] at h2; cases h2
  have e : Ext F (upd F p (.lst xs)) := Ext.new h5
  have r : Rep K (upd F p (.lst xs)) (.lst ds) (.ref p) := .lst upd_same h3 (h4.up e)
  refine ⟨⟨by simp [g.len], g.f0.trans e, fun a o q => ?_, g.bb, g.tab.say, fun a q1 q2 => ?_, fun j d q => ?_, fun j c es q => ?_, fun j k c c' es fs p' ne q1 q2 => ?_⟩, e, r⟩
  · by_cases z : a = p
    · subst z; rw [upd_same] at q; cases q; exact hp
    · rw [upd_ne z] at q; exact g.ff a o q
  · by_cases z : a = p
    · subst z; exact absurd q2 h6
    · rw [upd_ne z]; exact g.new a q1 q2
  · rcases getElem_set_cases q with ⟨rfl, z⟩ | ⟨ne, z⟩
    · cases z; exact ⟨_, hs, r⟩
    · obtain ⟨v, a1, a2⟩ := g.dat j d z; exact ⟨v, a1, a2.up e⟩
  · rcases getElem_set_cases q with ⟨rfl, z⟩ | ⟨ne, z⟩
    · cases z
    · obtain ⟨p2, ys, a1, a2, a3, a4, a5, a6, a7⟩ := g.own j c es z
      have np : p2 ≠ p := fun w => by subst w; exact g.dis j i c b es ds p2 ne z h a1 hs
      exact ⟨p2, ys, a1, a2, a3, a4.up e, by rw [upd_ne np]; exact a5, a6, a7⟩
  · rcases getElem_set_cases q1 with ⟨rfl, z⟩ | ⟨n1, z1⟩
    · cases z
    · rcases getElem_set_cases q2 with ⟨rfl, z⟩ | ⟨n2, z2⟩
      · cases z
      · exact g.dis j k c c' es fs p' ne z1 z2
/-- the list of a slot is changed -/
theorem Gud.write (g : Gud K G F H σ ρ) {i : Nat} {b : Bool} {ds es : List D} {p : Addr} {ys : List V} (h : ρ[i]? = some (.own b ds)) (hs : σ[i]? = some (some (.ref p))) (hz : ys.length ≤ sizeLine) (r : RepL K F es ys) :
    Gud K G F (upd H p (.lst ys)) σ (ρ.set i (.own b es)) := by
  obtain ⟨p', xs', h1, h2, h3, h4, h5, h6, h7⟩ := g.own i b ds h
  rw [hs] at h1; cases h1
  refine ⟨by simp [g.len], g.f0, fun a o q => ?_, fun a o q n => ?_, g.tab.lst h2, g.new, fun j d q => ?_, fun j c fs q => ?_, fun j k c c' fs gs p' ne q1 q2 => ?_⟩
  · rw [upd_ne (fun z => by subst z; rw [h5] at q; cases q)]; exact g.ff a o q
  · rw [upd_ne (fun z => by subst z; exact h6 ⟨o, q, n⟩)]; exact g.bb a o q n
  · rcases getElem_set_cases q with ⟨rfl, z⟩ | ⟨ne, z⟩
    · cases z
    · exact g.dat j d z
  · rcases getElem_set_cases q with ⟨rfl, z⟩ | ⟨ne, z⟩
    · cases z; exact ⟨p, ys, hs, upd_same, hz, r, h5, h6, h7⟩
    · obtain ⟨p2, zs, a1, a2, a3, a4, a5, a6, a7⟩ := g.own j c fs z
      have np : p2 ≠ p := fun w => by subst w; exact g.dis j i c b fs ds p2 ne z h a1 hs
      exact ⟨p2, zs, a1, by rw [upd_ne np]; exact a2, a3, a4, a5, a6, a7⟩
  · have old : ∀ {j : Nat} {c : Bool} {fs : List D}, (ρ.set i (.own b es))[j]? = some (.own c fs) → ∃ c fs, ρ[j]? = some (.own c fs) := fun {j c fs} q => by
      rcases getElem_set_cases q with ⟨rfl, z⟩ | ⟨_, z⟩
      · exact ⟨_, _, h⟩
      · exact ⟨_, _, z⟩
    obtain ⟨_, _, o1⟩ := old q1
    obtain ⟨_, _, o2⟩ := old q2
    exact g.dis j k _ _ _ _ p' ne o1 o2
end
end Pm

set_option Elab.async false
set_option linter.all false
set_option maxRecDepth 100000
set_option maxHeartbeats 2000000
/-! Pm2: code as functions of data: expressions, tests, arguments, targets, statements. -/
namespace Pm
open PySem PySem.Spec PyProof.Rows L2

/-- what a run comes to: nothing said; a value; an exception of the class n with its fields -/
inductive Rs (α : Type) where
  | bad | ok (a : α) (ρ : DEnv) | exc (n : Str) (o : Option (List Str × List D)) (ρ : DEnv)
def Rs.bind {α β : Type} (r : Rs α) (f : α → DEnv → Rs β) : Rs β := match r with
  | .bad => .bad
  | .ok a ρ => f a ρ
  | .exc n o ρ => .exc n o ρ
inductive Vl where
  | dat (d : D) | own (i : Nat)
inductive Flo where
  | nx | rt (d : D) | bk | ct
abbrev EM := DEnv → Rs Vl
abbrev NM := DEnv → Rs (List D)
abbrev TM := DEnv → Rs Bool
abbrev AM := DEnv → Rs (List Vl)
abbrev SM := DEnv → Rs Flo
abbrev GM := D → DEnv → Rs Unit

def XRep (K : PySem.W.Frag) (F H : Hp) : Option (List Str × List D) → Option Addr → Prop
  | none, dx => dx = none
  | some (ns, ds), dx => ∃ d fs, dx = some d ∧ H d = some (.xd fs) ∧ fs.map (·.1) = ns ∧ RepL K F ds (fs.map (·.2))

def Fin {α : Type} (K : PySem.W.Frag) [Tb K] (G : Gr) (F : Hp) (W : WX) (σ : L2.St) (r : Rs α) (P : α → DEnv → Hp → Hp → Prop) : Prop := match r with
  | .bad => False
  | .ok a ρ' => ∀ F' H', Ext F F' → Gud K G F' H' σ ρ' → P a ρ' F' H'
  | .exc n o ρ' => ∀ dx F' H', Ext F F' → Gud K G F' H' σ ρ' → XRep K F' H' o dx → W (.ref (He.ga K n)) dx σ H'
section
variable {K : PySem.W.Frag} [Tb K] {G : Gr} {F F' H H' : Hp} {W : WX} {σ : L2.St} {ρ : DEnv} {α β : Type}
theorem Fin.up {r : Rs α} {P : α → DEnv → Hp → Hp → Prop} (h : Fin K G F W σ r P) (e : Ext F F') : Fin K G F' W σ r P := by
  cases r with
  | bad => exact h
  | ok a ρ' => exact fun F1 H1 e1 g => h F1 H1 (e.trans e1) g
  | exc n o ρ' => exact fun dx F1 H1 e1 g x => h dx F1 H1 (e.trans e1) g x
theorem Fin.imp {r : Rs α} {P P' : α → DEnv → Hp → Hp → Prop} (h : Fin K G F W σ r P) (q : ∀ a ρ' F1 H1, Ext F F1 → Gud K G F1 H1 σ ρ' → P a ρ' F1 H1 → P' a ρ' F1 H1) : Fin K G F W σ r P' := by
  cases r with
  | bad => exact h
  | ok a ρ' => exact fun F1 H1 e1 g => q a ρ' F1 H1 e1 g (h F1 H1 e1 g)
  | exc n o ρ' => exact h
theorem Fin.bind {r : Rs α} {f : α → DEnv → Rs β} {P : β → DEnv → Hp → Hp → Prop} (h : Fin K G F W σ (r.bind f) P) : Fin K G F W σ r (fun a ρ' F1 H1 => Fin K G F1 W σ (f a ρ') P) := by
  cases r with
  | bad => exact h
  | ok a ρ' => exact fun F1 H1 e1 g => Fin.up (show Fin K G F W σ (f a ρ') P from h) e1
  | exc n o ρ' => exact h
end

def VlOk (K : PySem.W.Frag) (F : Hp) (σ : L2.St) : Vl → V → Prop
  | .dat d, v => Rep K F d v
  | .own i, v => σ[i]? = some (some v)
def VlsOk (K : PySem.W.Frag) (F : Hp) (σ : L2.St) : List Vl → List V → Prop
  | [], vs => vs = []
  | x :: xs, vs => ∃ v us, vs = v :: us ∧ VlOk K F σ x v ∧ VlsOk K F σ xs us
theorem VlOk.up {K : PySem.W.Frag} {F F' : Hp} {σ : L2.St} {x : Vl} {v : V} (h : VlOk K F σ x v) (e : Ext F F') : VlOk K F' σ x v := by
  cases x with
  | dat d => exact Rep.up (show Rep K F d v from h) e
  | own i => exact h
theorem VlsOk.up {K : PySem.W.Frag} {F F' : Hp} {σ : L2.St} : ∀ {xs : List Vl} {vs : List V}, VlsOk K F σ xs vs → Ext F F' → VlsOk K F' σ xs vs
  | [], _, h, _ => h
  | _ :: _, _, ⟨v, us, e1, h1, h2⟩, e => ⟨v, us, e1, h1.up e, VlsOk.up h2 e⟩
/-- the datum as it stands now -/
def look (ρ : DEnv) : Vl → Option D
  | .dat d => some d
  | .own i => match ρ[i]? with
    | some (.own _ ds) => some (.lst ds)
    | some (.dat d) => some d
    | _ => none
def looks (ρ : DEnv) : List Vl → Option (List D)
  | [] => some []
  | x :: xs => match look ρ x, looks ρ xs with
    | some d, some ds => some (d :: ds)
    | _, _ => none
/-- the datum, no more changed from here on -/
def frz (ρ : DEnv) : Vl → Option (D × DEnv)
  | .dat d => some (d, ρ)
  | .own i => match ρ[i]? with
    | some (.own _ ds) => some (.lst ds, ρ.set i (.dat (.lst ds)))
    | some (.dat d) => some (d, ρ)
    | _ => none
def frzL (ρ : DEnv) : List Vl → Option (List D × DEnv)
  | [] => some ([], ρ)
  | x :: xs => match frz ρ x with
    | some (d, ρ1) => (match frzL ρ1 xs with
      | some (ds, ρ2) => some (d :: ds, ρ2)
      | none => none)
    | none => none
/-- a list that may still be changed is read too -/
def ROk (K : PySem.W.Frag) (F H : Hp) (d : D) (v : V) : Prop := match d with
  | .lst ds => ∃ p xs, v = .ref p ∧ H p = some (.lst xs) ∧ xs.length ≤ sizeLine ∧ RepL K F ds xs
  | d => Rep K F d v
theorem ROk.of {K : PySem.W.Frag} {F H : Hp} (e : Ext F H) {d : D} {v : V} (h : Rep K F d v) : ROk K F H d v := by
  cases d with
  | lst ds => cases h with | lst a b c => exact ⟨_, _, rfl, e _ _ a, b, c⟩
  | _ => exact h
inductive ROkL (K : PySem.W.Frag) (F H : Hp) : List D → List V → Prop
  | nil : ROkL K F H [] []
  | cons {d : D} {ds : List D} {v : V} {vs : List V} : ROk K F H d v → ROkL K F H ds vs → ROkL K F H (d :: ds) (v :: vs)
section
variable {K : PySem.W.Frag} [Tb K] {G : Gr} {F F' H H' : Hp} {W : WX} {σ : L2.St} {ρ : DEnv}
theorem look_ok (g : Gud K G F H σ ρ) {x : Vl} {v : V} {d : D} (h : VlOk K F σ x v) (l : look ρ x = some d) : ROk K F H d v := by
  cases x with
  | dat e => cases l; exact ROk.of g.ff h
  | own i =>
    have h' : σ[i]? = some (some v) := h
    simp only [look] at l
    cases q : ρ[i]? with
    | none => rw [q] at l; cases l
    | some s =>
      rw [q] at l
      cases s with
      | un => cases l
      | dat e =>
        cases l
        obtain ⟨v', h1, h2⟩ := g.dat i _ q
        rw [h'] at h1; cases h1
        exact ROk.of g.ff h2
      | own b ds =>
        cases l
        obtain ⟨p, xs, h1, h2, h3, h4, _⟩ := g.own i b ds q
        rw [h'] at h1; cases h1
        exact ⟨p, xs, rfl, h2, h3, h4⟩
theorem looks_ok (g : Gud K G F H σ ρ) : ∀ {xs : List Vl} {vs : List V} {ds : List D}, VlsOk K F σ xs vs → looks ρ xs = some ds → ROkL K F H ds vs
  | [], _, _, h, l => by cases l; cases h; exact .nil
  | x :: xs, _, ds, ⟨v, us, e1, h1, h2⟩, l => by
    subst e1
    unfold looks at l
    cases q : look ρ x with
    | none => rw [q] at l; cases l
    | some d =>
      cases q2 : looks ρ xs with
      | none => rw [q, q2] at l; cases l
      | some es =>
        rw [q, q2] at l; cases l
        exact .cons (look_ok g h1 q) (looks_ok g h2 q2)
theorem frz_ok (g : Gud K G F H σ ρ) {x : Vl} {v : V} {d : D} {ρ' : DEnv} (h : VlOk K F σ x v) (l : frz ρ x = some (d, ρ')) : ∃ F', Ext F F' ∧ Gud K G F' H σ ρ' ∧ Rep K F' d v := by
  cases x with
  | dat e => cases l; exact ⟨F, Ext.refl _, g, h⟩
  | own i =>
    have h' : σ[i]? = some (some v) := h
    simp only [frz] at l
    cases q : ρ[i]? with
    | none => rw [q] at l; cases l
    | some s =>
      rw [q] at l
      cases s with
      | un => cases l
      | dat e =>
        cases l
        obtain ⟨v', h1, h2⟩ := g.dat i _ q
        rw [h'] at h1; cases h1
        exact ⟨F, Ext.refl _, g, h2⟩
      | own b ds =>
        cases l
        obtain ⟨p, xs, h1, h2, h3, h4, _⟩ := g.own i b ds q
        rw [h'] at h1; cases h1
        obtain ⟨a1, a2, a3⟩ := g.freeze q h' h2
        exact ⟨_, a2, a1, a3⟩
theorem frzL_ok : ∀ {xs : List Vl} {vs : List V} {ds : List D} {F : Hp} {ρ ρ' : DEnv}, Gud K G F H σ ρ → VlsOk K F σ xs vs → frzL ρ xs = some (ds, ρ') → ∃ F', Ext F F' ∧ Gud K G F' H σ ρ' ∧ RepL K F' ds vs
  | [], _, _, F, _, _, g, h, l => by cases l; cases h; exact ⟨F, Ext.refl _, g, .nil⟩
  | x :: xs, _, ds, F, ρ, ρ', g, ⟨v, us, e1, h1, h2⟩, l => by
    subst e1
    unfold frzL at l
    cases q : frz ρ x with
    | none => rw [q] at l; cases l
    | some p =>
      obtain ⟨d, ρ1⟩ := p
      rw [q] at l
      cases q2 : frzL ρ1 xs with
      | none => simp only [q2] at l; cases l
      | some p2 =>
        obtain ⟨es, ρ2⟩ := p2
        simp only [q2] at l; cases l
        obtain ⟨F1, a1, a2, a3⟩ := frz_ok g h1 q
        obtain ⟨F2, b1, b2, b3⟩ := frzL_ok a2 (h2.up a1) q2
        exact ⟨F2, a1.trans b1, b2, .cons (a3.up b1) b3⟩
end

/-! ### the readings -/
def RdE (K : PySem.W.Frag) [Tb K] (W : WX) (t : TE) (m : EM) : Prop := ∀ (G : Gr) (F H : Hp) (σ : L2.St) (ρ : DEnv) (Q : VK), Gud K G F H σ ρ →
  Fin K G F W σ (m ρ) (fun x _ F' H' => ∀ v, VlOk K F' σ x v → Q v H') → t σ H Q
/-- a new list, nobody else's -/
def RdN (K : PySem.W.Frag) [Tb K] (W : WX) (t : TE) (m : NM) : Prop := ∀ (G : Gr) (F H : Hp) (σ : L2.St) (ρ : DEnv) (Q : VK), Gud K G F H σ ρ →
  Fin K G F W σ (m ρ) (fun ds ρ' F' H' => ∀ p xs, H' p = some (.lst xs) → xs.length ≤ sizeLine → RepL K F' ds xs → F' p = none → Off G.B p → (∀ (j : Nat) (b : Bool) (es : List D), ρ'[j]? = some (.own b es) → σ[j]? ≠ some (some (.ref p))) → Q (.ref p) H') → t σ H Q
def RdT (K : PySem.W.Frag) [Tb K] (W : WX) (t : TT) (m : TM) : Prop := ∀ (G : Gr) (F H : Hp) (σ : L2.St) (ρ : DEnv) (Q : Bool → Hp → Prop), Gud K G F H σ ρ →
  Fin K G F W σ (m ρ) (fun b _ _ H' => Q b H') → t σ H Q
def RdA (K : PySem.W.Frag) [Tb K] (W : WX) (t : TA) (m : AM) : Prop := ∀ (G : Gr) (F H : Hp) (σ : L2.St) (ρ : DEnv) (Q : List V → Hp → Prop), Gud K G F H σ ρ →
  Fin K G F W σ (m ρ) (fun xs _ F' H' => ∀ vs, VlsOk K F' σ xs vs → Q vs H') → t σ H Q
def FinG (K : PySem.W.Frag) [Tb K] (G : Gr) (F : Hp) (r : Rs Unit) (P : L2.St → DEnv → Hp → Hp → Prop) : Prop := match r with
  | .ok _ ρ' => ∀ σ' F' H', Ext F F' → Gud K G F' H' σ' ρ' → P σ' ρ' F' H'
  | _ => False
/-- the slots js alone are stored -/
def But (js : List Nat) (σ σ' : L2.St) : Prop := σ'.length = σ.length ∧ ∀ k, k ∉ js → σ'[k]? = σ[k]?
def RdG (K : PySem.W.Frag) [Tb K] (js : List Nat) (t : TG) (m : GM) : Prop := ∀ (G : Gr) (F H : Hp) (σ : L2.St) (ρ : DEnv) (d : D) (v : V) (Q : L2.St → Hp → Prop), Gud K G F H σ ρ → Rep K F d v →
  FinG K G F (m d ρ) (fun σ' _ _ H' => But js σ σ' → Q σ' H') → t v σ H Q
def RdGs (K : PySem.W.Frag) [Tb K] (js : List Nat) (t : TGs) (m : List D → DEnv → Rs Unit) : Prop := ∀ (G : Gr) (F H : Hp) (σ : L2.St) (ρ : DEnv) (ds : List D) (vs : List V) (Q : L2.St → Hp → Prop), Gud K G F H σ ρ → RepL K F ds vs →
  FinG K G F (m ds ρ) (fun σ' _ _ H' => But js σ σ' → Q σ' H') → t vs σ H Q
def FloK (K : PySem.W.Frag) (F : Hp) (D : Ends) (σ : L2.St) (H : Hp) : Flo → Prop
  | .nx => D.nx σ H
  | .rt d => ∀ v, Rep K F d v → D.rt v H
  | .bk => D.bk σ H
  | .ct => D.ct σ H
def FinS (K : PySem.W.Frag) [Tb K] (G : Gr) (F : Hp) (W : WX) (r : Rs Flo) (D : Ends) : Prop := match r with
  | .bad => False
  | .ok fl ρ' => ∀ σ' F' H', Ext F F' → Gud K G F' H' σ' ρ' → FloK K F' D σ' H' fl
  | .exc n o ρ' => ∀ σ' dx F' H', Ext F F' → Gud K G F' H' σ' ρ' → XRep K F' H' o dx → W (.ref (He.ga K n)) dx σ' H'
def RdS (K : PySem.W.Frag) [Tb K] (W : WX) (t : TS) (m : SM) : Prop := ∀ (G : Gr) (F H : Hp) (σ : L2.St) (ρ : DEnv) (D : Ends), Gud K G F H σ ρ → FinS K G F W (m ρ) D → t D σ H
theorem FinS.up {K : PySem.W.Frag} [Tb K] {G : Gr} {F F' : Hp} {W : WX} {r : Rs Flo} {D : Ends} (h : FinS K G F W r D) (e : Ext F F') : FinS K G F' W r D := by
  cases r with
  | bad => exact h
  | ok a ρ' => exact fun σ1 F1 H1 e1 g => h σ1 F1 H1 (e.trans e1) g
  | exc n o ρ' => exact fun σ1 dx F1 H1 e1 g x => h σ1 dx F1 H1 (e.trans e1) g x
theorem FinG.up {K : PySem.W.Frag} [Tb K] {G : Gr} {F F' : Hp} {r : Rs Unit} {P : L2.St → DEnv → Hp → Hp → Prop} (h : FinG K G F r P) (e : Ext F F') : FinG K G F' r P := by
  cases r with
  | ok a ρ' => exact fun σ1 F1 H1 e1 g => h σ1 F1 H1 (e.trans e1) g
  | _ => exact h
theorem FinG.imp {K : PySem.W.Frag} [Tb K] {G : Gr} {F : Hp} {r : Rs Unit} {P P' : L2.St → DEnv → Hp → Hp → Prop} (h : FinG K G F r P) (q : ∀ σ1 ρ1 F1 H1, Ext F F1 → Gud K G F1 H1 σ1 ρ1 → P σ1 ρ1 F1 H1 → P' σ1 ρ1 F1 H1) : FinG K G F r P' := by
  cases r with
  | ok a ρ' => exact fun σ1 F1 H1 e1 g => q σ1 ρ' F1 H1 e1 g (h σ1 F1 H1 e1 g)
  | _ => exact h

section
variable {K : PySem.W.Frag} [Tb K] {W : WX}
/-! ### expressions -/
def mVar (i : Nat) : EM := fun ρ => match ρ[i]? with
  | some (.dat d) => .ok (.dat d) ρ
  | some (.own _ _) => .ok (.own i) ρ
  | _ => .bad
theorem rd_var (i : Nat) : RdE K W (tVar i) (mVar i) := by
  intro G F H σ ρ Q g h
  unfold mVar at h
  cases q : ρ[i]? with
  | none => rw [q] at h; exact h.elim
  | some s =>
    rw [q] at h
    cases s with
    | un => exact h.elim
    | dat d =>
      obtain ⟨v, h1, h2⟩ := g.dat i d q
      exact ⟨v, h1, h F H (Ext.refl _) g v h2⟩
    | own b ds =>
      obtain ⟨p, xs, h1, _⟩ := g.own i b ds q
      exact ⟨_, h1, h F H (Ext.refl _) g _ h1⟩
def mC (d : D) : EM := fun ρ => .ok (.dat d) ρ
theorem rd_c {d : D} {v : V} (r : ∀ F, Rep K F d v) : RdE K W (tC v) (mC d) := fun G F H σ ρ Q g h => h F H (Ext.refl _) g v (r F)
/-- an operation upon data -/
def OpD (K : PySem.W.Frag) (r : R2) (f : D → D → Option D) : Prop := ∀ (F H : Hp) (d e : D) (x y : V) (z : D) (Q : VK), Ext F H → ROk K F H d x → ROk K F H e y → f d e = some z →
  (∀ v F' H', Grw F H F' H' → Rep K F' z v → Q v H') → r x y H Q
def OpD1 (K : PySem.W.Frag) (r : V → Hp → VK → Prop) (f : D → Option D) : Prop := ∀ (F H : Hp) (d : D) (x : V) (z : D) (Q : VK), Ext F H → ROk K F H d x → f d = some z →
  (∀ v F' H', Grw F H F' H' → Rep K F' z v → Q v H') → r x H Q
def CalD (K : PySem.W.Frag) (r : List V → Hp → VK → Prop) (f : List D → Option D) : Prop := ∀ (F H : Hp) (ds : List D) (vs : List V) (z : D) (Q : VK), Ext F H → ROkL K F H ds vs → f ds = some z →
  (∀ v F' H', Grw F H F' H' → Rep K F' z v → Q v H') → r vs H Q
def opt {α : Type} (o : Option α) (ρ : DEnv) : Rs α := match o with
  | some a => .ok a ρ
  | none => .bad
def mBin (f : D → D → Option D) (ma mb : EM) : EM := fun ρ => (ma ρ).bind fun x ρ1 => (mb ρ1).bind fun y ρ2 => (opt (look ρ2 x) ρ2).bind fun d _ => (opt (look ρ2 y) ρ2).bind fun e _ => (opt (f d e) ρ2).bind fun z _ => .ok (.dat z) ρ2
theorem fin_opt {α β : Type} {G : Gr} {F : Hp} {σ : L2.St} {o : Option α} {ρ : DEnv} {k : α → DEnv → Rs β} {P : β → DEnv → Hp → Hp → Prop} (h : Fin K G F W σ ((opt o ρ).bind k) P) : ∃ a, o = some a ∧ Fin K G F W σ (k a ρ) P := by
  cases o with
  | none => exact h.elim
  | some a => exact ⟨a, rfl, h⟩
theorem rd_bin {r : R2} {f : D → D → Option D} {ta tb : TE} {ma mb : EM} (o : OpD K r f) (ha : RdE K W ta ma) (hb : RdE K W tb mb) : RdE K W (tOp r ta tb) (mBin f ma mb) := by
  intro G F H σ ρ Q g h
  refine ha G F H σ ρ _ g (h.bind.imp fun x ρ1 F1 H1 e1 g1 h1 v hv => ?_)
  refine hb G F1 H1 σ ρ1 _ g1 (h1.bind.imp fun y ρ2 F2 H2 e2 g2 h2 u hu => ?_)
  obtain ⟨d, ed, h2⟩ := fin_opt h2
  obtain ⟨e, ee, h2⟩ := fin_opt h2
  obtain ⟨z, ez, h2⟩ := fin_opt h2
  exact o F2 H2 d e v u z _ g2.ff (look_ok g2 (hv.up e2) ed) (look_ok g2 hu ee) ez fun v' F' H' w rz => h2 F' H' w.ff (g2.grow w) v' rz
def mUn (f : D → Option D) (ma : EM) : EM := fun ρ => (ma ρ).bind fun x ρ1 => (opt (look ρ1 x) ρ1).bind fun d _ => (opt (f d) ρ1).bind fun z _ => .ok (.dat z) ρ1
theorem rd_un {r : V → Hp → VK → Prop} {f : D → Option D} {ta : TE} {ma : EM} (o : OpD1 K r f) (ha : RdE K W ta ma) : RdE K W (tUn r ta) (mUn f ma) := by
  intro G F H σ ρ Q g h
  refine ha G F H σ ρ _ g (h.bind.imp fun x ρ1 F1 H1 e1 g1 h1 v hv => ?_)
  obtain ⟨d, ed, h1⟩ := fin_opt h1
  obtain ⟨z, ez, h1⟩ := fin_opt h1
  exact o F1 H1 d v z _ g1.ff (look_ok g1 hv ed) ez fun v' F' H' w rz => h1 F' H' w.ff (g1.grow w) v' rz
/-! ### arguments -/
def mNil : AM := fun ρ => .ok [] ρ
def mCons (ma : EM) (mr : AM) : AM := fun ρ => (ma ρ).bind fun x ρ1 => (mr ρ1).bind fun xs ρ2 => .ok (x :: xs) ρ2
theorem rd_nil : RdA K W tNil mNil := fun G F H σ ρ Q g h => h F H (Ext.refl _) g [] rfl
theorem rd_cons {ta : TE} {tr : TA} {ma : EM} {mr : AM} (ha : RdE K W ta ma) (hr : RdA K W tr mr) : RdA K W (tCons ta tr) (mCons ma mr) := by
  intro G F H σ ρ Q g h
  refine ha G F H σ ρ _ g (h.bind.imp fun x ρ1 F1 H1 e1 g1 h1 v hv => ?_)
  refine hr G F1 H1 σ ρ1 _ g1 (h1.bind.imp fun xs ρ2 F2 H2 e2 g2 h2 vs hvs => ?_)
  exact h2 F2 H2 (Ext.refl _) g2 _ ⟨v, vs, rfl, hv.up e2, hvs⟩
def mCal (f : List D → Option D) (ma : AM) : EM := fun ρ => (ma ρ).bind fun xs ρ1 => (opt (looks ρ1 xs) ρ1).bind fun ds _ => (opt (f ds) ρ1).bind fun z _ => .ok (.dat z) ρ1
theorem rd_cal {r : List V → Hp → VK → Prop} {f : List D → Option D} {ta : TA} {ma : AM} (o : CalD K r f) (ha : RdA K W ta ma) : RdE K W (tCB r ta) (mCal f ma) := by
  intro G F H σ ρ Q g h
  refine ha G F H σ ρ _ g (h.bind.imp fun xs ρ1 F1 H1 e1 g1 h1 vs hv => ?_)
  obtain ⟨ds, ed, h1⟩ := fin_opt h1
  obtain ⟨z, ez, h1⟩ := fin_opt h1
  exact o F1 H1 ds vs z _ g1.ff (looks_ok g1 hv ed) ez fun v' F' H' w rz => h1 F' H' w.ff (g1.grow w) v' rz
/-! ### displays -/
def mTup (ma : AM) : EM := fun ρ => (ma ρ).bind fun xs ρ1 => (opt (frzL ρ1 xs) ρ1).bind fun p _ => if p.1.length ≤ 1000 then .ok (.dat (.tup p.1)) p.2 else .bad
theorem VlsOk.length {K : PySem.W.Frag} {F : Hp} {σ : L2.St} : ∀ {xs : List Vl} {vs : List V}, VlsOk K F σ xs vs → xs.length = vs.length
  | [], _, h => by cases h; rfl
  | x :: xs, _, ⟨v, us, e, _, h⟩ => by subst e; exact congrArg Nat.succ (VlsOk.length h)
theorem sz1000 {n : Nat} (h : n ≤ 1000) : n ≤ sizeLine := Nat.le_trans h (by decide)
theorem rd_tup {ta : TA} {ma : AM} (ha : RdA K W ta ma) : RdE K W (tTup ta) (mTup ma) := by
  intro G F H σ ρ Q g h
  refine ha G F H σ ρ _ g (h.bind.imp fun xs ρ1 F1 H1 e1 g1 h1 vs hv => ?_)
  obtain ⟨⟨ds, ρ2⟩, ed, h1⟩ := fin_opt h1
  obtain ⟨F2, a1, a2, a3⟩ := frzL_ok g1 hv ed
  by_cases hl : ds.length ≤ 1000
  · simp only [hl, if_true] at h1
    have hz : vs.length ≤ sizeLine := by rw [← a3.length]; exact sz1000 hl
    refine ⟨hz, fun p hp => ?_⟩
    have w : Grw F2 H1 (upd F2 p (.tup vs)) (upd H1 p (.tup vs)) := Grw.lay a2.ff hp
    exact h1 _ _ (a1.trans w.ff) (a2.grow w) _ (.tup (SqT.of upd_same) hz (a3.up w.ff))
  · simp only [hl, if_false] at h1
    exact h1.elim
def nLst (ma : AM) : NM := fun ρ => (ma ρ).bind fun xs ρ1 => (opt (frzL ρ1 xs) ρ1).bind fun p _ => if p.1.length ≤ 1000 then .ok p.1 p.2 else .bad
theorem Gud.fresh {G : Gr} {F H : Hp} {σ : L2.St} {ρ : DEnv} (g : Gud K G F H σ ρ) {p : Addr} {xs : List V} (hp : H p = none) (hz : xs.length ≤ sizeLine) :
    Gud K G F (upd H p (.lst xs)) σ ρ ∧ F p = none ∧ Off G.B p ∧ ∀ (j : Nat) (b : Bool) (es : List D), ρ[j]? = some (.own b es) → σ[j]? ≠ some (some (.ref p)) :=
  ⟨g.grow (Grw.lay0 g.ff hp), g.ff.none hp, Off.new g.bb hp, fun j b es q e => by
    obtain ⟨p', xs', h1, h2, _⟩ := g.own j b es q
    rw [e] at h1; cases h1
    rw [hp] at h2; cases h2⟩
theorem rdn_lst {ta : TA} {ma : AM} (ha : RdA K W ta ma) : RdN K W (tLst ta) (nLst ma) := by
  intro G F H σ ρ Q g h
  refine ha G F H σ ρ _ g (h.bind.imp fun xs ρ1 F1 H1 e1 g1 h1 vs hv => ?_)
  obtain ⟨⟨ds, ρ2⟩, ed, h1⟩ := fin_opt h1
  obtain ⟨F2, a1, a2, a3⟩ := frzL_ok g1 hv ed
  by_cases hl : ds.length ≤ 1000
  · simp only [hl, if_true] at h1
    have hz : vs.length ≤ sizeLine := by rw [← a3.length]; exact sz1000 hl
    refine ⟨hz, fun p hp => ?_⟩
    obtain ⟨b1, b2, b3, b4⟩ := a2.fresh (xs := vs) hp hz
    exact h1 F2 _ a1 b1 p vs upd_same hz a3 b2 b3 b4
  · simp only [hl, if_false] at h1
    exact h1.elim
/-- a new list as a datum -/
def mNew (mn : NM) : EM := fun ρ => (mn ρ).bind fun ds ρ1 => .ok (.dat (.lst ds)) ρ1
theorem rd_new {t : TE} {mn : NM} (h : RdN K W t mn) : RdE K W t (mNew mn) := by
  intro G F H σ ρ Q g q
  refine h G F H σ ρ _ g (q.bind.imp fun ds ρ1 F1 H1 e1 g1 h1 p xs hp hz hr hF hB ho => ?_)
  have e : Ext F1 (upd F1 p (.lst xs)) := Ext.new hF
  refine h1 (upd F1 p (.lst xs)) H1 e ⟨g1.len, g1.f0.trans e, fun a o z => ?_, g1.bb, g1.tab.say, fun a z1 z2 => ?_, fun j d z => ?_, fun j b es z => ?_, g1.dis⟩ _ (.lst upd_same hz (hr.up e))
  · by_cases y : a = p
    · subst y; rw [upd_same] at z; cases z; exact hp
    · rw [upd_ne y] at z; exact g1.ff a o z
  · rw [upd_ne (fun y => hB (by rw [← y]; exact z2))]; exact g1.new a z1 z2
  · obtain ⟨v, a1, a2⟩ := g1.dat j d z; exact ⟨v, a1, a2.up e⟩
  · obtain ⟨p2, ys, a1, a2, a3, a4, a5, a6, a7⟩ := g1.own j b es z
    exact ⟨p2, ys, a1, a2, a3, a4.up e, by rw [upd_ne (fun y => ho j b es z (by rw [a1, y]))]; exact a5, a6, a7⟩
/-! ### tests -/
def bOf (d : D) : Option Bool := match d with
  | .bl b => some b
  | _ => none
def mTst (ma : EM) : TM := fun ρ => (ma ρ).bind fun x ρ1 => (opt ((look ρ1 x).bind bOf) ρ1).bind fun b _ => .ok b ρ1
theorem bOf_ok {F H : Hp} {d : D} {v : V} {b : Bool} (h : ROk K F H d v) (e : bOf d = some b) : v = .bl b := by
  cases d <;> cases e
  cases h; rfl
theorem rd_tst {ta : TE} {ma : EM} (ha : RdE K W ta ma) : RdT K W (tTest ta) (mTst ma) := by
  intro G F H σ ρ Q g h
  refine ha G F H σ ρ _ g (h.bind.imp fun x ρ1 F1 H1 e1 g1 h1 v hv => ?_)
  obtain ⟨b, eb, h1⟩ := fin_opt h1
  obtain ⟨d, ed, eb⟩ := Option.bind_eq_some_iff.mp eb
  exact ⟨b, bOf_ok (look_ok g1 hv ed) eb, h1 F1 H1 (Ext.refl _) g1⟩
theorem rd_tB {ta : TE} {ma : EM} (ha : RdE K W ta ma) : RdT K W (tB ta) (mTst ma) := rd_tst ha
def mAnd (ta tb : TM) : TM := fun ρ => (ta ρ).bind fun b ρ1 => if b then tb ρ1 else .ok false ρ1
def mOr (ta tb : TM) : TM := fun ρ => (ta ρ).bind fun b ρ1 => if b then .ok true ρ1 else tb ρ1
def mNot (ta : TM) : TM := fun ρ => (ta ρ).bind fun b ρ1 => .ok (!b) ρ1
theorem rd_and {t u : TT} {ma mb : TM} (ha : RdT K W t ma) (hb : RdT K W u mb) : RdT K W (tAnd t u) (mAnd ma mb) := by
  intro G F H σ ρ Q g h
  refine ha G F H σ ρ _ g (h.bind.imp fun b ρ1 F1 H1 e1 g1 h1 => ?_)
  cases b with
  | true => exact hb G F1 H1 σ ρ1 _ g1 h1
  | false => exact h1 F1 H1 (Ext.refl _) g1
theorem rd_or {t u : TT} {ma mb : TM} (ha : RdT K W t ma) (hb : RdT K W u mb) : RdT K W (tOr t u) (mOr ma mb) := by
  intro G F H σ ρ Q g h
  refine ha G F H σ ρ _ g (h.bind.imp fun b ρ1 F1 H1 e1 g1 h1 => ?_)
  cases b with
  | false => exact hb G F1 H1 σ ρ1 _ g1 h1
  | true => exact h1 F1 H1 (Ext.refl _) g1
theorem rd_not {t : TT} {ma : TM} (ha : RdT K W t ma) : RdT K W (tNot t) (mNot ma) := by
  intro G F H σ ρ Q g h
  exact ha G F H σ ρ _ g (h.bind.imp fun b ρ1 F1 H1 e1 g1 h1 => h1 F1 H1 (Ext.refl _) g1)
/-- values that are bools -/
def mBl (t : TM) : EM := fun ρ => (t ρ).bind fun b ρ1 => .ok (.dat (.bl b)) ρ1
def mAndV (ma mb : EM) : EM := fun ρ => (mTst ma ρ).bind fun b ρ1 => if b then mb ρ1 else .ok (.dat (.bl false)) ρ1
def mOrV (ma mb : EM) : EM := fun ρ => (mTst ma ρ).bind fun b ρ1 => if b then .ok (.dat (.bl true)) ρ1 else mb ρ1
def mNotV (ma : EM) : EM := fun ρ => (mTst ma ρ).bind fun b ρ1 => .ok (.dat (.bl (!b))) ρ1
theorem rd_andV {ta tb : TE} {ma mb : EM} (ha : RdE K W ta ma) (hb : RdE K W tb mb) : RdE K W (tAndV ta tb) (mAndV ma mb) := by
  intro G F H σ ρ Q g h
  refine rd_tst ha G F H σ ρ (fun b H1 => if b = true then tb σ H1 Q else Q (.bl false) H1) g (h.bind.imp fun b ρ1 F1 H1 e1 g1 h1 => ?_)
  cases b with
  | true => exact hb G F1 H1 σ ρ1 _ g1 h1
  | false => exact h1 F1 H1 (Ext.refl _) g1 _ (.bl false)
theorem rd_orV {ta tb : TE} {ma mb : EM} (ha : RdE K W ta ma) (hb : RdE K W tb mb) : RdE K W (tOrV ta tb) (mOrV ma mb) := by
  intro G F H σ ρ Q g h
  refine rd_tst ha G F H σ ρ (fun b H1 => if b = true then Q (.bl true) H1 else tb σ H1 Q) g (h.bind.imp fun b ρ1 F1 H1 e1 g1 h1 => ?_)
  cases b with
  | false => exact hb G F1 H1 σ ρ1 _ g1 h1
  | true => exact h1 F1 H1 (Ext.refl _) g1 _ (.bl true)
theorem rd_notV {ta : TE} {ma : EM} (ha : RdE K W ta ma) : RdE K W (tNotV ta) (mNotV ma) := by
  intro G F H σ ρ Q g h
  exact rd_tst ha G F H σ ρ (fun b H1 => Q (.bl (!b)) H1) g (h.bind.imp fun b ρ1 F1 H1 e1 g1 h1 => h1 F1 H1 (Ext.refl _) g1 _ (.bl _))
def mIfE (t : TM) (ma mb : EM) : EM := fun ρ => (t ρ).bind fun b ρ1 => if b then ma ρ1 else mb ρ1
theorem rd_ifE {t : TT} {ta tb : TE} {mt : TM} {ma mb : EM} (ht : RdT K W t mt) (ha : RdE K W ta ma) (hb : RdE K W tb mb) : RdE K W (tIf t ta tb) (mIfE mt ma mb) := by
  intro G F H σ ρ Q g h
  refine ht G F H σ ρ _ g (h.bind.imp fun b ρ1 F1 H1 e1 g1 h1 => ?_)
  cases b with
  | true => exact ha G F1 H1 σ ρ1 _ g1 h1
  | false => exact hb G F1 H1 σ ρ1 _ g1 h1
/-- a op1 b op2 c -/
def mChain (f f' : D → D → Option D) (ma mb mc : EM) : EM := fun ρ => (ma ρ).bind fun x ρ1 => (mb ρ1).bind fun y ρ2 => (opt (look ρ2 x) ρ2).bind fun d _ => (opt (look ρ2 y) ρ2).bind fun e _ => (opt ((f d e).bind bOf) ρ2).bind fun k _ =>
  if k then (mc ρ2).bind fun z ρ3 => (opt (look ρ3 y) ρ3).bind fun e _ => (opt (look ρ3 z) ρ3).bind fun c _ => (opt (f' e c) ρ3).bind fun w _ => .ok (.dat w) ρ3 else .ok (.dat (.bl false)) ρ2
theorem rd_chain {r r' : R2} {f f' : D → D → Option D} {ta tb tc : TE} {ma mb mc : EM} (o : OpD K r f) (o' : OpD K r' f') (ha : RdE K W ta ma) (hb : RdE K W tb mb) (hc : RdE K W tc mc) :
    RdE K W (tChain r r' ta tb tc) (mChain f f' ma mb mc) := by
  intro G F H σ ρ Q g h
  refine ha G F H σ ρ _ g (h.bind.imp fun x ρ1 F1 H1 e1 g1 h1 v hv => ?_)
  refine hb G F1 H1 σ ρ1 _ g1 (h1.bind.imp fun y ρ2 F2 H2 e2 g2 h2 u hu => ?_)
  obtain ⟨d, ed, h2⟩ := fin_opt h2
  obtain ⟨e, ee, h2⟩ := fin_opt h2
  obtain ⟨k, ek, h2⟩ := fin_opt h2
  obtain ⟨z, ez, ek⟩ := Option.bind_eq_some_iff.mp ek
  refine o F2 H2 d e v u z _ g2.ff (look_ok g2 (hv.up e2) ed) (look_ok g2 hu ee) ez fun v' F3 H3 w rz => ⟨k, bOf_ok (ROk.of (H := H3) w.fh rz) ek, ?_⟩
  have g3 := g2.grow w
  cases k with
  | false => exact h2 F3 H3 w.ff g3 _ (.bl false)
  | true =>
    have h3 := Fin.up (show Fin K G F2 W σ ((mc ρ2).bind _) _ from h2) w.ff
    refine hc G F3 H3 σ ρ2 _ g3 (h3.bind.imp fun z ρ4 F4 H4 e4 g4 h4 v4 hv4 => ?_)
    obtain ⟨e', ee', h4⟩ := fin_opt h4
    obtain ⟨c, ec, h4⟩ := fin_opt h4
    obtain ⟨z4, ez4, h4⟩ := fin_opt h4
    exact o' F4 H4 e' c u v4 z4 _ g4.ff (look_ok g4 ((hu.up w.ff).up e4) ee') (look_ok g4 hv4 ec) ez4 fun v5 F5 H5 w5 r5 => h4 F5 H5 w5.ff (g4.grow w5) v5 r5
/-! ### targets -/
def gN (i : Nat) : GM := fun d ρ => if i < ρ.length then .ok () (ρ.set i (.dat d)) else .bad
theorem rd_gN (i : Nat) : RdG K [i] (gName i) (gN i) := by
  intro G F H σ ρ d v Q g r h
  unfold gN at h
  by_cases hi : i < ρ.length
  · rw [if_pos hi] at h
    exact h _ F H (Ext.refl _) (g.setDat hi r) ⟨List.length_set, fun k hk => List.getElem?_set_ne (fun e => hk (by rw [e]; exact List.mem_singleton_self _))⟩
  · rw [if_neg hi] at h; exact h.elim
def gsNil : List D → DEnv → Rs Unit := fun ds ρ => match ds with
  | [] => .ok () ρ
  | _ => .bad
def gsCons (g : GM) (gs : List D → DEnv → Rs Unit) : List D → DEnv → Rs Unit := fun ds ρ => match ds with
  | d :: r => (g d ρ).bind fun _ ρ1 => gs r ρ1
  | [] => .bad
theorem rd_gsNil : RdGs K [] gNil gsNil := by
  intro G F H σ ρ ds vs Q g r h
  cases r with
  | nil => exact ⟨rfl, h _ F H (Ext.refl _) g ⟨rfl, fun _ _ => rfl⟩⟩
  | cons a b => exact h.elim
theorem rd_gsCons {t : TG} {ts : TGs} {m : GM} {ms : List D → DEnv → Rs Unit} {js ks : List Nat} (h1 : RdG K js t m) (h2 : RdGs K ks ts ms) : RdGs K (js ++ ks) (gCons t ts) (gsCons m ms) := by
  intro G F H σ ρ ds vs Q g r h
  cases r with
  | nil => exact h.elim
  | @cons d ds v vs a b =>
    refine ⟨v, vs, rfl, h1 G F H σ ρ d v _ g a ?_⟩
    have h' : FinG K G F ((m d ρ).bind fun _ ρ1 => ms ds ρ1) (fun σ' _ _ H' => But (js ++ ks) σ σ' → Q σ' H') := h
    cases q : m d ρ with
    | bad => rw [q] at h'; exact h'.elim
    | exc n o ρ' => rw [q] at h'; exact h'.elim
    | ok u ρ1 =>
      rw [q] at h'
      intro σ1 F1 H1 e1 g1 b1
      exact h2 G F1 H1 σ1 ρ1 ds vs _ g1 (b.up e1) ((FinG.up (show FinG K G F (ms ds ρ1) _ from h') e1).imp fun σ2 ρ2 F2 H2 e2 g2 q b2 => q ⟨b2.1.trans b1.1, fun k hk =>
        (b2.2 k fun z => hk (List.mem_append_right _ z)).trans (b1.2 k fun z => hk (List.mem_append_left _ z))⟩)
def gT (gs : List D → DEnv → Rs Unit) : GM := fun d ρ => match d with
  | .tup ds => gs ds ρ
  | _ => .bad
theorem rd_gT {n : Nat} {js : List Nat} {ts : TGs} {ms : List D → DEnv → Rs Unit} (h : RdGs K js ts ms) (hn : ∀ (ds : List D) (ρ : DEnv), ds.length ≠ n → ∀ u ρ', ms ds ρ ≠ .ok u ρ') : RdG K js (gTup K n ts) (gT ms) := by
  intro G F H σ ρ d v Q g r q
  cases d with
  | tup ds =>
    cases r with
    | tup a b c =>
      refine ⟨_, _, rfl, ext_t g.ff a, ?_, h G F H σ ρ ds _ _ g c q⟩
      rw [← c.length]
      refine Classical.byContradiction fun z => ?_
      have q' : FinG K G F (ms ds ρ) (fun σ' _ _ H' => But js σ σ' → Q σ' H') := q
      cases e : ms ds ρ with
      | ok u ρ' => exact hn ds ρ z u ρ' e
      | bad => rw [e] at q'; exact q'
      | exc n o ρ' => rw [e] at q'; exact q'
  | _ => exact q.elim
theorem gs0_len (ds : List D) (ρ : DEnv) (h : ds.length ≠ 0) (u : Unit) (ρ' : DEnv) : gsNil ds ρ ≠ .ok u ρ' := by
  cases ds with
  | nil => exact absurd rfl h
  | cons a b => intro z; cases z
theorem gsC_len {n : Nat} {m : GM} {ms : List D → DEnv → Rs Unit} (hn : ∀ (ds : List D) (ρ : DEnv), ds.length ≠ n → ∀ u ρ', ms ds ρ ≠ .ok u ρ') (ds : List D) (ρ : DEnv) (h : ds.length ≠ n + 1) (u : Unit) (ρ' : DEnv) : gsCons m ms ds ρ ≠ .ok u ρ' := by
  cases ds with
  | nil => intro z; cases z
  | cons a b =>
    intro z
    have z' : (m a ρ).bind (fun _ ρ1 => ms b ρ1) = .ok u ρ' := z
    cases q : m a ρ with
    | bad => rw [q] at z'; cases z'
    | exc n o ρ' => rw [q] at z'; cases z'
    | ok w ρ1 =>
      rw [q] at z'
      exact hn b ρ1 (fun y => h (by rw [List.length_cons, y])) u ρ' z'
/-! ### statements -/
def sNx : SM := fun ρ => .ok .nx ρ
def sSeq (a b : SM) : SM := fun ρ => (a ρ).bind fun fl ρ1 => match fl with
  | .nx => b ρ1
  | fl => .ok fl ρ1
theorem rd_nx : RdS K W tNext sNx := fun G F H σ ρ D g h => h σ F H (Ext.refl _) g
theorem rd_seq {t u : TS} {a b : SM} (ha : RdS K W t a) (hb : RdS K W u b) : RdS K W (tSeq t u) (sSeq a b) := by
  intro G F H σ ρ D g h
  refine ha G F H σ ρ _ g ?_
  have h' : FinS K G F W ((a ρ).bind _) D := h
  cases q : a ρ with
  | bad => rw [q] at h'; exact h'.elim
  | exc n o ρ' => rw [q] at h'; exact h'
  | ok fl ρ1 =>
    rw [q] at h'
    intro σ1 F1 H1 e1 g1
    cases fl with
    | nx => exact hb G F1 H1 σ1 ρ1 D g1 (FinS.up (show FinS K G F W (b ρ1) D from h') e1)
    | rt d => exact h' σ1 F1 H1 e1 g1
    | bk => exact h' σ1 F1 H1 e1 g1
    | ct => exact h' σ1 F1 H1 e1 g1
theorem finS_of {G : Gr} {F : Hp} {σ : L2.St} {α : Type} {r : Rs α} {k : α → DEnv → Rs Flo} {D : Ends} (h : FinS K G F W (r.bind k) D) : Fin K G F W σ r (fun a ρ1 F1 H1 => FinS K G F1 W (k a ρ1) D) := by
  cases r with
  | bad => exact h
  | ok a ρ1 => exact fun F1 H1 e1 g1 => FinS.up (show FinS K G F W (k a ρ1) D from h) e1
  | exc n o ρ1 => exact fun dx F1 H1 e1 g1 x => h σ dx F1 H1 e1 g1 x
theorem finS_opt {α : Type} {G : Gr} {F : Hp} {o : Option α} {ρ : DEnv} {k : α → DEnv → Rs Flo} {D : Ends} (h : FinS K G F W ((opt o ρ).bind k) D) : ∃ a, o = some a ∧ FinS K G F W (k a ρ) D := by
  cases o with
  | none => exact h.elim
  | some a => exact ⟨a, rfl, h⟩
def sRet (ma : EM) : SM := fun ρ => (ma ρ).bind fun x ρ1 => (opt (frz ρ1 x) ρ1).bind fun p _ => .ok (.rt p.1) p.2
theorem rd_ret {t : TE} {ma : EM} (ha : RdE K W t ma) : RdS K W (tRet t) (sRet ma) := by
  intro G F H σ ρ D g h
  refine ha G F H σ ρ _ g ((finS_of h).imp fun x ρ1 F1 H1 e1 g1 h1 v hv => ?_)
  obtain ⟨⟨d, ρ2⟩, ed, h1⟩ := finS_opt h1
  obtain ⟨F2, a1, a2, a3⟩ := frz_ok g1 hv ed
  exact h1 σ F2 H1 a1 a2 v a3
def sRetN : SM := fun ρ => .ok (.rt .non) ρ
theorem rd_retN : RdS K W tRetN sRetN := fun G F H σ ρ D g h => h σ F H (Ext.refl _) g _ .non
def sDrop (ma : EM) : SM := fun ρ => (ma ρ).bind fun _ ρ1 => .ok .nx ρ1
theorem rd_drop {t : TE} {ma : EM} (ha : RdE K W t ma) : RdS K W (tDrop t) (sDrop ma) := by
  intro G F H σ ρ D g h
  exact ha G F H σ ρ _ g ((finS_of h).imp fun x ρ1 F1 H1 e1 g1 h1 v hv => h1 σ F1 H1 (Ext.refl _) g1)
def sIf (t : TM) (a b : SM) : SM := fun ρ => (t ρ).bind fun k ρ1 => if k then a ρ1 else b ρ1
theorem rd_if {c : TT} {t u : TS} {mt : TM} {a b : SM} (hc : RdT K W c mt) (ha : RdS K W t a) (hb : RdS K W u b) : RdS K W (tIfS c t u) (sIf mt a b) := by
  intro G F H σ ρ D g h
  refine hc G F H σ ρ _ g ((finS_of h).imp fun k ρ1 F1 H1 e1 g1 h1 => ?_)
  cases k with
  | true => exact ha G F1 H1 σ ρ1 D g1 h1
  | false => exact hb G F1 H1 σ ρ1 D g1 h1
def sBk : SM := fun ρ => .ok .bk ρ
def sCt : SM := fun ρ => .ok .ct ρ
theorem rd_bk : RdS K W tBreak sBk := fun G F H σ ρ D g h => h σ F H (Ext.refl _) g
theorem rd_ct : RdS K W tCont sCt := fun G F H σ ρ D g h => h σ F H (Ext.refl _) g
def sAsg (ma : EM) (mg : GM) : SM := fun ρ => (ma ρ).bind fun x ρ1 => (opt (frz ρ1 x) ρ1).bind fun p _ => (mg p.1 p.2).bind fun _ ρ3 => .ok .nx ρ3
theorem finS_g {G : Gr} {F : Hp} {r : Rs Unit} {k : DEnv → Rs Flo} {D : Ends} {Q : L2.St → Hp → Prop} (h : FinS K G F W (r.bind fun _ ρ1 => k ρ1) D) (hx : ∀ n o ρ1, r ≠ .exc n o ρ1)
    (hq : ∀ σ1 ρ1 F1 H1, Ext F F1 → Gud K G F1 H1 σ1 ρ1 → FinS K G F1 W (k ρ1) D → Q σ1 H1) {js : List Nat} {σ : L2.St} : FinG K G F r (fun σ' _ _ H' => But js σ σ' → Q σ' H') := by
  cases r with
  | bad => exact h
  | exc n o ρ1 => exact (hx n o ρ1 rfl).elim
  | ok u ρ1 => exact fun σ1 F1 H1 e1 g1 _ => hq σ1 ρ1 F1 H1 e1 g1 (FinS.up (show FinS K G F W (k ρ1) D from h) e1)
/-- a target raises nothing -/
def GNx (m : GM) : Prop := ∀ d ρ n o ρ1, m d ρ ≠ .exc n o ρ1
theorem gnx_N (i : Nat) : GNx (gN i) := fun d ρ n o ρ1 z => by
  unfold gN at z
  split at z <;> cases z
def GsNx (m : List D → DEnv → Rs Unit) : Prop := ∀ d ρ n o ρ1, m d ρ ≠ .exc n o ρ1
theorem gsnx_nil : GsNx gsNil := fun ds ρ n o ρ1 z => by
  cases ds <;> cases z
theorem gsnx_cons {m : GM} {ms : List D → DEnv → Rs Unit} (h1 : GNx m) (h2 : GsNx ms) : GsNx (gsCons m ms) := fun ds ρ n o ρ1 z => by
  cases ds with
  | nil => cases z
  | cons d r =>
    have z' : (m d ρ).bind (fun _ ρ1 => ms r ρ1) = .exc n o ρ1 := z
    cases q : m d ρ with
    | bad => rw [q] at z'; cases z'
    | exc n o ρ2 => exact h1 _ _ _ _ _ q
    | ok u ρ2 => rw [q] at z'; exact h2 _ _ _ _ _ z'
theorem gnx_T {ms : List D → DEnv → Rs Unit} (h : GsNx ms) : GNx (gT ms) := fun d ρ n o ρ1 z => by
  cases d with
  | tup ds => exact h _ _ _ _ _ z
  | _ => cases z
theorem rd_asg {t : TE} {tg : TG} {ma : EM} {mg : GM} {js : List Nat} (ha : RdE K W t ma) (hg : RdG K js tg mg) (hx : GNx mg) : RdS K W (tAsg t tg) (sAsg ma mg) := by
  intro G F H σ ρ D g h
  refine ha G F H σ ρ _ g ((finS_of h).imp fun x ρ1 F1 H1 e1 g1 h1 v hv => ?_)
  obtain ⟨⟨d, ρ2⟩, ed, h1⟩ := finS_opt h1
  obtain ⟨F2, a1, a2, a3⟩ := frz_ok g1 hv ed
  exact hg G F2 H1 σ ρ2 d v _ a2 a3 (finS_g (FinS.up h1 a1) (hx d ρ2) fun σ3 ρ3 F3 H3 e3 g3 h3 => h3 σ3 F3 H3 (Ext.refl _) g3)
/-- a new list of one's own at a name -/
def sNew (mn : NM) (i : Nat) : SM := fun ρ => (mn ρ).bind fun ds ρ1 => if i < ρ1.length then .ok .nx (ρ1.set i (.own false ds)) else .bad
theorem rd_snew {t : TE} {mn : NM} (i : Nat) (ha : RdN K W t mn) : RdS K W (tAsg t (gName i)) (sNew mn i) := by
  intro G F H σ ρ D g h
  refine ha G F H σ ρ _ g ((finS_of h).imp fun ds ρ1 F1 H1 e1 g1 h1 p xs hp hz hr hF hB ho => ?_)
  by_cases hi : i < ρ1.length
  · rw [if_pos hi] at h1
    exact h1 _ F1 H1 (Ext.refl _) (g1.setOwn hi hp hz hr hF hB ho)
  · rw [if_neg hi] at h1; exact h1.elim
def sAug (i : Nat) (f : D → D → Option D) (ma : EM) : SM := fun ρ => (mVar i ρ).bind fun x ρ0 => (ma ρ0).bind fun y ρ1 => (opt (look ρ1 x) ρ1).bind fun d _ => (opt (look ρ1 y) ρ1).bind fun e _ => (opt (f d e) ρ1).bind fun z _ =>
  if i < ρ1.length then .ok .nx (ρ1.set i (.dat z)) else .bad
theorem var_val {G : Gr} {F H : Hp} {σ : L2.St} {ρ : DEnv} {i : Nat} {x : Vl} {ρ1 : DEnv} (g : Gud K G F H σ ρ) (h : mVar i ρ = .ok x ρ1) : ρ1 = ρ ∧ ∃ v, σ[i]? = some (some v) ∧ VlOk K F σ x v := by
  unfold mVar at h
  cases q : ρ[i]? with
  | none => rw [q] at h; cases h
  | some s =>
    rw [q] at h
    cases s with
    | un => cases h
    | dat d =>
      cases h
      obtain ⟨v, h1, h2⟩ := g.dat i _ q
      exact ⟨rfl, v, h1, h2⟩
    | own b ds =>
      cases h
      obtain ⟨p, xs, h1, _⟩ := g.own i b ds q
      exact ⟨rfl, _, h1, h1⟩
theorem var_noexc {i : Nat} {ρ : DEnv} {n : Str} {o : Option (List Str × List D)} {ρ1 : DEnv} : mVar i ρ ≠ .exc n o ρ1 := by
  unfold mVar
  intro h
  split at h <;> cases h
theorem rd_aug {i : Nat} {r : R2} {f : D → D → Option D} {t : TE} {ma : EM} (o : OpD K r f) (ha : RdE K W t ma) : RdS K W (tAug i t r) (sAug i f ma) := by
  intro G F H σ ρ D g h
  have h0 : FinS K G F W ((mVar i ρ).bind _) D := h
  cases q : mVar i ρ with
  | bad => rw [q] at h0; exact h0.elim
  | exc n o ρ1 => exact (var_noexc q).elim
  | ok x ρ1 =>
    rw [q] at h0
    obtain ⟨rfl, v, hv, hx⟩ := var_val g q
    refine ⟨v, hv, ha G F H σ _ _ g ((finS_of (show FinS K G F W ((ma ρ1).bind _) D from h0)).imp fun y ρ2 F2 H2 e2 g2 h2 u hu => ?_)⟩
    obtain ⟨d, ed, h2⟩ := finS_opt h2
    obtain ⟨e, ee, h2⟩ := finS_opt h2
    obtain ⟨z, ez, h2⟩ := finS_opt h2
    refine o F2 H2 d e v u z _ g2.ff (look_ok g2 (hx.up e2) ed) (look_ok g2 hu ee) ez fun v' F' H' w rz => ?_
    by_cases hi : i < ρ2.length
    · rw [if_pos hi] at h2
      exact h2 _ F' H' w.ff ((g2.grow w).setDat hi rz)
    · rw [if_neg hi] at h2; exact h2.elim
end
end Pm

set_option Elab.async false
set_option linter.all false
set_option maxRecDepth 100000
set_option maxHeartbeats 2000000
/-! Pm3: what is walked, loops, comprehensions. -/
namespace Pm
open PySem PySem.Spec PyProof.Rows L2

/-- the iterator yields these -/
def ItOk (K : PySem.W.Frag) (J : It) (F : Hp) (ds : List D) : Prop := ∀ (F1 H1 : Hp) (i : Nat), Ext F F1 → Ext F1 H1 → (i < ds.length → J.go i H1) ∧ (ds.length ≤ i → J.stop i H1) ∧
  ∀ x H2, J.yld i H1 x H2 → ∀ d, ds[i]? = some d → ∃ F2, Grw F1 H1 F2 H2 ∧ Rep K F2 d x
theorem ItOk.up {K : PySem.W.Frag} {J : It} {F F' : Hp} {ds : List D} (h : ItOk K J F ds) (e : Ext F F') : ItOk K J F' ds := fun F1 H1 i e1 e2 => h F1 H1 i (e.trans e1) e2
abbrev IM := DEnv → Rs (List D)
def RdI (K : PySem.W.Frag) [Tb K] (W : WX) (t : TI) (m : IM) : Prop := ∀ (G : Gr) (F H : Hp) (σ : L2.St) (ρ : DEnv) (R : It → Hp → Prop), Gud K G F H σ ρ →
  Fin K G F W σ (m ρ) (fun ds _ F' H' => ∀ J, ItOk K J F' ds → R J H') → t σ H R
def itm : D → Option (List D)
  | .lst ds => some ds
  | .tup ds => some ds
  | .scr ns => some (ns.map D.int)
  | .str z => some (z.cps.toList.map fun c => D.str ⟨#[c]⟩)
  | .byt b => some (b.toList.map fun c => D.int ((c.toNat : Nat) : Int))
  | _ => none
def iAny (K : PySem.W.Frag) (te : TE) : TI := fun σ H R => te σ H fun x H1 => (∃ a, x = .ref a ∧ (∃ xs, SqL K H1 a xs) ∧ R (Itl K a) H1) ∨ (∃ a, x = .ref a ∧ (∃ xs, SqT K H1 a xs) ∧ R (Itt K a) H1) ∨
  (∃ z, x = .str z ∧ R (Its z) H1) ∨ ∃ b, x = .byt b ∧ R (Itb b) H1
theorem pi_any {X : Cx} {tg e : Expr} {te : TE} (he : PE X e te) : PI X tg e (iAny X.K te) := by
  constructor
  intro pins s σ H R I h
  apply thn (he.run pins s σ H _ I h)
  rintro v s1 ⟨x, H1, I1, r1, q1⟩
  rcases q1 with ⟨a, rfl, ⟨xs, hq⟩, q⟩ | ⟨a, rfl, ⟨xs, hq⟩, q⟩ | ⟨z, rfl, q⟩ | ⟨b, rfl, q⟩
  · cases r1
    obtain ⟨its, _, p, _⟩ := I1.list hq
    exact wpAny_pyIter_list p.isList (pi_one (tk := s1.toks) I1 _ (turn_list a _) ⟨_, Heap.get?_push_size _ rfl, rfl, rfl⟩ q)
  · cases r1
    obtain ⟨its, _, p, _⟩ := I1.tuple hq
    exact wpAny_pyIter_tuple (show s1.heap.IsTuple a its.toArray from p) (pi_one (tk := s1.toks) I1 _ (turn_tuple a _) ⟨_, Heap.get?_push_size _ rfl, rfl, rfl⟩ q)
  · obtain ⟨t, rfl⟩ := r1
    cases ha : z.cps.all (· < 128) with
    | false => exact wpAny_pyIter_wide ha (pi_one (tk := s1.toks) I1 _ (turn_str _ z t "str_iterator" (.inr rfl)) ⟨_, Heap.get?_push_size _ rfl, rfl, rfl⟩ q)
    | true => exact wpAny_pyIter_ascii ha (pi_one (tk := s1.toks) I1 _ (turn_str _ z t "str_ascii_iterator" (.inl rfl)) ⟨_, Heap.get?_push_size _ rfl, rfl, rfl⟩ q)
  · obtain ⟨t, rfl⟩ := r1
    exact PySem.W.KBw.pyIter_bytes (pi_one (tk := s1.toks) I1 _ (turn_byt _ b t) ⟨_, Heap.get?_push_size _ rfl, rfl, rfl⟩ q)
section
variable {K : PySem.W.Frag}
theorem sql_fun {F1 H1 : Hp} {a : Addr} {xs : List V} {ds : List D} (e : F1 a = some (.lst xs)) (e2 : Ext F1 H1) : SqL K H1 a xs := .inl (.inl (e2 _ _ e))
theorem itok_lst {F : Hp} {a : Addr} {xs : List V} {ds : List D} (e : F a = some (.lst xs)) (r : RepL K F ds xs) : ItOk K (Itl K a) F ds := by
  intro F1 H1 i e1 e2
  have q : SqL K H1 a xs := .inl (.inl (e2 _ _ (e1 _ _ e)))
  refine ⟨fun hi => ?_, fun hi => ⟨xs, q, by rw [← r.length]; exact hi⟩, ?_⟩
  · have hi' : i < xs.length := by rw [← r.length]; exact hi
    exact ⟨xs, xs[i], q, List.getElem?_eq_getElem hi'⟩
  · rintro x H2 ⟨rfl, hy⟩ d hd
    obtain ⟨v, h1, h2⟩ := r.get hd
    have h3 := hy xs q
    rw [h1] at h3; cases h3
    exact ⟨F1, Grw.refl e2, h2.up e1⟩
theorem itok_tup {F : Hp} {a : Addr} {xs : List V} {ds : List D} (e : SqT K F a xs) (r : RepL K F ds xs) : ItOk K (Itt K a) F ds := by
  intro F1 H1 i e1 e2
  have q : SqT K H1 a xs := ext_t (e1.trans e2) e
  refine ⟨fun hi => ?_, fun hi => ⟨xs, q, by rw [← r.length]; exact hi⟩, ?_⟩
  · have hi' : i < xs.length := by rw [← r.length]; exact hi
    exact ⟨xs, xs[i], q, List.getElem?_eq_getElem hi'⟩
  · rintro x H2 ⟨rfl, hy⟩ d hd
    obtain ⟨v, h1, h2⟩ := r.get hd
    have h3 := hy xs q
    rw [h1] at h3; cases h3
    exact ⟨F1, Grw.refl e2, h2.up e1⟩
theorem itok_scr {F : Hp} {a : Addr} {ns : List Int} (e : SqL K F a (ns.map V.int)) : ItOk K (Itl K a) F (ns.map D.int) := by
  intro F1 H1 i e1 e2
  have q : SqL K H1 a (ns.map V.int) := ext_l (e1.trans e2) e
  refine ⟨fun hi => ?_, fun hi => ⟨_, q, by simpa using hi⟩, ?_⟩
  · have hi' : i < (ns.map V.int).length := by simpa using hi
    exact ⟨_, _, q, List.getElem?_eq_getElem hi'⟩
  · rintro x H2 ⟨rfl, hy⟩ d hd
    have h3 := hy _ q
    rw [List.getElem?_map] at h3 hd
    cases z : ns[i]? with
    | none => rw [z] at hd; cases hd
    | some n =>
      rw [z] at hd h3
      cases hd; cases h3
      exact ⟨F1, Grw.refl e2, .int n⟩
theorem itok_str {F : Hp} (z : Str) : ItOk K (Its z) F (z.cps.toList.map fun c => D.str ⟨#[c]⟩) := by
  intro F1 H1 i e1 e2
  refine ⟨fun hi => show i < z.cps.size by simpa using hi, fun hi => show z.cps.size ≤ i by simpa using hi, ?_⟩
  rintro x H2 ⟨rfl, c, hc, rfl⟩ d hd
  rw [List.getElem?_map, Array.getElem?_toList, hc] at hd
  cases hd
  exact ⟨F1, Grw.refl e2, .str _⟩
theorem itok_byt {F : Hp} (b : Array UInt8) : ItOk K (Itb b) F (b.toList.map fun c => D.int ((c.toNat : Nat) : Int)) := by
  intro F1 H1 i e1 e2
  refine ⟨fun hi => show i < b.size by simpa using hi, fun hi => show b.size ≤ i by simpa using hi, ?_⟩
  rintro x H2 ⟨rfl, c, hc, rfl⟩ d hd
  rw [List.getElem?_map, Array.getElem?_toList, hc] at hd
  cases hd
  exact ⟨F1, Grw.refl e2, .int _⟩
end
section
variable {K : PySem.W.Frag} [Tb K] {W : WX}
def mIt (ma : EM) : IM := fun ρ => (ma ρ).bind fun x ρ1 => (opt (frz ρ1 x) ρ1).bind fun p _ => (opt (itm p.1) p.2).bind fun ds _ => .ok ds p.2
theorem rdi_any {te : TE} {ma : EM} (ha : RdE K W te ma) : RdI K W (iAny K te) (mIt ma) := by
  intro G F H σ ρ R g h
  refine ha G F H σ ρ _ g (h.bind.imp fun x ρ1 F1 H1 e1 g1 h1 v hv => ?_)
  obtain ⟨⟨d, ρ2⟩, ed, h1⟩ := fin_opt h1
  obtain ⟨ds, es, h1⟩ := fin_opt h1
  obtain ⟨F2, a1, a2, a3⟩ := frz_ok g1 hv ed
  have h2 := h1 F2 H1 a1 a2
  have es' : itm d = some ds := es
  cases d <;> cases es'
  case str => cases a3; exact .inr (.inr (.inl ⟨_, rfl, h2 _ (itok_str _)⟩))
  case byt => cases a3; exact .inr (.inr (.inr ⟨_, rfl, h2 _ (itok_byt _)⟩))
  case lst => cases a3 with | lst b1 b2 b3 => exact .inl ⟨_, rfl, ⟨_, .inl (.inl (a2.ff _ _ b1))⟩, h2 _ (itok_lst b1 b3)⟩
  case tup => cases a3 with | tup b1 b2 b3 => exact .inr (.inl ⟨_, rfl, ⟨_, ext_t a2.ff b1⟩, h2 _ (itok_tup b1 b3)⟩)
  case scr => cases a3 with | scr b1 b2 => exact .inl ⟨_, rfl, ⟨_, ext_l a2.ff b1⟩, h2 _ (itok_scr b1)⟩
/-- lo, lo + 1, .. -/
def rngL (lo : Int) (n : Nat) : List D := (List.range n).map fun i => D.int (lo + (i : Nat))
theorem itok_rng {F : Hp} (lo : Int) (n : Nat) : ItOk K (Itr lo n) F (rngL lo n) := by
  intro F1 H1 i e1 e2
  refine ⟨fun hi => show i < n by simpa [rngL] using hi, fun hi => show n ≤ i by simpa [rngL] using hi, ?_⟩
  rintro x H2 ⟨rfl, rfl⟩ d hd
  unfold rngL at hd
  rw [List.getElem?_map] at hd
  by_cases hi : i < n
  · rw [List.getElem?_range hi] at hd
    cases hd
    exact ⟨F1, Grw.refl e2, .int _⟩
  · rw [List.getElem?_eq_none (by simpa using Nat.le_of_not_lt hi)] at hd; cases hd
def rngD : List D → Option (List D)
  | [.int j] => if -(2 ^ 62) ≤ j ∧ j < 2 ^ 62 then some (rngL 0 j.toNat) else none
  | [.int i, .int j] => if -(2 ^ 62) ≤ i ∧ i < 2 ^ 62 ∧ -(2 ^ 62) ≤ j ∧ j < 2 ^ 62 then some (rngL i (j - i).toNat) else none
  | _ => none
def mRng (ma : AM) : IM := fun ρ => (ma ρ).bind fun xs ρ1 => (opt (looks ρ1 xs) ρ1).bind fun ds _ => (opt (rngD ds) ρ1).bind fun es _ => .ok es ρ1
theorem rdi_rng1 {ta : TA} {ma : AM} (ha : RdA K W ta ma) (h1 : ∀ ρ xs ρ1, ma ρ = .ok xs ρ1 → xs.length = 1) : RdI K W (iRng1 ta) (mRng ma) := by
  intro G F H σ ρ R g h
  refine ha G F H σ ρ _ g ?_
  have hb := h.bind
  cases q : ma ρ with
  | bad => rw [q] at hb; exact hb
  | exc n o ρ1 => rw [q] at hb; exact hb
  | ok xs ρ1 =>
    rw [q] at hb
    have hl := h1 ρ xs ρ1 q
    intro F1 H1 e1 g1 vs hv
    obtain ⟨ds, ed, h2⟩ := fin_opt (hb F1 H1 e1 g1)
    obtain ⟨es, ee, h2⟩ := fin_opt h2
    have rk := looks_ok g1 hv ed
    have el := hv.length
    cases rk with
    | nil => rw [hl] at el; cases el
    | @cons d ds v vs r rs =>
      cases rs with
      | cons _ _ => rw [hl] at el; simp at el
      | nil =>
        cases d <;> try (cases ee; done)
        case int j =>
          simp only [rngD] at ee
          by_cases hj : -(2 ^ 62) ≤ j ∧ j < 2 ^ 62
          · rw [if_pos hj] at ee; cases ee; cases r
            exact ⟨j, rfl, hj.1, hj.2, h2 F1 H1 (Ext.refl _) g1 _ (itok_rng 0 _)⟩
          · rw [if_neg hj] at ee; cases ee
theorem rdi_rng2 {ta : TA} {ma : AM} (ha : RdA K W ta ma) (h1 : ∀ ρ xs ρ1, ma ρ = .ok xs ρ1 → xs.length = 2) : RdI K W (iRng2 ta) (mRng ma) := by
  intro G F H σ ρ R g h
  refine ha G F H σ ρ _ g ?_
  have hb := h.bind
  cases q : ma ρ with
  | bad => rw [q] at hb; exact hb
  | exc n o ρ1 => rw [q] at hb; exact hb
  | ok xs ρ1 =>
    rw [q] at hb
    have hl := h1 ρ xs ρ1 q
    intro F1 H1 e1 g1 vs hv
    obtain ⟨ds, ed, h2⟩ := fin_opt (hb F1 H1 e1 g1)
    obtain ⟨es, ee, h2⟩ := fin_opt h2
    have rk := looks_ok g1 hv ed
    have el := hv.length
    cases rk with
    | nil => rw [hl] at el; cases el
    | @cons d ds v vs r rs =>
      cases rs with
      | nil => rw [hl] at el; simp at el
      | @cons d2 ds2 v2 vs2 r2 rs2 =>
        cases rs2 with
        | cons _ _ => rw [hl] at el; simp at el
        | nil =>
          cases d <;> try (cases ee; done)
          case int i =>
            cases d2 <;> try (cases ee; done)
            case int j =>
              simp only [rngD] at ee
              by_cases hj : -(2 ^ 62) ≤ i ∧ i < 2 ^ 62 ∧ -(2 ^ 62) ≤ j ∧ j < 2 ^ 62
              · rw [if_pos hj] at ee; cases ee; cases r; cases r2
                exact ⟨i, j, rfl, hj, h2 F1 H1 (Ext.refl _) g1 _ (itok_rng i _)⟩
              · rw [if_neg hj] at ee; cases ee
theorem mNil_len (ρ : DEnv) (xs : List Vl) (ρ1 : DEnv) (h : mNil ρ = .ok xs ρ1) : xs.length = 0 := by cases h; rfl
theorem mCons_len {ma : EM} {mr : AM} {n : Nat} (hr : ∀ ρ xs ρ1, mr ρ = .ok xs ρ1 → xs.length = n) (ρ : DEnv) (xs : List Vl) (ρ1 : DEnv) (h : mCons ma mr ρ = .ok xs ρ1) : xs.length = n + 1 := by
  have h' : (ma ρ).bind (fun x ρ1 => (mr ρ1).bind fun xs ρ2 => .ok (x :: xs) ρ2) = .ok xs ρ1 := h
  cases q : ma ρ with
  | bad => rw [q] at h'; cases h'
  | exc n o ρ1 => rw [q] at h'; cases h'
  | ok x ρ2 =>
    rw [q] at h'
    have h2 : (mr ρ2).bind (fun xs ρ2 => .ok (x :: xs) ρ2) = .ok xs ρ1 := h'
    cases q2 : mr ρ2 with
    | bad => rw [q2] at h2; cases h2
    | exc n o ρ1 => rw [q2] at h2; cases h2
    | ok ys ρ3 =>
      rw [q2] at h2
      cases h2
      exact congrArg Nat.succ (hr _ _ _ q2)
/-- enumerate of a list -/
def enumFrom (i : Nat) : List D → List D
  | [] => []
  | d :: ds => .tup [.int (i : Int), d] :: enumFrom (i + 1) ds
theorem enumFrom_len : ∀ (i : Nat) (ds : List D), (enumFrom i ds).length = ds.length
  | _, [] => rfl
  | i, d :: ds => congrArg Nat.succ (enumFrom_len (i + 1) ds)
theorem enumFrom_get : ∀ (i k : Nat) (ds : List D), (enumFrom i ds)[k]? = (ds[k]?).map fun d => D.tup [.int ((i + k : Nat) : Int), d]
  | _, _, [] => by simp [enumFrom]
  | i, 0, d :: ds => by simp [enumFrom]
  | i, k + 1, d :: ds => by
    rw [enumFrom, List.getElem?_cons_succ, List.getElem?_cons_succ, enumFrom_get (i + 1) k ds]
    rw [show i + 1 + k = i + (k + 1) by omega]
theorem itok_enum {F : Hp} {a : Addr} {xs : List V} {ds : List D} (e : F a = some (.lst xs)) (r : RepL K F ds xs) : ItOk K (Ite K a) F (enumFrom 0 ds) := by
  intro F1 H1 i e1 e2
  have q : SqL K H1 a xs := .inl (.inl (e2 _ _ (e1 _ _ e)))
  refine ⟨fun hi => ?_, fun hi => ⟨xs, q, by rw [← r.length]; rw [enumFrom_len] at hi; exact hi⟩, ?_⟩
  · have hi' : i < xs.length := by rw [← r.length]; rw [enumFrom_len] at hi; exact hi
    exact ⟨xs, xs[i], q, List.getElem?_eq_getElem hi'⟩
  · rintro x H2 ⟨T, y, rfl, hT, rfl, hy⟩ d hd
    rw [enumFrom_get] at hd
    cases z : ds[i]? with
    | none => rw [z] at hd; cases hd
    | some d0 =>
      rw [z] at hd
      cases hd
      obtain ⟨v, h1, h2⟩ := r.get z
      have h3 := hy xs q
      rw [h1] at h3; cases h3
      have w : Grw F1 H1 (upd F1 T (.tup [.int ((i : Nat) : Int), y])) (upd H1 T (.tup [.int ((i : Nat) : Int), y])) := Grw.lay e2 hT
      refine ⟨_, w, .tup (SqT.of upd_same) (sz1000 (show 2 ≤ 1000 by decide)) (.cons ?_ (.cons ((h2.up e1).up w.ff) .nil))⟩
      rw [Nat.zero_add]
      exact .int _
def mEnum (ma : AM) : IM := fun ρ => (ma ρ).bind fun xs ρ1 => (opt (frzL ρ1 xs) ρ1).bind fun p _ => match p.1 with
  | [.lst ds] => .ok (enumFrom 0 ds) p.2
  | _ => .bad
theorem rdi_enum {ta : TA} {ma : AM} (ha : RdA K W ta ma) : RdI K W (iEnum K ta) (mEnum ma) := by
  intro G F H σ ρ R g h
  refine ha G F H σ ρ _ g (h.bind.imp fun xs ρ1 F1 H1 e1 g1 h1 vs hv => ?_)
  obtain ⟨⟨es, ρ2⟩, ed, h1⟩ := fin_opt h1
  obtain ⟨F2, a1, a2, a3⟩ := frzL_ok g1 hv ed
  rcases es with _ | ⟨d, _ | ⟨d2, es⟩⟩
  · exact h1.elim
  · cases d <;> try (exact h1.elim)
    case lst ds =>
      cases a3 with
      | cons b1 b2 =>
        cases b2
        cases b1 with
        | lst c1 c2 c3 => exact ⟨_, _, rfl, .inl (.inl (a2.ff _ _ c1)), h1 F2 H1 a1 a2 _ (itok_enum c1 c3)⟩
  · cases d <;> exact h1.elim
/-! ### for -/
def loopF (mg : GM) (mb : SM) : List D → DEnv → Rs Flo
  | [], ρ => .ok .nx ρ
  | d :: ds, ρ => (mg d ρ).bind fun _ ρ1 => (mb ρ1).bind fun fl ρ2 => match fl with
    | .nx => loopF mg mb ds ρ2
    | .ct => loopF mg mb ds ρ2
    | .bk => .ok .nx ρ2
    | .rt d => .ok (.rt d) ρ2
def sFor (mi : IM) (mg : GM) (mb : SM) : SM := fun ρ => (mi ρ).bind fun ds ρ1 => loopF mg mb ds ρ1
theorem rd_for {wi : TI} {g : TG} {tb : TS} {mi : IM} {mg : GM} {mb : SM} {js : List Nat} (hi : RdI K W wi mi) (hg : RdG K js g mg) (hx : GNx mg) (hb : RdS K W tb mb) : RdS K W (tFor wi g tb) (sFor mi mg mb) := by
  intro G F H σ ρ D gd h
  refine hi G F H σ ρ _ gd ((finS_of h).imp fun ds ρ1 F1 H1 e1 g1 h1 J hJ => ?_)
  refine ⟨fun i m σ' H' => m = ds.length - i ∧ ∃ F' ρ', Ext F1 F' ∧ Gud K G F' H' σ' ρ' ∧ FinS K G F' W (loopF mg mb (ds.drop i) ρ') D, ⟨_, rfl, F1, ρ1, Ext.refl _, g1, h1⟩, ?_⟩
  rintro i m σ2 H2 ⟨rfl, F2, ρ2, e2, g2, h2⟩
  obtain ⟨k1, k2, k3⟩ := hJ F2 H2 i e2 g2.ff
  by_cases hlt : i < ds.length
  · have hd : ds[i]? = some ds[i] := List.getElem?_eq_getElem hlt
    have h2' : FinS K G F2 W (loopF mg mb (ds[i] :: ds.drop (i + 1)) ρ2) D := by rw [← List.drop_eq_getElem_cons hlt]; exact h2
    refine .inr ⟨k1 hlt, fun σ' H' => ∃ F' ρ', Ext F1 F' ∧ Gud K G F' H' σ' ρ' ∧ FinS K G F' W (loopF mg mb (ds.drop (i + 1)) ρ') D, ?_, ?_⟩
    · rintro σ' H' ⟨F', ρ', a1, a2, a3⟩
      exact ⟨ds.length - (i + 1), by omega, rfl, F', ρ', a1, a2, a3⟩
    · intro x H3 hy
      obtain ⟨F3, w, r⟩ := k3 x H3 hy _ hd
      refine hg G F3 H3 σ2 ρ2 _ x _ (g2.grow w) r (finS_g (FinS.up h2' w.ff) (hx _ _) fun σ4 ρ4 F4 H4 e4 g4 h4 => ?_)
      refine hb G F4 H4 σ4 ρ4 _ g4 ?_
      have h5 : FinS K G F4 W ((mb ρ4).bind _) D := h4
      cases q : mb ρ4 with
      | bad => rw [q] at h5; exact h5
      | exc n o ρ5 => rw [q] at h5; exact h5
      | ok fl ρ5 =>
        rw [q] at h5
        intro σ6 F6 H6 e6 g6
        have e16 : Ext F1 F6 := ((e2.trans w.ff).trans e4).trans e6
        cases fl with
        | nx => exact ⟨F6, ρ5, e16, g6, FinS.up (show FinS K G F4 W (loopF mg mb (ds.drop (i + 1)) ρ5) D from h5) e6⟩
        | ct => exact ⟨F6, ρ5, e16, g6, FinS.up (show FinS K G F4 W (loopF mg mb (ds.drop (i + 1)) ρ5) D from h5) e6⟩
        | bk => exact h5 σ6 F6 H6 e6 g6
        | rt d => exact h5 σ6 F6 H6 e6 g6
  · refine .inl ⟨k2 (Nat.le_of_not_lt hlt), ?_⟩
    rw [List.drop_of_length_le (Nat.le_of_not_lt hlt)] at h2
    exact h2 σ2 F2 H2 (Ext.refl _) g2
/-! ### while -/
def loopW (mt : TM) (mb : SM) : Nat → DEnv → Rs Flo
  | 0, _ => .bad
  | n + 1, ρ => (mt ρ).bind fun b ρ1 => if b then (mb ρ1).bind fun fl ρ2 => match fl with
    | .nx => loopW mt mb n ρ2
    | .ct => loopW mt mb n ρ2
    | .bk => .ok .nx ρ2
    | .rt d => .ok (.rt d) ρ2 else .ok .nx ρ1
theorem rd_while {c : TT} {tb : TS} {mt : TM} {mb : SM} (n : Nat) (ht : RdT K W c mt) (hb : RdS K W tb mb) : RdS K W (tWhile c tb) (loopW mt mb n) := by
  intro G F H σ ρ D gd h
  refine ⟨fun m σ' H' => ∃ F' ρ', Ext F F' ∧ Gud K G F' H' σ' ρ' ∧ FinS K G F' W (loopW mt mb m ρ') D, ⟨n, F, ρ, Ext.refl _, gd, h⟩, ?_⟩
  rintro m σ2 H2 ⟨F2, ρ2, e2, g2, h2⟩
  cases m with
  | zero => exact h2.elim
  | succ m =>
    refine ht G F2 H2 σ2 ρ2 _ g2 ((finS_of h2).imp fun b ρ3 F3 H3 e3 g3 h3 => ?_)
    cases b with
    | false => exact h3 σ2 F3 H3 (Ext.refl _) g3
    | true =>
      refine ⟨fun σ' H' => ∃ F' ρ', Ext F F' ∧ Gud K G F' H' σ' ρ' ∧ FinS K G F' W (loopW mt mb m ρ') D, fun σ' H' q => ⟨m, Nat.lt_succ_self m, q⟩, ?_⟩
      refine hb G F3 H3 σ2 ρ3 _ g3 ?_
      have h5 : FinS K G F3 W ((mb ρ3).bind _) D := h3
      cases q : mb ρ3 with
      | bad => rw [q] at h5; exact h5
      | exc n o ρ5 => rw [q] at h5; exact h5
      | ok fl ρ5 =>
        rw [q] at h5
        intro σ6 F6 H6 e6 g6
        have e16 : Ext F F6 := (e2.trans e3).trans e6
        cases fl with
        | nx => exact ⟨F6, ρ5, e16, g6, FinS.up (show FinS K G F3 W (loopW mt mb m ρ5) D from h5) e6⟩
        | ct => exact ⟨F6, ρ5, e16, g6, FinS.up (show FinS K G F3 W (loopW mt mb m ρ5) D from h5) e6⟩
        | bk => exact h5 σ6 F6 H6 e6 g6
        | rt d => exact h5 σ6 F6 H6 e6 g6
end

/-! ### list comprehensions -/
section
variable {K : PySem.W.Frag} [Tb K] {W : WX}
abbrev W0 : WX := fun _ _ _ _ => False
/-- what may be raised is not spoken of -/
def nox {α : Type} (r : Rs α) : Rs α := match r with
  | .exc _ _ _ => .bad
  | r => r
theorem fin_nox {α : Type} {G : Gr} {F : Hp} {W : WX} {σ : L2.St} {r : Rs α} {P : α → DEnv → Hp → Hp → Prop} (h : Fin K G F W σ (nox r) P) : Fin K G F W0 σ r P := by
  cases r with
  | bad => exact h
  | ok a ρ => exact h
  | exc n o ρ => exact h.elim
/-- the names vs forgotten: they hold no list of one's own -/
def wipeD (ρ : DEnv) (vs : List Nat) : DEnv := vs.foldr (fun i ρ => ρ.set i .un) ρ
def noOwn (ρ : DEnv) (vs : List Nat) : Bool := vs.all fun i => match ρ[i]? with
  | some (.own _ _) => false
  | _ => true
/-- the names vs as they were ahead -/
def backD (ρ ρ' : DEnv) (vs : List Nat) : DEnv := vs.foldr (fun i ρ1 => ρ1.set i (ρ[i]?.getD .un)) ρ'
def loopC (mg : GM) (mt : TM) (me : EM) (vs : List Nat) : List D → List D → DEnv → Rs (List D)
  | [], acc, ρ => .ok acc ρ
  | d :: ds, acc, ρ => (nox (mg d (wipeD ρ vs))).bind fun _ ρ1 => (nox (mt ρ1)).bind fun b ρ2 => if b then (nox (me ρ2)).bind fun x ρ3 => (opt (frz ρ3 x) ρ3).bind fun p _ => loopC mg mt me vs ds (acc ++ [p.1]) p.2
    else loopC mg mt me vs ds acc ρ2
def nLc (mi : IM) (mg : GM) (mt : TM) (me : EM) (vs : List Nat) : NM := fun ρ => (mi ρ).bind fun ds ρ1 => if noOwn ρ1 vs && decide (ds.length ≤ sizeLine) then
  (nox (loopC mg mt me vs ds [] ρ1)).bind fun acc ρ2 => .ok acc (backD ρ1 ρ2 vs) else .bad
theorem wipeD_len (ρ : DEnv) : ∀ vs : List Nat, (wipeD ρ vs).length = ρ.length
  | [] => rfl
  | i :: vs => by
    show ((wipeD ρ vs).set i .un).length = ρ.length
    rw [List.length_set, wipeD_len ρ vs]
theorem wipeD_get (ρ : DEnv) : ∀ (vs : List Nat) (k : Nat), (wipeD ρ vs)[k]? = if k ∈ vs ∧ k < ρ.length then some .un else ρ[k]?
  | [], k => by simp [wipeD]
  | i :: vs, k => by
    show ((wipeD ρ vs).set i .un)[k]? = _
    by_cases e : i = k
    · subst e
      by_cases hl : i < ρ.length
      · rw [List.getElem?_set_self (by rw [wipeD_len]; exact hl), if_pos ⟨List.mem_cons_self, hl⟩]
      · rw [if_neg (fun z => hl z.2), List.getElem?_eq_none (by rw [List.length_set, wipeD_len]; exact Nat.le_of_not_lt hl), List.getElem?_eq_none (Nat.le_of_not_lt hl)]
    · rw [List.getElem?_set_ne e, wipeD_get ρ vs k]
      have : (k ∈ i :: vs) ↔ k ∈ vs := by simp [Ne.symm e]
      simp only [this]
theorem wipe_get (σ : L2.St) : ∀ (vs : List Nat) (k : Nat), (wipe σ vs)[k]? = if k ∈ vs ∧ k < σ.length then some none else σ[k]?
  | [], k => by simp [wipe]
  | i :: vs, k => by
    show ((wipe σ vs).set i none)[k]? = _
    by_cases e : i = k
    · subst e
      by_cases hl : i < σ.length
      · rw [List.getElem?_set_self (by rw [wipe_length]; exact hl), if_pos ⟨List.mem_cons_self, hl⟩]
      · rw [if_neg (fun z => hl z.2), List.getElem?_eq_none (by rw [List.length_set, wipe_length]; exact Nat.le_of_not_lt hl), List.getElem?_eq_none (Nat.le_of_not_lt hl)]
    · rw [List.getElem?_set_ne e, wipe_get σ vs k]
      have : (k ∈ i :: vs) ↔ k ∈ vs := by simp [Ne.symm e]
      simp only [this]
theorem backD_len (ρ ρ' : DEnv) : ∀ vs : List Nat, (backD ρ ρ' vs).length = ρ'.length
  | [] => rfl
  | i :: vs => by
    show ((backD ρ ρ' vs).set i _).length = ρ'.length
    rw [List.length_set, backD_len ρ ρ' vs]
theorem backD_get (ρ ρ' : DEnv) (hl : ρ.length = ρ'.length) : ∀ (vs : List Nat) (k : Nat), (backD ρ ρ' vs)[k]? = if k ∈ vs then ρ[k]? else ρ'[k]?
  | [], k => by simp [backD]
  | i :: vs, k => by
    show ((backD ρ ρ' vs).set i (ρ[i]?.getD .un))[k]? = _
    by_cases e : i = k
    · subst e
      rw [if_pos List.mem_cons_self]
      by_cases hi : i < ρ'.length
      · rw [List.getElem?_set_self (by rw [backD_len]; exact hi), List.getElem?_eq_getElem (by rw [hl]; exact hi)]; rfl
      · rw [List.getElem?_eq_none (by rw [List.length_set, backD_len]; exact Nat.le_of_not_lt hi), List.getElem?_eq_none (by rw [hl]; exact Nat.le_of_not_lt hi)]
    · rw [List.getElem?_set_ne e, backD_get ρ ρ' hl vs k]
      have : (k ∈ i :: vs) ↔ k ∈ vs := by simp [Ne.symm e]
      simp only [this]
theorem But.wipe {js vs : List Nat} {σ σ' : L2.St} (b : But js σ σ') (hs : ∀ k ∈ js, k ∈ vs) : L2.wipe σ' vs = L2.wipe σ vs := by
  apply List.ext_getElem?
  intro k
  rw [wipe_get, wipe_get, b.1]
  by_cases hk : k ∈ vs
  · by_cases h2 : k < σ.length
    · rw [if_pos ⟨hk, h2⟩, if_pos ⟨hk, h2⟩]
    · rw [if_neg (fun z => h2 z.2), if_neg (fun z => h2 z.2), List.getElem?_eq_none (by have := b.1; omega), List.getElem?_eq_none (by omega)]
  · rw [if_neg (fun z => hk z.1), if_neg (fun z => hk z.1)]
    exact b.2 k fun z => hk (hs k z)
theorem wipe_wipe (σ : L2.St) (vs : List Nat) : wipe (wipe σ vs) vs = wipe σ vs := by
  apply List.ext_getElem?
  intro k
  rw [wipe_get, wipe_get, wipe_length]
  by_cases h : k ∈ vs ∧ k < σ.length
  · rw [if_pos h, if_pos h]
  · rw [if_neg h]
theorem Gud.wiped {G : Gr} {F H : Hp} {σ : L2.St} {ρ : DEnv} (g : Gud K G F H σ ρ) (vs : List Nat) : Gud K G F H (wipe σ vs) (wipeD ρ vs) := by
  have out : ∀ {k : Nat} {x : Sl}, (wipeD ρ vs)[k]? = some x → x ≠ .un → ρ[k]? = some x ∧ (wipe σ vs)[k]? = σ[k]? := fun {k x} h hx => by
    rw [wipeD_get] at h
    by_cases hk : k ∈ vs ∧ k < ρ.length
    · rw [if_pos hk] at h; exact absurd (Option.some.inj h).symm hx
    · rw [if_neg hk] at h
      exact ⟨h, by rw [wipe_get, if_neg (by rw [g.len]; exact hk)]⟩
  refine ⟨by rw [wipe_length, wipeD_len, g.len], g.f0, g.ff, g.bb, g.tab, g.new, fun i d h => ?_, fun i b ds h => ?_, fun i j b c ds es p ne h1 h2 => ?_⟩
  · obtain ⟨h1, h2⟩ := out h (by intro z; cases z)
    rw [h2]; exact g.dat i d h1
  · obtain ⟨h1, h2⟩ := out h (by intro z; cases z)
    rw [h2]; exact g.own i b ds h1
  · obtain ⟨a1, a2⟩ := out h1 (by intro z; cases z)
    obtain ⟨b1, b2⟩ := out h2 (by intro z; cases z)
    rw [a2, b2]; exact g.dis i j b c ds es p ne a1 b1
theorem Gud.backed {G : Gr} {F F' H H' : Hp} {σ : L2.St} {ρ ρ' : DEnv} {vs : List Nat} (g : Gud K G F H σ ρ) (no : noOwn ρ vs = true) (e : Ext F F') (g' : Gud K G F' H' (wipe σ vs) ρ') : Gud K G F' H' σ (backD ρ ρ' vs) := by
  have hl : ρ.length = ρ'.length := by rw [← g.len, ← g'.len, wipe_length]
  have key : ∀ {k : Nat} {b : Bool} {ds : List D}, (backD ρ ρ' vs)[k]? = some (.own b ds) → k ∉ vs ∧ ρ'[k]? = some (.own b ds) ∧ (wipe σ vs)[k]? = σ[k]? := fun {k b ds} h => by
    rw [backD_get ρ ρ' hl] at h
    by_cases hk : k ∈ vs
    · rw [if_pos hk] at h
      have q := List.all_eq_true.mp no k hk
      rw [h] at q; cases q
    · rw [if_neg hk] at h
      exact ⟨hk, h, by rw [wipe_get, if_neg (fun z => hk z.1)]⟩
  refine ⟨by rw [backD_len, ← hl, g.len], g'.f0, g'.ff, g'.bb, g'.tab, g'.new, fun i d h => ?_, fun i b ds h => ?_, fun i j b c ds es p ne h1 h2 => ?_⟩
  · rw [backD_get ρ ρ' hl] at h
    by_cases hk : i ∈ vs
    · rw [if_pos hk] at h
      obtain ⟨v, a1, a2⟩ := g.dat i d h
      exact ⟨v, a1, a2.up e⟩
    · rw [if_neg hk] at h
      obtain ⟨v, a1, a2⟩ := g'.dat i d h
      rw [wipe_get, if_neg (fun z => hk z.1)] at a1
      exact ⟨v, a1, a2⟩
  · obtain ⟨_, h1, h2⟩ := key h
    obtain ⟨p, xs, a1, r⟩ := g'.own i b ds h1
    rw [h2] at a1
    exact ⟨p, xs, a1, r⟩
  · obtain ⟨_, a1, a2⟩ := key h1
    obtain ⟨_, b1, b2⟩ := key h2
    have q := g'.dis i j b c ds es p ne a1 b1
    rw [a2, b2] at q
    exact q
/-- an object that is kept as it is, in the ground -/
def Gr.hold (G : Gr) (p : Addr) (o : HO) : Gr := { G with B := upd G.B p o }
theorem lv_hold {G : Gr} {p a : Addr} {o : HO} (h : Lv G.B a) (hB : Off G.B p) : Lv (G.hold p o).B a := by
  obtain ⟨u, h1, h2⟩ := h
  exact ⟨u, by rw [show (G.hold p o).B a = G.B a from upd_ne (fun z => hB ⟨u, by rw [← z]; exact h1, h2⟩)]; exact h1, h2⟩
theorem lv_unhold {G : Gr} {p a : Addr} {o : HO} (h : Lv (G.hold p o).B a) (ne : a ≠ p) : Lv G.B a := by
  obtain ⟨u, h1, h2⟩ := h
  exact ⟨u, by rw [← show (G.hold p o).B a = G.B a from upd_ne ne]; exact h1, h2⟩
theorem Gud.hold {G : Gr} {F H : Hp} {σ : L2.St} {ρ : DEnv} {p : Addr} {ys : List V} (g : Gud K G F H σ ρ) (hp : H p = some (.lst ys)) (hF : F p = none) (ho : ∀ (j : Nat) (b : Bool) (es : List D), ρ[j]? = some (.own b es) → σ[j]? ≠ some (some (.ref p))) : Gud K (G.hold p (.lst ys)) F H σ ρ :=
  ⟨g.len, g.f0, g.ff, fun a u e n => by
    by_cases q : a = p
    · subst q; rw [show (G.hold a (.lst ys)).B a = some (.lst ys) from upd_same] at e; cases e; exact hp
    · rw [show (G.hold p (.lst ys)).B a = G.B a from upd_ne q] at e; exact g.bb a u e n, g.tab, fun a h1 h2 => by
    by_cases q : a = p
    · subst q; exact hF
    · exact g.new a h1 (lv_unhold h2 q), g.dat, fun i b ds e => by
    obtain ⟨q, xs, a1, a2, a3, a4, a5, a6, a7⟩ := g.own i b ds e
    exact ⟨q, xs, a1, a2, a3, a4, a5, fun l => a6 (lv_unhold l fun z => ho i b ds e (by rw [a1, z])), a7⟩, g.dis⟩
theorem Gud.unhold {G : Gr} {F H : Hp} {σ : L2.St} {ρ : DEnv} {p : Addr} {ys : List V} (g : Gud K (G.hold p (.lst ys)) F H σ ρ) (hB : Off G.B p) (h0 : G.F0 p = none) :
    Gud K G F H σ ρ ∧ H p = some (.lst ys) ∧ F p = none ∧ ∀ (j : Nat) (b : Bool) (es : List D), ρ[j]? = some (.own b es) → σ[j]? ≠ some (some (.ref p)) := by
  have at_ : (G.hold p (.lst ys)).B p = some (.lst ys) := upd_same
  have sub : ∀ a u, G.B a = some u → (∀ ps, u ≠ .tbl ps) → (G.hold p (.lst ys)).B a = some u := fun a u e n => by
    rw [show (G.hold p (.lst ys)).B a = G.B a from upd_ne (fun z => hB ⟨u, by rw [← z]; exact e, n⟩)]; exact e
  refine ⟨⟨g.len, g.f0, g.ff, fun a u e n => g.bb a u (sub a u e n) n, g.tab, fun a h1 h2 => g.new a h1 (lv_hold h2 hB), g.dat, fun i b ds e => ?_, g.dis⟩, g.bb p _ at_ (fun _ z => by cases z), g.new p h0 (.lst at_), fun j b es e q => ?_⟩
  · obtain ⟨q, xs, a1, a2, a3, a4, a5, a6, a7⟩ := g.own i b ds e
    exact ⟨q, xs, a1, a2, a3, a4, a5, fun l => a6 (lv_hold l hB), a7⟩
  · obtain ⟨p', xs, a1, a2, a3, a4, a5, a6, a7⟩ := g.own j b es e
    rw [q] at a1; cases a1
    exact a6 (.lst at_)
/-- the list at p, outside of the frame, may be changed -/
theorem Gud.poke {G : Gr} {F H : Hp} {σ : L2.St} {ρ : DEnv} {p : Addr} {xs ys : List V} (g : Gud K G F H σ ρ) (hp : H p = some (.lst xs)) (hF : F p = none) (hB : Off G.B p) (ho : ∀ (j : Nat) (b : Bool) (es : List D), ρ[j]? = some (.own b es) → σ[j]? ≠ some (some (.ref p))) : Gud K G F (upd H p (.lst ys)) σ ρ :=
  ⟨g.len, g.f0, fun a u e => by rw [upd_ne (ne_of_none e hF)]; exact g.ff a u e, fun a u e n => by rw [upd_ne (fun z => hB ⟨u, by rw [← z]; exact e, n⟩)]; exact g.bb a u e n, g.tab.lst hp, g.new, g.dat, fun i b ds e => by
    obtain ⟨q, xs, a1, a2, a3, a4, a5, a6, a7⟩ := g.own i b ds e
    exact ⟨q, xs, a1, by rw [upd_ne (fun z => ho i b ds e (by rw [a1, z]))]; exact a2, a3, a4, a5, a6, a7⟩, g.dis⟩
theorem backD_wiped (ρ ρ' : DEnv) (hl : ρ.length = ρ'.length) (vs : List Nat) : backD ρ (wipeD ρ' vs) vs = backD ρ ρ' vs := by
  apply List.ext_getElem?
  intro k
  rw [backD_get ρ _ (by rw [wipeD_len, hl]), backD_get ρ _ hl, wipeD_get]
  by_cases h : k ∈ vs
  · rw [if_pos h, if_pos h]
  · rw [if_neg h, if_neg h, if_neg (fun z => h z.1)]
theorem rdn_lc {wi : TI} {g : TG} {tt : TT} {te : TE} {mi : IM} {mg : GM} {mt : TM} {me : EM} {js vs : List Nat} (hi : RdI K W wi mi) (hg : RdG K js g mg) (ht : RdT K W0 tt mt) (he : RdE K W0 te me) (hs : ∀ k ∈ js, k ∈ vs) :
    RdN K W (tLc wi g tt te vs) (nLc mi mg mt me vs) := by
  intro G F H σ ρ Q gd h
  refine hi G F H σ ρ _ gd (h.bind.imp fun ds ρ1 F1 H1 e1 g1 h1 J hJ => ?_)
  have hno : (noOwn ρ1 vs && decide (ds.length ≤ sizeLine)) = true := Classical.byContradiction fun z => by
    rw [if_neg z] at h1; exact h1
  rw [if_pos hno] at h1
  obtain ⟨hno, hsz⟩ := Bool.and_eq_true_iff.mp hno
  have hsz : ds.length ≤ sizeLine := of_decide_eq_true hsz
  cases hr : loopC mg mt me vs ds [] ρ1 with
  | bad => rw [hr] at h1; exact h1.elim
  | exc n o ρ' => rw [hr] at h1; exact h1.elim
  | ok accF ρF =>
  rw [hr] at h1
  intro D hD
  obtain ⟨f1, f2, f3, f4⟩ := g1.fresh (xs := []) hD (Nat.zero_le _)
  have h0 : G.F0 D = none := g1.f0.none f2
  have ownW : ∀ {ρ' : DEnv} {σ' : L2.St}, (∀ (j : Nat) (b : Bool) (es : List Pm.D), ρ'[j]? = some (.own b es) → σ'[j]? ≠ some (some (.ref D))) → ∀ (j : Nat) (b : Bool) (es : List Pm.D), (wipeD ρ' vs)[j]? = some (.own b es) → (wipe σ' vs)[j]? ≠ some (some (.ref D)) := by
    intro ρ' σ' ho j b es e
    rw [wipeD_get] at e
    by_cases hk : j ∈ vs ∧ j < ρ'.length
    · rw [if_pos hk] at e; cases e
    · rw [if_neg hk] at e
      intro z
      rw [wipe_get] at z
      by_cases h2 : j ∈ vs ∧ j < σ'.length
      · rw [if_pos h2] at z; cases z
      · rw [if_neg h2] at z; exact ho j b es e z
  refine ⟨fun i m H' => m = ds.length - i ∧ i ≤ ds.length ∧ ∃ F' ρ' acc xs, Ext F1 F' ∧ Gud K G F' H' (wipe σ vs) (wipeD ρ' vs) ∧ H' D = some (.lst xs) ∧ RepL K F' acc xs ∧ xs.length ≤ i ∧ F' D = none ∧
    (∀ (j : Nat) (b : Bool) (es : List Pm.D), (wipeD ρ' vs)[j]? = some (.own b es) → (wipe σ vs)[j]? ≠ some (some (.ref D))) ∧ loopC mg mt me vs (ds.drop i) acc ρ' = .ok accF ρF,
    ⟨_, rfl, Nat.zero_le _, F1, ρ1, [], [], Ext.refl _, f1.wiped vs, upd_same, .nil, Nat.le_refl _, f2, ownW f4, hr⟩, ?_⟩
  rintro i m H2 ⟨rfl, hile, F2, ρ2, acc, xs, e2, g2, hx, hra, hxl, hFD, hown, hl⟩
  obtain ⟨k1, k2, k3⟩ := hJ F2 H2 i e2 g2.ff
  by_cases hlt : i < ds.length
  · have hd : ds[i]? = some ds[i] := List.getElem?_eq_getElem hlt
    rw [List.drop_eq_getElem_cons hlt] at hl
    refine .inr ⟨k1 hlt, fun H' => ∃ F' ρ' acc xs, Ext F1 F' ∧ Gud K G F' H' (wipe σ vs) (wipeD ρ' vs) ∧ H' D = some (.lst xs) ∧ RepL K F' acc xs ∧ xs.length ≤ i + 1 ∧ F' D = none ∧
      (∀ (j : Nat) (b : Bool) (es : List Pm.D), (wipeD ρ' vs)[j]? = some (.own b es) → (wipe σ vs)[j]? ≠ some (some (.ref D))) ∧ loopC mg mt me vs (ds.drop (i + 1)) acc ρ' = .ok accF ρF, ?_, ?_⟩
    · rintro H' ⟨F', ρ', a, y, r⟩
      exact ⟨ds.length - (i + 1), by omega, rfl, hlt, F', ρ', a, y, r⟩
    · intro x H3 hy
      obtain ⟨F3, w, r⟩ := k3 x H3 hy _ hd
      have gh : Gud K (G.hold D (.lst xs)) F3 H3 (wipe σ vs) (wipeD ρ2 vs) := (g2.hold hx hFD hown).grow w
      have hl2 : (nox (mg ds[i] (wipeD ρ2 vs))).bind (fun _ ρ1 => (nox (mt ρ1)).bind fun b ρ2 => if b then (nox (me ρ2)).bind fun x ρ3 => (opt (frz ρ3 x) ρ3).bind fun p _ => loopC mg mt me vs (ds.drop (i + 1)) (acc ++ [p.1]) p.2
        else loopC mg mt me vs (ds.drop (i + 1)) acc ρ2) = .ok accF ρF := hl
      refine hg (G.hold D (.lst xs)) F3 H3 (wipe σ vs) (wipeD ρ2 vs) _ x _ gh r ?_
      cases q1 : mg ds[i] (wipeD ρ2 vs) with
      | bad => rw [q1] at hl2; cases hl2
      | exc n o ρ' => rw [q1] at hl2; cases hl2
      | ok u ρa =>
      rw [q1] at hl2
      have hl3 : (nox (mt ρa)).bind (fun b ρ2 => if b then (nox (me ρ2)).bind fun x ρ3 => (opt (frz ρ3 x) ρ3).bind fun p _ => loopC mg mt me vs (ds.drop (i + 1)) (acc ++ [p.1]) p.2
        else loopC mg mt me vs (ds.drop (i + 1)) acc ρ2) = .ok accF ρF := hl2
      intro σa Fa Ha ea ga ba
      have ew : wipe σa vs = wipe σ vs := by rw [ba.wipe hs, wipe_wipe]
      refine ⟨ew, ht (G.hold D (.lst xs)) Fa Ha σa ρa _ ga ?_⟩
      cases q2 : mt ρa with
      | bad => rw [q2] at hl3; cases hl3
      | exc n o ρ' => rw [q2] at hl3; cases hl3
      | ok b ρb =>
      rw [q2] at hl3
      have hl4 : (if b then (nox (me ρb)).bind fun x ρ3 => (opt (frz ρ3 x) ρ3).bind fun p _ => loopC mg mt me vs (ds.drop (i + 1)) (acc ++ [p.1]) p.2
        else loopC mg mt me vs (ds.drop (i + 1)) acc ρb) = .ok accF ρF := hl3
      intro Fb Hb eb gb
      cases b with
      | false =>
        obtain ⟨u1, u2, u3, u4⟩ := gb.unhold f3 h0
        have g5 := u1.wiped vs
        rw [ew] at g5
        have o5 := ownW u4
        rw [ew] at o5
        exact ⟨Fb, ρb, acc, xs, ((e2.trans w.ff).trans ea).trans eb, g5, u2, ((hra.up w.ff).up ea).up eb, Nat.le_succ_of_le hxl, u3, o5, hl4⟩
      | true =>
        refine he (G.hold D (.lst xs)) Fb Hb σa ρb _ gb ?_
        have hl5 : (nox (me ρb)).bind (fun x ρ3 => (opt (frz ρ3 x) ρ3).bind fun p _ => loopC mg mt me vs (ds.drop (i + 1)) (acc ++ [p.1]) p.2) = .ok accF ρF := hl4
        cases q3 : me ρb with
        | bad => rw [q3] at hl5; cases hl5
        | exc n o ρ' => rw [q3] at hl5; cases hl5
        | ok y ρc =>
        rw [q3] at hl5
        have hl6 : (opt (frz ρc y) ρc).bind (fun p _ => loopC mg mt me vs (ds.drop (i + 1)) (acc ++ [p.1]) p.2) = .ok accF ρF := hl5
        intro Fc Hc ec gc v hv
        cases q4 : frz ρc y with
        | none => rw [q4] at hl6; cases hl6
        | some p =>
        obtain ⟨d, ρd⟩ := p
        rw [q4] at hl6
        obtain ⟨F6, a1, a2, a3⟩ := frz_ok gc hv q4
        obtain ⟨u1, u2, u3, u4⟩ := a2.unhold f3 h0
        have lz : xs.length < sizeLine := Nat.lt_of_le_of_lt hxl (Nat.lt_of_lt_of_le hlt hsz)
        have g7 := (u1.poke (ys := xs ++ [v]) u2 u3 f3 u4).wiped vs
        rw [ew] at g7
        have o7 := ownW u4
        rw [ew] at o7
        refine ⟨xs, u2, lz, F6, ρd, acc ++ [d], xs ++ [v], ((((e2.trans w.ff).trans ea).trans eb).trans ec).trans a1, g7, upd_same, ?_, by simp; exact hxl, u3, o7, hl6⟩
        exact (((((hra.up w.ff).up ea).up eb).up ec).up a1).snoc a3
  · refine .inl ⟨k2 (Nat.le_of_not_lt hlt), ?_⟩
    rw [List.drop_of_length_le (Nat.le_of_not_lt hlt)] at hl
    cases hl
    have hlen : ρ1.length = ρF.length := by
      have a := g2.len
      rw [wipe_length, wipeD_len, g1.len] at a
      exact a
    have gb := g1.backed hno e2 g2
    rw [backD_wiped ρ1 ρF hlen] at gb
    refine h1 F2 H2 e2 gb D xs hx (Nat.le_trans hxl (Nat.le_trans hile hsz)) hra hFD f3 fun j b es e => ?_
    rw [backD_get ρ1 ρF hlen] at e
    by_cases hk : j ∈ vs
    · rw [if_pos hk] at e
      have q := List.all_eq_true.mp hno j hk
      rw [e] at q; cases q
    · rw [if_neg hk] at e
      have z := hown j b es (by rw [wipeD_get, if_neg (fun z => hk z.1)]; exact e)
      rw [wipe_get, if_neg (fun z => hk z.1)] at z
      exact z
/-- no test -/
def mYes : TM := fun ρ => .ok true ρ
theorem rd_yes : RdT K W tYes mYes := fun G F H σ ρ Q g h => h F H (Ext.refl _) g
end
end Pm

set_option Elab.async false
set_option linter.all false
set_option maxRecDepth 100000
set_option maxHeartbeats 2000000
/-! Pm4: defs: what a def comes to as a function of data; its call; raise. -/
namespace Pm
open PySem PySem.Spec PyProof.Rows L2

inductive Rf (α : Type) where
  | bad | ok (a : α) | exc (n : Str) (o : Option (List Str × List D))
def SpF (K : PySem.W.Frag) [Tb K] (n : Nat) (f : List D → Rf D) : Sp := fun vs H Q E => ∃ (F : Hp) (ds : List D), Ext F H ∧ TbOk K F H ∧ RepL K F ds vs ∧ ds.length = n ∧ (match f ds with
  | .bad => False
  | .ok d => ∀ v F' H', GrwT K F H F' H' → Rep K F' d v → Q v H'
  | .exc n o => ∀ dx F' H', GrwT K F H F' H' → XRep K F' H' o dx → E (.ref (He.ga K n)) dx H')
/-- the list at p is the callee's to change -/
structure GrwO (K : PySem.W.Frag) [Tb K] (p : Addr) (F H F' H' : Hp) (ys : List V) : Prop where
  ff : Ext F F'
  fh : Ext F' H'
  keep : ∀ a o, a ≠ p → H a = some o → (∀ ps, o ≠ .tbl ps) → H' a = some o
  tab : TbOk K F' H'
  at_ : H' p = some (.lst ys)
  new : ∀ a, F a = none → Lv H a → F' a = none
def SpO (K : PySem.W.Frag) [Tb K] (n : Nat) (f : List D → List D → Rf (D × List D)) : Sp := fun vs H Q E => ∃ (F : Hp) (p : Addr) (xs vr : List V) (ds rs : List D), vs = .ref p :: vr ∧ rs.length + 1 = n ∧ Ext F H ∧ TbOk K F H ∧ F p = none ∧ H p = some (.lst xs) ∧
  xs.length ≤ sizeLine ∧ RepL K F ds xs ∧ RepL K F rs vr ∧ (match f ds rs with
  | .ok (d, es) => ∀ v F' H' ys, GrwO K p F H F' H' ys → ys.length ≤ sizeLine → RepL K F' es ys → Rep K F' d v → Q v H'
  | _ => False)
/-- the frame at a def's entry -/
def ent (N : Nat) (ds : List Sl) : DEnv := ds ++ List.replicate (N - ds.length) .un
def runF (m : SM) (N : Nat) (ds : List D) : Rf D := match m (ent N (ds.map .dat)) with
  | .ok (.rt d) _ => .ok d
  | .ok .nx _ => .ok .non
  | .exc n o _ => .exc n o
  | _ => .bad
def own0 (ρ : DEnv) (d : D) : Rf (D × List D) := match ρ with
  | .own true es :: _ => .ok (d, es)
  | _ => .bad
def runO (m : SM) (N : Nat) (ds rs : List D) : Rf (D × List D) := match m (ent N (.own true ds :: rs.map .dat)) with
  | .ok (.rt d) ρ => own0 ρ d
  | .ok .nx ρ => own0 ρ .non
  | _ => .bad
section
variable {K : PySem.W.Frag} [Tb K]
theorem ent_get {N : Nat} {sl : List Sl} {i : Nat} {x : Sl} (h : (ent N sl)[i]? = some x) : x = .un ∨ sl[i]? = some x := by
  unfold ent at h
  by_cases hi : i < sl.length
  · rw [List.getElem?_append_left hi] at h; exact .inr h
  · rw [List.getElem?_append_right (Nat.le_of_not_lt hi)] at h
    exact .inl (List.mem_replicate.mp (List.mem_of_getElem? h)).2
theorem start_get {N : List Str} {vs : List V} {i : Nat} {v : V} (h : vs[i]? = some v) : (L2.start N vs)[i]? = some (some v) := by
  unfold L2.start
  have hi : i < vs.length := (List.getElem?_eq_some_iff.mp h).1
  rw [List.getElem?_append_left (by rw [List.length_map]; exact hi), List.getElem?_map, h]
  rfl
theorem start_len (N : List Str) (vs : List V) : (L2.start N vs).length = vs.length + (N.length - vs.length) := by
  unfold L2.start; simp
theorem ent_len (N : Nat) (sl : List Sl) : (ent N sl).length = sl.length + (N - sl.length) := by
  unfold ent; simp
theorem gud_ent {F H : Hp} {N : List Str} {ds : List D} {vs : List V} (e : Ext F H) (tb : TbOk K F H) (r : RepL K F ds vs) : Gud K ⟨H, F, none⟩ F H (L2.start N vs) (ent N.length (ds.map .dat)) := by
  have get : ∀ {i : Nat} {x : Sl}, (ent N.length (ds.map Sl.dat))[i]? = some x → x ≠ .un → ∃ d, ds[i]? = some d ∧ x = .dat d := fun {i x} h hx => by
    rcases ent_get h with z | z
    · exact absurd z hx
    · rw [List.getElem?_map] at z
      cases q : ds[i]? with
      | none => rw [q] at z; cases z
      | some d => rw [q] at z; exact ⟨d, rfl, (Option.some.inj z).symm⟩
  refine ⟨by rw [start_len, ent_len, List.length_map, r.length], Ext.refl _, e, LamX.ExtN.refl _, tb, fun a h1 _ => h1, fun i d h => ?_, fun i b es h => ?_, fun i j b c es fs p ne h1 => ?_⟩
  · obtain ⟨d', h1, h2⟩ := get h (by intro z; cases z)
    cases h2
    obtain ⟨v, a1, a2⟩ := r.get h1
    exact ⟨v, start_get a1, a2⟩
  · obtain ⟨d', _, h2⟩ := get h (by intro z; cases z)
    cases h2
  · obtain ⟨d', _, h2⟩ := get h1 (by intro z; cases z)
    cases h2
theorem gud_entO {F H : Hp} {N : List Str} {ds rs : List D} {p : Addr} {xs vr : List V} (e : Ext F H) (tb : TbOk K F H) (hF : F p = none) (hp : H p = some (.lst xs)) (hz : xs.length ≤ sizeLine) (r : RepL K F ds xs) (rr : RepL K F rs vr) :
    Gud K ⟨fun a => if a = p then none else H a, F, some p⟩ F H (L2.start N (.ref p :: vr)) (ent N.length (.own true ds :: rs.map .dat)) := by
  have get : ∀ {i : Nat} {x : Sl}, (ent N.length (.own true ds :: rs.map Sl.dat))[i]? = some x → x ≠ .un → (i = 0 ∧ x = .own true ds) ∨ ∃ k d, i = k + 1 ∧ rs[k]? = some d ∧ x = .dat d := fun {i x} h hx => by
    rcases ent_get h with z | z
    · exact absurd z hx
    · cases i with
      | zero => exact .inl ⟨rfl, (Option.some.inj z).symm⟩
      | succ k =>
        rw [List.getElem?_cons_succ, List.getElem?_map] at z
        cases q : rs[k]? with
        | none => rw [q] at z; cases z
        | some d => rw [q] at z; exact .inr ⟨k, d, rfl, q, (Option.some.inj z).symm⟩
  refine ⟨by rw [start_len, ent_len, List.length_cons, List.length_cons, List.length_map, rr.length], Ext.refl _, e, fun a o h _ => ?_, tb, fun a h1 _ => h1, fun i d h => ?_, fun i b es h => ?_, fun i j b c es fs q ne h1 h2 => ?_⟩
  · have h' : (if a = p then none else H a) = some o := h
    by_cases z : a = p
    · rw [if_pos z] at h'; cases h'
    · rw [if_neg z] at h'; exact h'
  · rcases get h (by intro z; cases z) with ⟨_, h2⟩ | ⟨k, d', rfl, h1, h2⟩
    · cases h2
    · cases h2
      obtain ⟨v, a1, a2⟩ := rr.get h1
      exact ⟨v, start_get (by rw [List.getElem?_cons_succ]; exact a1), a2⟩
  · rcases get h (by intro z; cases z) with ⟨rfl, h2⟩ | ⟨k, d', rfl, h1, h2⟩
    · cases h2
      exact ⟨p, xs, start_get rfl, hp, hz, r, hF, fun ⟨o, q, _⟩ => by simp at q, fun _ => rfl⟩
    · cases h2
  · rcases get h1 (by intro z; cases z) with ⟨rfl, _⟩ | ⟨k, d', rfl, _, q1⟩
    · rcases get h2 (by intro z; cases z) with ⟨rfl, _⟩ | ⟨k, d', rfl, _, q2⟩
      · exact absurd rfl ne
      · cases q2
    · cases q1
end
section
variable {P : Program} {w : World} {K : PySem.W.Frag} [Tb K] {mg : Str → Option Value} {base : Heap} {x qual : Str} {params : Arguments} {body : List Stmt} {scope : Scope} {dvs : List V} {kws : List (Str × V)} {f : Addr} {fd : FuncData}
/-- what a def promises where no repr is under way -/
structure FnG (P : Program) (w : World) (K : PySem.W.Frag) (mg : Str → Option Value) (base : Heap) (CX : CXT) (k : Nat) (f : Addr) (fd : FuncData) (ps : List Str) (sp : Sp) : Prop where
  len : ∀ vs H Q E, sp vs H Q E → vs.length = ps.length
  run : ∀ (A : Around) (l : List PySem.Env) (s : Shared) (H : Hp) (args : Args) (us : List Value) (vs : List V) (Q : VK) (E : XK), Room k A → A.guards = some [] → Env0 P w K mg base A l s H → BindsTo s fd args (ps.zip us) → Vals vs us → sp vs H Q E →
    codeAny (model P w) A (.call (.ref f) args) (CR CX l P w H s Q E) s
theorem FunD.okG {CX : CXT} {N ps : List Str} {k : Nat} {sp : Sp} (F : FunD K x qual params body scope dvs kws f fd) (S : FnScope N ps scope) (len : ∀ vs H Q E, sp vs H Q E → vs.length = ps.length)
    (hb : ∀ (cdv : Value) (A : Around) (l : List PySem.Env) (s : Shared) (H : Hp) (vs : List V) (Q : VK) (E : XK), Room k (A.deeper (envOfC qual scope s.heap.objs.size f cdv)) → A.guards = some [] → sp vs H Q E →
      ∃ t, PSs (cxOf CX P w K mg base N qual scope f cdv A l s H E) body t ∧ t { nx := fun _ H' => Q .non H', rt := Q } (L2.start N vs) H) : FnG P w K mg base CX (k + 1) f fd ps sp := by
  obtain ⟨oc, od, dV, kV, doc, pm, an, cdv, ct, osl, rfl, lk, hcd, _, _⟩ := F.ex
  exact ⟨len, fun A l s H args us vs Q E hr hg e0 hbi r h => LamX.run_ofS lk hcd S hr e0 hbi r (len _ _ _ _ h) fun hr' => hb cdv A l s H vs Q E hr' hg h⟩
/-- the promise from the body's reading -/
theorem spf_to {N ps : List Str} {m : SM} {t : TS} {vs : List V} {H : Hp} {Q : VK} {E : XK} (hm : RdS K (fun c d _ H' => E c d H') t m) (h : SpF K ps.length (runF m N.length) vs H Q E) : t { nx := fun _ H' => Q .non H', rt := Q } (L2.start N vs) H := by
  obtain ⟨F0, ds, e, tb, r, hl, h⟩ := h
  refine hm ⟨H, F0, none⟩ F0 H (L2.start N vs) (ent N.length (ds.map .dat)) _ (gud_ent e tb r) ?_
  unfold runF at h
  cases q : m (ent N.length (ds.map .dat)) with
  | bad => rw [q] at h; exact h
  | exc n o ρ' =>
    rw [q] at h
    exact fun σ' dx F' H' e1 g1 xr => h dx F' H' ⟨e1, g1.ff, g1.bb, g1.new, g1.tab⟩ xr
  | ok fl ρ' =>
    rw [q] at h
    cases fl with
    | nx => exact fun σ' F' H' e1 g1 => h _ F' H' ⟨e1, g1.ff, g1.bb, g1.new, g1.tab⟩ .non
    | rt d => exact fun σ' F' H' e1 g1 v rv => h v F' H' ⟨e1, g1.ff, g1.bb, g1.new, g1.tab⟩ rv
    | bk => exact h.elim
    | ct => exact h.elim
/-- a def upon data -/
theorem fn_pure {N ps : List Str} {k : Nat} {m : SM} (F : FunD K x qual params body scope dvs kws f fd) (S : FnScope N ps scope)
    (hb : ∀ (cdv : Value) (A : Around) (outer : List PySem.Env) (s : Shared) (H : Hp) (E : XK), Room k (A.deeper (envOfC qual scope s.heap.objs.size f cdv)) → A.guards = some [] →
      ∃ t, PSs (cxOf (L2.CX P w) P w K mg base N qual scope f cdv A outer s H E) body t ∧ RdS K (fun c d _ H' => E c d H') t m) :
    FnG P w K mg base (L2.CX P w) (k + 1) f fd ps (SpF K ps.length (runF m N.length)) := by
  refine FunD.okG F S (fun vs H Q E h => ?_) fun cdv A outer s H vs Q E hr hg h => ?_
  · obtain ⟨F0, ds, _, _, r, hl, _⟩ := h
    rw [← r.length, hl]
  · obtain ⟨t, ht, hm⟩ := hb cdv A outer s H E hr hg
    exact ⟨t, ht, spf_to hm h⟩
theorem own0_ok {ρ : DEnv} {d e : D} {es : List D} (h : own0 ρ d = .ok (e, es)) : e = d ∧ ρ[0]? = some (.own true es) := by
  cases ρ with
  | nil => cases h
  | cons a r =>
    cases a with
    | own b fs =>
      cases b with
      | true => cases h; exact ⟨rfl, rfl⟩
      | false => cases h
    | _ => cases h
/-- a def that changes the list that is its first argument -/
theorem fn_own {N ps : List Str} {k : Nat} {m : SM} (F : FunD K x qual params body scope dvs kws f fd) (S : FnScope N ps scope)
    (hb : ∀ (cdv : Value) (A : Around) (outer : List PySem.Env) (s : Shared) (H : Hp) (E : XK), Room k (A.deeper (envOfC qual scope s.heap.objs.size f cdv)) → A.guards = some [] →
      ∃ t, PSs (cxOf (L2.CX P w) P w K mg base N qual scope f cdv A outer s H E) body t ∧ RdS K (fun c d _ H' => E c d H') t m) :
    FnG P w K mg base (L2.CX P w) (k + 1) f fd ps (SpO K ps.length (runO m N.length)) := by
  refine FunD.okG F S (fun vs H Q E h => ?_) fun cdv A outer s H vs Q E hr hg h => ?_
  · obtain ⟨F0, p, xs, vr, ds, rs, rfl, hl, _, _, _, _, _, _, rr, _⟩ := h
    rw [List.length_cons, ← rr.length, hl]
  · obtain ⟨F0, p, xs, vr, ds, rs, rfl, hl, e, tb, hF, hp, hz, r, rr, h⟩ := h
    obtain ⟨t, ht, hm⟩ := hb cdv A outer s H E hr hg
    refine ⟨t, ht, hm ⟨fun a => if a = p then none else H a, F0, some p⟩ F0 H (L2.start N (.ref p :: vr)) (ent N.length (.own true ds :: rs.map .dat)) _ (gud_entO e tb hF hp hz r rr) ?_⟩
    have fin : ∀ {σ' : L2.St} {F' H' : Hp} {ρ' : DEnv} {d : D} {v : V}, Ext F0 F' → Gud K ⟨fun a => if a = p then none else H a, F0, some p⟩ F' H' σ' ρ' → Rep K F' d v →
        (match own0 ρ' d with
        | .ok (d, es) => ∀ v F' H' ys, GrwO K p F0 H F' H' ys → ys.length ≤ sizeLine → RepL K F' es ys → Rep K F' d v → Q v H'
        | _ => False) → Q v H' := by
      intro σ' F' H' ρ' d v e1 g1 rv q
      cases z : own0 ρ' d with
      | bad => rw [z] at q; exact q.elim
      | exc n o => rw [z] at q; exact q.elim
      | ok pr =>
        obtain ⟨d2, es⟩ := pr
        rw [z] at q
        obtain ⟨rfl, h0⟩ := own0_ok z
        obtain ⟨p', ys, a1, a2, a3, a4, a5, a6, a7⟩ := g1.own 0 true es h0
        have ep : some p = some p' := a7 rfl
        cases ep
        refine q v F' H' ys ⟨e1, g1.ff, fun a o hne ha nt => g1.bb a o (show (if a = p then none else H a) = some o by rw [if_neg hne]; exact ha) nt, g1.tab, a2, fun a h1 h2 => ?_⟩ a3 a4 rv
        by_cases hz : a = p
        · rw [hz]; exact a5
        · obtain ⟨o, q1, q2⟩ := h2
          exact g1.new a h1 ⟨o, show (if a = p then none else H a) = some o by rw [if_neg hz]; exact q1, q2⟩
    unfold runO at h
    cases q : m (ent N.length (.own true ds :: rs.map .dat)) with
    | bad => rw [q] at h; exact h.elim
    | exc n o ρ' => rw [q] at h; exact h.elim
    | ok fl ρ' =>
      rw [q] at h
      cases fl with
      | nx => exact fun σ' F' H' e1 g1 => fin e1 g1 .non h
      | rt d => exact fun σ' F' H' e1 g1 v rv => fin e1 g1 rv h
      | bk => exact h.elim
      | ct => exact h.elim
end
/-! ### calls -/
section
variable {K : PySem.W.Frag} [Tb K] {W : WX}
def callF (n : Nat) (f : List D → Rf D) (ds : List D) (ρ : DEnv) : Rs Vl := if ds.length = n then (match f ds with
  | .bad => .bad
  | .ok d => .ok (.dat d) ρ
  | .exc n o => .exc n o ρ) else .bad
def mCallF (n : Nat) (f : List D → Rf D) (ma : AM) : EM := fun ρ => (ma ρ).bind fun xs ρ1 => (opt (frzL ρ1 xs) ρ1).bind fun p _ => callF n f p.1 p.2
theorem rd_callF {n : Nat} {f : List D → Rf D} {ta : TA} {ma : AM} (ha : RdA K W ta ma) : RdE K W (tCallS (SpF K n f) (WE W) ta) (mCallF n f ma) := by
  intro G F H σ ρ Q g h
  refine ha G F H σ ρ _ g (h.bind.imp fun xs ρ1 F1 H1 e1 g1 h1 vs hv => ?_)
  obtain ⟨⟨ds, ρ2⟩, ed, h1⟩ := fin_opt h1
  obtain ⟨F2, a1, a2, a3⟩ := frzL_ok g1 hv ed
  have h2 : Fin K G F1 W σ (callF n f ds ρ2) _ := h1
  unfold callF at h2
  by_cases hn : ds.length = n
  · rw [if_pos hn] at h2
    refine ⟨F2, ds, a2.ff, a2.tab, a3, hn, ?_⟩
    cases q : f ds with
    | bad => rw [q] at h2; exact h2
    | ok d =>
      rw [q] at h2
      exact fun v F' H' w r => h2 F' H' (a1.trans w.ff) (a2.growT w) v r
    | exc n o =>
      rw [q] at h2
      exact fun dx F' H' w x => h2 dx F' H' (a1.trans w.ff) (a2.growT w) x
  · rw [if_neg hn] at h2; exact h2.elim
theorem Gud.growO {G : Gr} {F H F' H' : Hp} {σ : L2.St} {ρ : DEnv} {i : Nat} {b : Bool} {ds es : List D} {p : Addr} {ys : List V} (g : Gud K G F H σ ρ) (h : ρ[i]? = some (.own b ds)) (hs : σ[i]? = some (some (.ref p)))
    (w : GrwO K p F H F' H' ys) (hz : ys.length ≤ sizeLine) (r : RepL K F' es ys) : Gud K G F' H' σ (ρ.set i (.own b es)) := by
  obtain ⟨p', xs', h1, h2, h3, h4, h5, h6, h7⟩ := g.own i b ds h
  rw [hs] at h1; cases h1
  have hlt : i < ρ.length := (List.getElem?_eq_some_iff.mp h).1
  have old : ∀ {j : Nat} {c : Bool} {fs : List D}, (ρ.set i (.own b es))[j]? = some (.own c fs) → ∃ c fs, ρ[j]? = some (.own c fs) := fun {j c fs} q => by
    rcases getElem_set_cases q with ⟨rfl, z⟩ | ⟨_, z⟩
    · exact ⟨_, _, h⟩
    · exact ⟨_, _, z⟩
  refine ⟨by simp [g.len], g.f0.trans w.ff, w.fh, fun a o q n => w.keep a o (fun z => h6 ⟨o, by rw [← z]; exact q, n⟩) (g.bb a o q n) n, w.tab, fun a q1 q2 => w.new a (g.new a q1 q2) (q2.up g.bb), fun j d q => ?_, fun j c fs q => ?_, fun j k c c' fs gs p' ne q1 q2 => ?_⟩
  · rcases getElem_set_cases q with ⟨rfl, z⟩ | ⟨ne, z⟩
    · cases z
    · obtain ⟨v, a1, a2⟩ := g.dat j d z
      exact ⟨v, a1, a2.up w.ff⟩
  · rcases getElem_set_cases q with ⟨rfl, z⟩ | ⟨ne, z⟩
    · cases z; exact ⟨p, ys, hs, w.at_, hz, r, w.new p h5 (.lst h2), h6, h7⟩
    · obtain ⟨p2, zs, a1, a2, a3, a4, a5, a6, a7⟩ := g.own j c fs z
      have np : p2 ≠ p := fun y => by rw [y] at a1; exact g.dis j i c b fs ds p ne z h a1 hs
      exact ⟨p2, zs, a1, w.keep _ _ np a2 (fun _ z => by cases z), a3, a4.up w.ff, w.new p2 a5 (.lst a2), a6, a7⟩
  · obtain ⟨_, _, o1⟩ := old q1
    obtain ⟨_, _, o2⟩ := old q2
    exact g.dis j k _ _ _ _ p' ne o1 o2
def callO (n : Nat) (f : List D → List D → Rf (D × List D)) (i : Nat) (rs : List D) (ρ : DEnv) : Rs Vl := match ρ[i]? with
  | some (.own b ds) => if rs.length + 1 = n then (match f ds rs with
    | .ok (d, es) => .ok (.dat d) (ρ.set i (.own b es))
    | _ => .bad) else .bad
  | _ => .bad
def mCallO (n : Nat) (f : List D → List D → Rf (D × List D)) (ma : AM) : EM := fun ρ => (ma ρ).bind fun xs ρ1 => match xs with
  | .own i :: xr => (opt (frzL ρ1 xr) ρ1).bind fun p _ => callO n f i p.1 p.2
  | _ => .bad
theorem rd_callO {n : Nat} {f : List D → List D → Rf (D × List D)} {ta : TA} {ma : AM} (ha : RdA K W ta ma) : RdE K W (tCallS (SpO K n f) (WE W) ta) (mCallO n f ma) := by
  intro G F H σ ρ Q g h
  refine ha G F H σ ρ _ g (h.bind.imp fun xs ρ1 F1 H1 e1 g1 h1 vs hv => ?_)
  cases xs with
  | nil => exact h1.elim
  | cons x xr =>
    cases x with
    | dat d => exact h1.elim
    | own i =>
      obtain ⟨⟨rs, ρ2⟩, ed, h1⟩ := fin_opt h1
      obtain ⟨v, vr, rfl, hi, hvr⟩ := hv
      have hi' : σ[i]? = some (some v) := hi
      obtain ⟨F2, a1, a2, a3⟩ := frzL_ok g1 hvr ed
      have h2 : Fin K G F1 W σ (callO n f i rs ρ2) _ := h1
      unfold callO at h2
      cases q : ρ2[i]? with
      | none => rw [q] at h2; exact h2.elim
      | some sl =>
        rw [q] at h2
        cases sl with
        | un => exact h2.elim
        | dat d => exact h2.elim
        | own b ds =>
          obtain ⟨p, ys, b1, b2, b3, b4, b5, b6, b7⟩ := a2.own i b ds q
          rw [hi'] at b1; cases b1
          have h3 : Fin K G F1 W σ (if rs.length + 1 = n then (match f ds rs with
            | .ok (d, es) => Rs.ok (Vl.dat d) (ρ2.set i (.own b es))
            | _ => .bad) else .bad) (fun x _ F' H' => ∀ v, VlOk K F' σ x v → Q v H') := h2
          by_cases hn : rs.length + 1 = n
          · rw [if_pos hn] at h3
            refine ⟨F2, p, ys, vr, ds, rs, rfl, hn, a2.ff, a2.tab, b5, b2, b3, b4, a3, ?_⟩
            cases z : f ds rs with
            | bad => rw [z] at h3; exact h3
            | exc n o => rw [z] at h3; exact h3
            | ok pr =>
              obtain ⟨d, es⟩ := pr
              rw [z] at h3
              exact fun v F' H' us w hz r rv => h3 F' H' (a1.trans w.ff) (a2.growO q hi' w hz r) v rv
          · rw [if_neg hn] at h3; exact h3.elim
/-! ### raise X('..') -/
def sRz (n : Str) : SM := fun ρ => .exc n none ρ
theorem rd_rz (n : Str) : RdS K W (fun _ σ H => W (.ref (He.ga K n)) none σ H) (sRz n) := fun G F H σ ρ D g h => h σ none F H (Ext.refl _) g rfl
end
end Pm

set_option Elab.async false
set_option linter.all false
set_option maxRecDepth 100000
set_option maxHeartbeats 2000000
/-! Pm5: operators and built-ins upon data. -/
namespace Pm
open PySem PySem.Spec PyProof.Rows L2

/-! ### data that == and repr know -/
mutual
def D.py : D → Option PyData
  | .non => some .none
  | .bl b => some (.bool b)
  | .int i => some (.int i)
  | .str s => some (.str s)
  | .lst xs => (pyL xs).map .list
  | .tup xs => (pyL xs).map .tuple
  | _ => none
def pyL : List D → Option (List PyData)
  | [] => some []
  | d :: ds => match d.py, pyL ds with
    | some p, some ps => some (p :: ps)
    | _, _ => none
end
section
variable {K : PySem.W.Frag} {F H : Hp}
mutual
theorem dp_of (e : Ext F H) : ∀ (d : D) (v : V) (p : PyData), Rep K F d v → d.py = some p → Dp K H v p
  | .non, _, _, h, q => by cases h; cases q; exact .non
  | .bl b, _, _, h, q => by cases h; cases q; exact .bl b
  | .int i, _, _, h, q => by cases h; cases q; exact .int i
  | .str x, _, _, h, q => by cases h; cases q; exact .str x
  | .lst ds, _, p, h, q => by
    cases h with
    | lst a b c =>
      have q' : (pyL ds).map PyData.list = some p := q
      obtain ⟨ps, h1, h2⟩ := Option.map_eq_some_iff.mp q'
      subst h2
      exact .lst (.inl (.inl (e _ _ a))) (dpL_of e ds _ ps c h1)
  | .tup ds, _, p, h, q => by
    cases h with
    | tup a b c =>
      have q' : (pyL ds).map PyData.tuple = some p := q
      obtain ⟨ps, h1, h2⟩ := Option.map_eq_some_iff.mp q'
      subst h2
      exact .tup (ext_t e a) (dpL_of e ds _ ps c h1)
  | .byt _, _, _, _, q => by cases q
  | .ref _, _, _, _, q => by cases q
  | .ty _, _, _, _, q => by cases q
  | .cls _, _, _, _, q => by cases q
  | .scr _, _, _, _, q => by cases q
  | .dic _ _, _, _, _, q => by cases q
  | .ins _ _ _, _, _, _, q => by cases q
theorem dpL_of (e : Ext F H) : ∀ (ds : List D) (vs : List V) (ps : List PyData), RepL K F ds vs → pyL ds = some ps → DpAll K H vs ps
  | [], _, _, h, q => by cases h; cases q; exact .nil
  | d :: ds, _, ps, h, q => by
    cases h with
    | cons a b =>
      simp only [pyL] at q
      cases q1 : d.py with
      | none => rw [q1] at q; cases q
      | some p =>
        cases q2 : pyL ds with
        | none => rw [q1, q2] at q; cases q
        | some ps' =>
          rw [q1, q2] at q; cases q
          exact .cons (dp_of e d _ p a q1) (dpL_of e ds _ ps' b q2)
end
theorem dp_rok (e : Ext F H) {d : D} {v : V} {p : PyData} (h : ROk K F H d v) (q : d.py = some p) : Dp K H v p := by
  cases d with
  | lst ds =>
    obtain ⟨a, xs, rfl, h1, h2, h3⟩ := h
    have q' : (pyL ds).map PyData.list = some p := q
    obtain ⟨ps, h4, h5⟩ := Option.map_eq_some_iff.mp q'
    subst h5
    exact .lst (.inl (.inl h1)) (dpL_of e ds _ ps h3 h4)
  | _ => exact dp_of e _ _ p h q
end

/-! ### operators -/
def opOr (r r' : R2) : R2 := fun x y H Q => r x y H Q ∨ r' x y H Q
def addD : D → D → Option D
  | .int i, .int j => some (.int (i + j))
  | .str a, .str b => if a.length + b.length ≤ sizeLine then some (.str (a ++ b)) else none
  | .byt a, .byt b => if a.size + b.size ≤ 16777216 then some (.byt (a ++ b)) else none
  | .lst xs, .lst ys => if xs.length + ys.length ≤ sizeLine then some (.lst (xs ++ ys)) else none
  | .tup xs, .tup ys => if xs.length + ys.length ≤ sizeLine then some (.tup (xs ++ ys)) else none
  | _, _ => none
def rAddA (K : PySem.W.Frag) : R2 := opOr (rI0 fun i j => .int (i + j)) (opOr (fun x y H Q => ∃ i j, x = .str i ∧ y = .str j ∧ i.length + j.length ≤ sizeLine ∧ Q (.str (i ++ j)) H)
  (opOr (fun x y H Q => ∃ i j, x = .byt i ∧ y = .byt j ∧ i.size + j.size ≤ 16777216 ∧ Q (.byt (i ++ j)) H) (opOr rCat (rCatA K))))
theorem or_add {X : Cx} : OpR X (binaryOp .Add) (rAddA X.K) := op_add.or (op_add_str.or (op_add_byt.or (op_cat.or op_catA)))
theorem od_add (K : PySem.W.Frag) : OpD K (rAddA K) addD := by
  intro F H d e x y z Q eF hx hy hz q
  cases d <;> cases e <;> try (cases hz; done)
  case int.int i j =>
    cases hz; cases hx; cases hy
    exact .inl ⟨i, j, rfl, rfl, q _ F H (Grw.refl eF) (.int _)⟩
  case str.str a b =>
    simp only [addD] at hz
    by_cases c : a.length + b.length ≤ sizeLine
    · rw [if_pos c] at hz; cases hz; cases hx; cases hy
      exact .inr (.inl ⟨a, b, rfl, rfl, c, q _ F H (Grw.refl eF) (.str _)⟩)
    · rw [if_neg c] at hz; cases hz
  case byt.byt a b =>
    simp only [addD] at hz
    by_cases c : a.size + b.size ≤ 16777216
    · rw [if_pos c] at hz; cases hz; cases hx; cases hy
      exact .inr (.inr (.inl ⟨a, b, rfl, rfl, c, q _ F H (Grw.refl eF) (.byt _)⟩))
    · rw [if_neg c] at hz; cases hz
  case lst.lst as bs =>
    simp only [addD] at hz
    by_cases c : as.length + bs.length ≤ sizeLine
    · rw [if_pos c] at hz; cases hz
      obtain ⟨p, xs, rfl, h1, h2, h3⟩ := hx
      obtain ⟨p', ys, rfl, k1, k2, k3⟩ := hy
      have hl : xs.length + ys.length ≤ sizeLine := by rw [← h3.length, ← k3.length]; exact c
      refine .inr (.inr (.inr (.inl ⟨p, p', xs, ys, rfl, rfl, h1, k1, hl, fun t ht => ?_⟩)))
      have w : Grw F H (upd F t (.lst (xs ++ ys))) (upd H t (.lst (xs ++ ys))) := Grw.lay eF ht
      exact q _ _ _ w (.lst upd_same (by rw [List.length_append]; exact hl) ((h3.append k3).up w.ff))
    · rw [if_neg c] at hz; cases hz
  case tup.tup as bs =>
    simp only [addD] at hz
    by_cases c : as.length + bs.length ≤ sizeLine
    · rw [if_pos c] at hz; cases hz
      cases hx with
      | tup a1 a2 a3 =>
        cases hy with
        | tup b1 b2 b3 =>
          rename_i p xs p' ys
          have hl : xs.length + ys.length ≤ sizeLine := by rw [← a3.length, ← b3.length]; exact c
          refine .inr (.inr (.inr (.inr ⟨p, p', xs, ys, rfl, rfl, ext_t eF a1, ext_t eF b1, hl, fun e1 => ?_, fun n1 e2 => ?_, fun n1 n2 t ht => ?_⟩)))
          · subst e1
            cases a3
            exact q _ F H (Grw.refl eF) (.tup b1 b2 b3)
          · subst e2
            cases b3
            rw [List.append_nil] at q
            exact q _ F H (Grw.refl eF) (.tup a1 a2 a3)
          · have w : Grw F H (upd F t (.tup (xs ++ ys))) (upd H t (.tup (xs ++ ys))) := Grw.lay eF ht
            exact q _ _ _ w (.tup (SqT.of upd_same) (by rw [List.length_append]; exact hl) ((a3.append b3).up w.ff))
    · rw [if_neg c] at hz; cases hz
/-- an operation of two ints -/
theorem od_int {K : PySem.W.Frag} {C : Int → Int → Prop} [∀ i j, Decidable (C i j)] {g : Int → Int → Int} {f : D → D → Option D} (hf : ∀ i j, f (.int i) (.int j) = if C i j then some (.int (g i j)) else none)
    (hn : ∀ d e z, f d e = some z → ∃ i j, d = .int i ∧ e = .int j) : OpD K (rI C fun i j => .int (g i j)) f := by
  intro F H d e x y z Q eF hx hy hz q
  obtain ⟨i, j, rfl, rfl⟩ := hn d e z hz
  rw [hf] at hz
  by_cases c : C i j
  · rw [if_pos c] at hz; cases hz; cases hx; cases hy
    exact ⟨i, j, rfl, rfl, c, q _ F H (Grw.refl eF) (.int _)⟩
  · rw [if_neg c] at hz; cases hz
def intOnly (f : Int → Int → Option D) : D → D → Option D
  | .int i, .int j => f i j
  | _, _ => none
theorem intOnly_inv {f : Int → Int → Option D} (d e z : D) (h : intOnly f d e = some z) : ∃ i j, d = .int i ∧ e = .int j := by
  cases d <;> cases e <;> try (cases h; done)
  exact ⟨_, _, rfl, rfl⟩
def subD : D → D → Option D := intOnly fun i j => if True then some (.int (i - j)) else none
theorem od_sub (K : PySem.W.Frag) : OpD K (rI0 fun i j => .int (i - j)) subD := by
  intro F H d e x y z Q eF hx hy hz q
  obtain ⟨i, j, rfl, rfl⟩ := intOnly_inv d e z hz
  cases hz; cases hx; cases hy
  exact ⟨i, j, rfl, rfl, q _ F H (Grw.refl eF) (.int _)⟩
instance (i j : Int) : Decidable (CMul i j) := by unfold CMul; infer_instance
instance (i j : Int) : Decidable (CMulW i j) := by unfold CMulW; infer_instance
instance (i j : Int) : Decidable (CDivW i j) := by unfold CDivW; infer_instance
instance (i j : Int) : Decidable (CPow i j) := by unfold CPow; infer_instance
/-- a product: one factor small, or both together below a million bits -/
def mulI (i j : Int) : Option D := if CMul i j ∨ CMulW i j then some (.int (i * j)) else none
def fdivD : D → D → Option D := intOnly fun i j => if CDivW i j then some (.int (i / j)) else none
def modD : D → D → Option D := intOnly fun i j => if 0 < j then some (.int (i % j)) else none
def powD : D → D → Option D := intOnly fun i j => if CPow i j then some (.int (i ^ j.toNat)) else none
theorem od_fdiv (K : PySem.W.Frag) : OpD K (rI CDivW fun i j => .int (i / j)) fdivD := od_int (fun i j => rfl) fun d e z h => intOnly_inv d e z h
theorem od_mod (K : PySem.W.Frag) : OpD K (rI (fun _ j => 0 < j) fun i j => .int (i % j)) modD := od_int (C := fun _ j => 0 < j) (fun i j => rfl) fun d e z h => intOnly_inv d e z h
theorem od_pow (K : PySem.W.Frag) : OpD K (rI CPow fun i j => .int (i ^ j.toNat)) powD := od_int (fun i j => rfl) fun d e z h => intOnly_inv d e z h
def negD : D → Option D
  | .int i => some (.int (-i))
  | _ => none
theorem od_neg (K : PySem.W.Frag) : OpD1 K (rU fun i => .int (-i)) negD := by
  intro F H d x z Q eF hx hz q
  cases d <;> try (cases hz; done)
  cases hz; cases hx
  exact ⟨_, rfl, q _ F H (Grw.refl eF) (.int _)⟩
/-! ### comparisons -/
theorem od_cmpI {K : PySem.W.Frag} {g : Int → Int → Bool} : OpD K (rI0 fun i j => .bl (g i j)) (intOnly fun i j => some (.bl (g i j))) := by
  intro F H d e x y z Q eF hx hy hz q
  obtain ⟨i, j, rfl, rfl⟩ := intOnly_inv d e z hz
  cases hz; cases hx; cases hy
  exact ⟨i, j, rfl, rfl, q _ F H (Grw.refl eF) (.bl _)⟩
def eqB (d e : D) : Option Bool := match d, e with
  | .byt a, .byt b => some (decide (a = b))
  | .str a, .str b => some (decide (a = b))
  | .int a, .int b => some (decide (a = b))
  | d, e => match d.py, e.py with
    | some p, some q => if SeqAt.shaped p && SeqAt.shaped q then some (PyData.eqv p q) else none
    | _, _ => none
def eqD (d e : D) : Option D := (eqB d e).map .bl
def neD (d e : D) : Option D := (eqB d e).map fun b => .bl (!b)
def rEqA (K : PySem.W.Frag) : R2 := opOr rEq (rEqD K)
def rNeA (K : PySem.W.Frag) : R2 := opOr rNe (rNeD K)
theorem or_eq {X : Cx} (hu : X.A.units + 64 < cLine) : OpR X (compareOp .Eq) (rEqA X.K) := op_eq.or (op_eqD hu)
theorem or_ne {X : Cx} (hu : X.A.units + 64 < cLine) : OpR X (compareOp .NotEq) (rNeA X.K) := op_ne.or (op_neD hu)
theorem eqB_cases {d e : D} {b : Bool} (h : eqB d e = some b) : (∃ x y, d = .byt x ∧ e = .byt y ∧ b = decide (x = y)) ∨ (∃ x y, d = .str x ∧ e = .str y ∧ b = decide (x = y)) ∨ (∃ x y, d = .int x ∧ e = .int y ∧ b = decide (x = y)) ∨ ∃ p q, d.py = some p ∧ e.py = some q ∧ SeqAt.shaped p = true ∧ SeqAt.shaped q = true ∧ b = PyData.eqv p q := by
  unfold eqB at h
  split at h
  · exact .inl ⟨_, _, rfl, rfl, (Option.some.inj h).symm⟩
  · exact .inr (.inl ⟨_, _, rfl, rfl, (Option.some.inj h).symm⟩)
  · exact .inr (.inr (.inl ⟨_, _, rfl, rfl, (Option.some.inj h).symm⟩))
  · split at h
    · rename_i p q hp hq
      by_cases c : (SeqAt.shaped p && SeqAt.shaped q) = true
      · rw [if_pos c] at h
        obtain ⟨c1, c2⟩ := Bool.and_eq_true_iff.mp c
        exact .inr (.inr (.inr ⟨p, q, hp, hq, c1, c2, (Option.some.inj h).symm⟩))
      · rw [if_neg c] at h; cases h
    · cases h
theorem od_eq (K : PySem.W.Frag) : OpD K (rEqA K) eqD := by
  intro F H d e x y z Q eF hx hy hz q
  obtain ⟨b, hb, rfl⟩ := Option.map_eq_some_iff.mp hz
  rcases eqB_cases hb with ⟨a, c, rfl, rfl, rfl⟩ | ⟨a, c, rfl, rfl, rfl⟩ | ⟨a, c, rfl, rfl, rfl⟩ | ⟨p, p', h1, h2, h3, h4, rfl⟩
  · cases hx; cases hy
    refine .inl ⟨rfl, ?_⟩
    rw [show decide (V.byt a = V.byt c) = decide (a = c) by simp]
    exact q _ F H (Grw.refl eF) (.bl _)
  · cases hx; cases hy
    refine .inl ⟨rfl, ?_⟩
    rw [show decide (V.str a = V.str c) = decide (a = c) by simp]
    exact q _ F H (Grw.refl eF) (.bl _)
  · cases hx; cases hy
    refine .inl ⟨rfl, ?_⟩
    rw [show decide (V.int a = V.int c) = decide (a = c) by simp]
    exact q _ F H (Grw.refl eF) (.bl _)
  · exact .inr ⟨p, p', dp_rok eF hx h1, dp_rok eF hy h2, h3, h4, q _ F H (Grw.refl eF) (.bl _)⟩
theorem od_ne (K : PySem.W.Frag) : OpD K (rNeA K) neD := by
  intro F H d e x y z Q eF hx hy hz q
  obtain ⟨b, hb, rfl⟩ := Option.map_eq_some_iff.mp hz
  rcases eqB_cases hb with ⟨a, c, rfl, rfl, rfl⟩ | ⟨a, c, rfl, rfl, rfl⟩ | ⟨a, c, rfl, rfl, rfl⟩ | ⟨p, p', h1, h2, h3, h4, rfl⟩
  · cases hx; cases hy
    refine .inl ⟨rfl, ?_⟩
    rw [show decide (V.byt a = V.byt c) = decide (a = c) by simp]
    exact q _ F H (Grw.refl eF) (.bl _)
  · cases hx; cases hy
    refine .inl ⟨rfl, ?_⟩
    rw [show decide (V.str a = V.str c) = decide (a = c) by simp]
    exact q _ F H (Grw.refl eF) (.bl _)
  · cases hx; cases hy
    refine .inl ⟨rfl, ?_⟩
    rw [show decide (V.int a = V.int c) = decide (a = c) by simp]
    exact q _ F H (Grw.refl eF) (.bl _)
  · exact .inr ⟨p, p', dp_rok eF hx h1, dp_rok eF hy h2, h3, h4, q _ F H (Grw.refl eF) (.bl _)⟩
/-! ### subscripts -/
def ixD : D → D → Option D
  | .lst xs, .int i => atI xs i
  | .tup xs, .int i => atI xs i
  | .scr ns, .int i => (atI ns i).map .int
  | .str w, .int i => if w.length ≤ sizeLine then (atI w.cps.toList i).map fun c => .str ⟨#[c]⟩ else none
  | _, _ => none
theorem atI_rep {K : PySem.W.Frag} {F : Hp} {ds : List D} {vs : List V} {i : Int} {d : D} (r : RepL K F ds vs) (h : atI ds i = some d) : ∃ v, atI vs i = some v ∧ Rep K F d v := by
  unfold atI at h ⊢
  rw [← r.length]
  obtain ⟨j, h1, h2⟩ := Option.bind_eq_some_iff.mp h
  obtain ⟨v, h3, h4⟩ := r.get h2
  exact ⟨v, by rw [h1]; exact h3, h4⟩
theorem od_ix (K : PySem.W.Frag) : OpD K (rIx K) ixD := by
  intro F H d e x y z Q eF hx hy hz q
  cases d <;> cases e <;> try (cases hz; done)
  case lst.int xs i =>
    obtain ⟨p, vs, rfl, h1, h2, h3⟩ := hx
    cases hy
    obtain ⟨v, k1, k2⟩ := atI_rep h3 hz
    exact .inl ⟨p, vs, i, v, rfl, rfl, .inl (.inl h1), k1, q _ F H (Grw.refl eF) k2⟩
  case tup.int xs i =>
    cases hx with
    | tup a b c =>
      cases hy
      obtain ⟨v, k1, k2⟩ := atI_rep c hz
      exact .inr (.inl ⟨_, _, i, v, rfl, rfl, ext_t eF a, k1, q _ F H (Grw.refl eF) k2⟩)
  case scr.int ns i =>
    cases hx with
    | scr a b =>
      cases hy
      have hz' : (atI ns i).map D.int = some z := hz
      obtain ⟨n, h1, h2⟩ := Option.map_eq_some_iff.mp hz'
      subst h2
      refine .inl ⟨_, _, i, .int n, rfl, rfl, ext_l eF a, ?_, q _ F H (Grw.refl eF) (.int n)⟩
      unfold atI at h1 ⊢
      obtain ⟨j, h3, h4⟩ := Option.bind_eq_some_iff.mp h1
      rw [List.length_map, h3]
      show (ns.map V.int)[j]? = _
      rw [List.getElem?_map, h4]; rfl
  case str.int w i =>
    cases hx; cases hy
    simp only [ixD] at hz
    by_cases c : w.length ≤ sizeLine
    · rw [if_pos c] at hz
      obtain ⟨n, h1, h2⟩ := Option.map_eq_some_iff.mp hz
      subst h2
      exact .inr (.inr ⟨w, i, n, rfl, rfl, c, h1, q _ F H (Grw.refl eF) (.str _)⟩)
    · rw [if_neg c] at hz; cases hz
/-! ### built-ins -/
def lenD : List D → Option D
  | [.lst xs] => some (.int xs.length)
  | [.tup xs] => some (.int xs.length)
  | [.scr ns] => some (.int ns.length)
  | [.str z] => if z.length ≤ sizeLine then some (.int z.length) else none
  | [.byt b] => if b.size ≤ sizeLine then some (.int b.size) else none
  | _ => none
def rLenA (K : PySem.W.Frag) : List V → Hp → VK → Prop := fun xs H Q => ∃ x n, xs = [x] ∧ LenV K x H n ∧ Q (.int n) H
theorem rokl1 {K : PySem.W.Frag} {F H : Hp} {d : D} {vs : List V} (h : ROkL K F H [d] vs) : ∃ v, vs = [v] ∧ ROk K F H d v := by
  cases h with
  | cons a b => cases b; exact ⟨_, rfl, a⟩
theorem rokl2 {K : PySem.W.Frag} {F H : Hp} {d e : D} {vs : List V} (h : ROkL K F H [d, e] vs) : ∃ v u, vs = [v, u] ∧ ROk K F H d v ∧ ROk K F H e u := by
  cases h with
  | cons a b =>
    obtain ⟨u, rfl, k⟩ := rokl1 b
    exact ⟨_, u, rfl, a, k⟩
theorem cd_len (K : PySem.W.Frag) : CalD K (rLenA K) lenD := by
  intro F H ds vs z Q eF hr hz q
  rcases ds with _ | ⟨d, _ | ⟨d2, r⟩⟩
  · cases hz
  · obtain ⟨v, rfl, h⟩ := rokl1 hr
    cases d <;> try (cases hz; done)
    case lst xs =>
      cases hz
      obtain ⟨p, ys, rfl, h1, h2, h3⟩ := h
      exact ⟨_, _, rfl, .inl ⟨ys, .inl (.inl h1), h3.length⟩, q _ F H (Grw.refl eF) (.int _)⟩
    case tup xs =>
      cases hz
      cases h with
      | tup a b c => exact ⟨_, _, rfl, .inr ⟨_, ext_t eF a, c.length⟩, q _ F H (Grw.refl eF) (.int _)⟩
    case scr ns =>
      cases hz
      cases h with
      | scr a b => exact ⟨_, _, rfl, .inl ⟨_, ext_l eF a, by rw [List.length_map]⟩, q _ F H (Grw.refl eF) (.int _)⟩
    case str w =>
      simp only [lenD] at hz
      by_cases c : w.length ≤ sizeLine
      · rw [if_pos c] at hz; cases hz; cases h
        exact ⟨_, _, rfl, ⟨c, rfl⟩, q _ F H (Grw.refl eF) (.int _)⟩
      · rw [if_neg c] at hz; cases hz
    case byt w =>
      simp only [lenD] at hz
      by_cases c : w.size ≤ sizeLine
      · rw [if_pos c] at hz; cases hz; cases h
        exact ⟨_, _, rfl, ⟨c, rfl⟩, q _ F H (Grw.refl eF) (.int _)⟩
      · rw [if_neg c] at hz; cases hz
  · cases d <;> cases hz
def int1D : List D → Option D
  | [.int i] => some (.int i)
  | [.bl k] => some (.int (if k then 1 else 0))
  | _ => none
theorem cd_int1 (K : PySem.W.Frag) : CalD K (fun xs H Q => (∃ i, xs = [.int i] ∧ Q (.int i) H) ∨ ∃ k, xs = [.bl k] ∧ Q (.int (if k then 1 else 0)) H) int1D := by
  intro F H ds vs z Q eF hr hz q
  rcases ds with _ | ⟨d, _ | ⟨d2, r⟩⟩
  · cases hz
  · obtain ⟨v, rfl, h⟩ := rokl1 hr
    cases d <;> try (cases hz; done)
    case int i => cases hz; cases h; exact .inl ⟨i, rfl, q _ F H (Grw.refl eF) (.int _)⟩
    case bl k => cases hz; cases h; exact .inr ⟨k, rfl, q _ F H (Grw.refl eF) (.int _)⟩
  · cases d <;> cases hz
def int2 (f : Int → Int → Int) : List D → Option D
  | [.int i, .int j] => some (.int (f i j))
  | _ => none
theorem cd_int2 {K : PySem.W.Frag} (f : Int → Int → Int) : CalD K (fun xs H Q => ∃ i j, xs = [.int i, .int j] ∧ Q (.int (f i j)) H) (int2 f) := by
  intro F H ds vs z Q eF hr hz q
  rcases ds with _ | ⟨d, _ | ⟨d2, _ | ⟨d3, r⟩⟩⟩
  · cases hz
  · cases d <;> cases hz
  · obtain ⟨v, u, rfl, h1, h2⟩ := rokl2 hr
    cases d <;> cases d2 <;> try (cases hz; done)
    cases hz; cases h1; cases h2
    exact ⟨_, _, rfl, q _ F H (Grw.refl eF) (.int _)⟩
  · cases d <;> cases d2 <;> cases hz
def maxD : List D → Option D := int2 fun i j => if j > i then j else i
def minD : List D → Option D := int2 fun i j => if j < i then j else i
/-! ### isinstance with a built-in class -/
def tyD : D → Option String
  | .non => some "NoneType"
  | .bl _ => some "bool"
  | .int _ => some "int"
  | .str _ => some "str"
  | .byt _ => some "bytes"
  | .lst _ => some "list"
  | .scr _ => some "list"
  | .tup _ => some "tuple"
  | .dic _ _ => some "dict"
  | _ => none
def tyNames : List String := ["NoneType", "bool", "int", "str", "bytes", "list", "tuple", "dict"]
def tyAsked : List String := ["bool", "int", "str", "bytes", "list", "tuple"]
def isiB (a b : String) : Bool := a == b || (a == "bool" && b == "int")
theorem isi_table : (tyNames.all fun a => tyAsked.all fun b => decide (kitB a b = some (isiB a b))) = true := by decide +kernel
theorem isi_kit {a b : String} (ha : a ∈ tyNames) (hb : b ∈ tyAsked) : kitB a b = some (isiB a b) := by
  have h := isi_table
  rw [List.all_eq_true] at h
  have h2 := h a ha
  rw [List.all_eq_true] at h2
  exact of_decide_eq_true (h2 b hb)
theorem tyD_in {d : D} {a : String} (h : tyD d = some a) : a ∈ tyNames := by
  cases d <;> cases h <;> decide
theorem tyX_of {K : PySem.W.Frag} {F H : Hp} (e : Ext F H) {d : D} {v : V} {a : String} (h : ROk K F H d v) (q : tyD d = some a) : TyX K H v (.type a) := by
  cases d <;> cases q
  case non => cases h; exact .base .non
  case bl => cases h; exact .base (.bl _)
  case int => cases h; exact .base (.int _)
  case str => cases h; exact .base (.str _)
  case byt => cases h; exact .byt _
  case lst => obtain ⟨p, xs, rfl, h1, _⟩ := h; exact .base (.lst h1)
  case tup =>
    cases h with
    | tup a b c =>
      rcases a with (h1 | ⟨o, h1⟩) | ⟨o, its, n, h1, h2, _⟩
      · exact .base (.tup (e _ _ h1))
      · exact .fTuple (e _ _ h1)
      · exact .kTuple h1 h2
  case scr =>
    cases h with
    | scr a b =>
      rcases a with (h1 | ⟨o, h1⟩) | ⟨o, its, n, h1, h2, _⟩
      · exact .base (.lst (e _ _ h1))
      · exact .base (.frz (e _ _ h1))
      · exact .kList h1 h2
  case dic => cases h with | dic a b c => exact .base (.dK (e _ _ a))
def isiD : List D → Option D
  | [d, .ty b] => match tyD d with
    | some a => if tyAsked.contains b then some (.bl (isiB a b)) else none
    | none => none
  | _ => none
theorem cd_isi (K : PySem.W.Frag) : CalD K (rIsi K) isiD := by
  intro F H ds vs z Q eF hr hz q
  rcases ds with _ | ⟨d, _ | ⟨d2, _ | ⟨d3, r⟩⟩⟩
  · cases hz
  · cases hz
  · obtain ⟨v, u, rfl, h1, h2⟩ := rokl2 hr
    cases d2 <;> try (cases hz; done)
    case ty b =>
      simp only [isiD] at hz
      cases ht : tyD d with
      | none => rw [ht] at hz; cases hz
      | some a =>
        rw [ht] at hz
        by_cases c : tyAsked.contains b = true
        · simp only [c, if_true] at hz
          cases hz
          cases h2
          refine ⟨v, .ty b, .type a, .type b, isiB a b, rfl, .ty b, tyX_of eF h1 ht, kit_ty (isi_kit (tyD_in ht) (by simpa using c)), q _ F H (Grw.refl eF) (.bl _)⟩
        · simp only [c] at hz; cases hz
  · cases d2 <;> cases hz
end Pm

set_option Elab.async false
set_option linter.all false
set_option maxRecDepth 100000
set_option maxHeartbeats 2000000
/-! Pm6: the code and its reading in one: judgements over a family of contexts. -/
namespace Pm
open PySem PySem.Spec PyProof.Rows L2

abbrev Nms := List (Str × NameKind)
def visB (ns : Nms) (x : Str) : Bool := match ns.lookup x with
  | some .local => true
  | some .cell => true
  | some .free => true
  | _ => false
def glB (ns : Nms) (x : Str) : Bool := match ns.lookup x with
  | some .globalImplicit => true
  | _ => false
def locB (ns : Nms) (x : Str) : Bool := match ns.lookup x with
  | some .local => true
  | _ => false
def celB (ns : Nms) (x : Str) : Bool := match ns.lookup x with
  | some .cell => true
  | _ => false
theorem vis_of {ns : Nms} {x : Str} (h : visB ns x = true) : ns.lookup x = some .local ∨ ns.lookup x = some .cell ∨ ns.lookup x = some .free := by
  unfold visB at h
  split at h
  · exact .inl ‹_›
  · exact .inr (.inl ‹_›)
  · exact .inr (.inr ‹_›)
  · cases h
theorem gl_of {ns : Nms} {x : Str} (h : glB ns x = true) : ns.lookup x = some .globalImplicit := by
  unfold glB at h
  split at h
  · assumption
  · cases h
theorem loc_of {ns : Nms} {x : Str} (h : locB ns x = true) : ns.lookup x = some .local := by
  unfold locB at h
  split at h
  · assumption
  · cases h
theorem cel_of {ns : Nms} {x : Str} (h : celB ns x = true) : ns.lookup x = some .cell := by
  unfold celB at h
  split at h
  · assumption
  · cases h
/-- what all contexts of a def's body have -/
structure Fam {ι : Type} (X : ι → Cx) (P : Program) (w : World) (K : PySem.W.Frag) (mg : Str → Option Value) (base : Heap) (k : Nat) (N : List Str) (ns : Nms) (fx : Str → Bool) (W : WX) (hot : Bool) : Prop where
  prog : ∀ a, (X a).prog = P
  wd : ∀ a, (X a).w = w
  hK : ∀ a, (X a).K = K
  hmg : ∀ a, (X a).mg = mg
  hbase : ∀ a, (X a).base = base
  hN : ∀ a, (X a).N = N
  nd : N.Nodup
  sc : ∀ a, (X a).env.scope.names = ns
  kind : ∀ a, (X a).env.scope.kind = .function
  calm : hot = false → ∀ a, (X a).calm = true
  room : hot = false → ∀ a, Room k (X a).A
  units : ∀ a, (X a).A.units + 80 < cLine
  dep : ∀ a, (X a).A.depth < recursionLimit
  tk : ∀ a, Takes (X a) W
  gd : ∀ a, (X a).A.guards = some []
  po : ∀ a, PassesOwn (model (X a).prog (X a).w) (X a).A (X a).env (X a).xe
  hfx : ∀ a x, fx x = true → (X a).fn x = true
section
variable {ι : Type} (X : ι → Cx) (K : PySem.W.Frag) [Tb K] (W : WX)
def JE (e : Expr) (m : EM) : Prop := ∃ t : TE, (∀ a, PE (X a) e t) ∧ RdE K W t m
def JN (e : Expr) (m : NM) : Prop := ∃ t : TE, (∀ a, PE (X a) e t) ∧ RdN K W t m
def JT (e : Expr) (m : TM) : Prop := ∃ t : TT, (∀ a, PT (X a) e t) ∧ RdT K W t m
def JW (e : Expr) (m : TM) : Prop := ∃ t : TT, (∀ a, PW (X a) e t) ∧ RdT K W t m
def JA (es : List Expr) (m : AM) : Prop := ∃ t : TA, (∀ a, PA (X a) es t) ∧ RdA K W t m
def JI (tg e : Expr) (m : IM) : Prop := ∃ t : TI, (∀ a, PI (X a) tg e t) ∧ RdI K W t m
def JG (tg : Expr) (js : List Nat) (m : GM) : Prop := ∃ t : TG, (∀ a, PG (X a) tg t) ∧ RdG K js t m ∧ GNx m
def JGs (n : Nat) (tgs : List Expr) (js : List Nat) (m : List D → DEnv → Rs Unit) : Prop := ∃ t : TGs, (∀ a, PGs (X a) tgs t) ∧ RdGs K js t m ∧ GsNx m ∧ tgs.length = n ∧ ∀ (ds : List D) (ρ : DEnv), ds.length ≠ n → ∀ u ρ', m ds ρ ≠ .ok u ρ'
def JIf (ifs : List Expr) (m : TM) : Prop := ∃ t : TT, (∀ a, PTs (X a) ifs t) ∧ RdT K W t m
def JS (st : Stmt) (m : SM) : Prop := ∃ t : TS, (∀ a, PS (X a) st t) ∧ RdS K W t m
def JB (st : List Stmt) (m : SM) : Prop := ∃ t : TS, (∀ a, PSs (X a) st t) ∧ RdS K W t m
end
section
variable {ι : Type} {X : ι → Cx} {P : Program} {w : World} {K : PySem.W.Frag} [Tb K] {mg : Str → Option Value} {base : Heap} {k : Nat} {N : List Str} {ns : Nms} {fx : Str → Bool} {W : WX} {hot : Bool}
theorem Fam.un64 (c : Fam X P w K mg base k N ns fx W hot) (a : ι) : (X a).A.units + 64 < cLine := by have := c.units a; omega
theorem Fam.vis (c : Fam X P w K mg base k N ns fx W hot) {x : Str} (h : visB ns x = true) (a : ι) : Vis (X a).env.scope x := by
  unfold Vis; rw [c.sc a]; exact vis_of h
theorem Fam.gl (c : Fam X P w K mg base k N ns fx W hot) {x : Str} (h : glB ns x = true) (a : ι) : Gl (X a) x := by
  show (X a).env.scope.names.lookup x = _
  rw [c.sc a]; exact gl_of h
theorem Fam.get (c : Fam X P w K mg base k N ns fx W hot) {x : Str} {i : Nat} (h : N[i]? = some x) (a : ι) : (X a).N[i]? = some x := by rw [c.hN a]; exact h
theorem Fam.ndA (c : Fam X P w K mg base k N ns fx W hot) (a : ι) : (X a).N.Nodup := by rw [c.hN a]; exact c.nd
/-! ### names, constants -/
theorem jVar (c : Fam X P w K mg base k N ns fx W hot) (i : Nat) {x : Str} {pos : Pos} (hi : N[i]? = some x := by kernel_rfl) (hv : visB ns x = true := by kernel_rfl) (hd : (x == ("__debug__" : Str)) = false := by kernel_rfl) (hcd : (x == ("__classdict__" : Str)) = false := by kernel_rfl) : JE X K W (.Name x pos) (mVar i) :=
  ⟨_, fun a => pe_var (c.get hi a) (c.vis hv a) hd hcd, rd_var i⟩
theorem jInt (c : Fam X P w K mg base k N ns fx W hot) {i : Int} {j pos} : JE X K W (.Constant (.int i) j pos) (mC (.int i)) := ⟨_, fun a => pe_int, rd_c fun _ => .int i⟩
theorem jBl (c : Fam X P w K mg base k N ns fx W hot) {b : Bool} {j pos} : JE X K W (.Constant (.bool b) j pos) (mC (.bl b)) := ⟨_, fun a => pe_bl, rd_c fun _ => .bl b⟩
theorem jNon (c : Fam X P w K mg base k N ns fx W hot) {j pos} : JE X K W (.Constant .none j pos) (mC .non) := ⟨_, fun a => pe_non, rd_c fun _ => .non⟩
theorem jStr (c : Fam X P w K mg base k N ns fx W hot) {x : Str} {j pos} : JE X K W (.Constant (.str x) j pos) (mC (.str x)) := ⟨_, fun a => pe_str, rd_c fun _ => .str x⟩
/-- a constant of the module -/
theorem jGlo (c : Fam X P w K mg base k N ns fx W hot) {x : Str} {pos : Pos} {d : D} {v : V} {u : Value} (hm : mg x = some u) (r : RelV v u) (hr : ∀ F, Rep K F d v) (hg : glB ns x = true := by kernel_rfl) (hd : (x == ("__debug__" : Str)) = false := by kernel_rfl) : JE X K W (.Name x pos) (mC d) :=
  ⟨_, fun a => pe_glob (c.gl hg a) (by rw [c.hmg a]; exact hm) r hd, rd_c hr⟩
theorem jTy (c : Fam X P w K mg base k N ns fx W hot) {x : Str} {pos : Pos} {n : String} (hm : mg x = none) (hv : bootBuiltins x = some (.type n) := by kernel_rfl) (hg : glB ns x = true := by kernel_rfl) (hn : x ≠ "__name__" := by decide +kernel) (hd : (x == ("__debug__" : Str)) = false := by kernel_rfl) : JE X K W (.Name x pos) (mC (.ty n)) :=
  ⟨_, fun a => pe_bltn (v := .ty n) (c.gl hg a) (by rw [c.hmg a]; exact hm) hv rfl hn hd, rd_c fun _ => .ty n⟩
/-! ### operators -/
theorem jBin {op : Operator} {e1 e2 : Expr} {pos : Pos} {r : R2} {f : D → D → Option D} {ma mb : EM} (o : ∀ a, OpR (X a) (binaryOp op) r) (od : OpD K r f) (ha : JE X K W e1 ma) (hb : JE X K W e2 mb) : JE X K W (.BinOp e1 op e2 pos) (mBin f ma mb) := by
  obtain ⟨t, h1, h2⟩ := ha
  obtain ⟨u, k1, k2⟩ := hb
  exact ⟨_, fun a => pe_op (o a) (h1 a) (k1 a), rd_bin od h2 k2⟩
theorem jAdd (c : Fam X P w K mg base k N ns fx W hot) {e1 e2 : Expr} {pos : Pos} {ma mb : EM} (ha : JE X K W e1 ma) (hb : JE X K W e2 mb) : JE X K W (.BinOp e1 .Add e2 pos) (mBin addD ma mb) :=
  jBin (fun a => by have h := or_add (X := X a); rw [c.hK a] at h; exact h) (od_add K) ha hb
theorem jSub (c : Fam X P w K mg base k N ns fx W hot) {e1 e2 : Expr} {pos : Pos} {ma mb : EM} (ha : JE X K W e1 ma) (hb : JE X K W e2 mb) : JE X K W (.BinOp e1 .Sub e2 pos) (mBin subD ma mb) := jBin (fun a => op_sub) (od_sub K) ha hb
theorem jFdiv (c : Fam X P w K mg base k N ns fx W hot) {e1 e2 : Expr} {pos : Pos} {ma mb : EM} (ha : JE X K W e1 ma) (hb : JE X K W e2 mb) : JE X K W (.BinOp e1 .FloorDiv e2 pos) (mBin fdivD ma mb) := jBin (fun a => op_fdivW) (od_fdiv K) ha hb
theorem jMod (c : Fam X P w K mg base k N ns fx W hot) {e1 e2 : Expr} {pos : Pos} {ma mb : EM} (ha : JE X K W e1 ma) (hb : JE X K W e2 mb) : JE X K W (.BinOp e1 .Mod e2 pos) (mBin modD ma mb) := jBin (fun a => op_mod) (od_mod K) ha hb
theorem jPow (c : Fam X P w K mg base k N ns fx W hot) {e1 e2 : Expr} {pos : Pos} {ma mb : EM} (ha : JE X K W e1 ma) (hb : JE X K W e2 mb) : JE X K W (.BinOp e1 .Pow e2 pos) (mBin powD ma mb) := jBin (fun a => op_pow) (od_pow K) ha hb
theorem jNeg (c : Fam X P w K mg base k N ns fx W hot) {e1 : Expr} {pos : Pos} {ma : EM} (ha : JE X K W e1 ma) : JE X K W (.UnaryOp .USub e1 pos) (mUn negD ma) := by
  obtain ⟨t, h1, h2⟩ := ha
  exact ⟨_, fun a => pe_un un_neg (h1 a), rd_un (od_neg K) h2⟩
/-! ### comparisons -/
theorem jCmp {op : CmpOp} {e1 e2 : Expr} {pos : Pos} {r : R2} {f : D → D → Option D} {ma mb : EM} (o : ∀ a, OpR (X a) (compareOp op) r) (od : OpD K r f) (hm : behindInMarks op e2 = false) (ha : JE X K W e1 ma) (hb : JE X K W e2 mb) : JE X K W (.Compare e1 [op] [e2] pos) (mBin f ma mb) := by
  obtain ⟨t, h1, h2⟩ := ha
  obtain ⟨u, k1, k2⟩ := hb
  exact ⟨_, fun a => pe_cmpR (o a) (h1 a) (k1 a) hm, rd_bin od h2 k2⟩
theorem jCmpT {op : CmpOp} {e1 e2 : Expr} {pos : Pos} {r : R2} {f : D → D → Option D} {ma mb : EM} (o : ∀ a, OpR (X a) (compareOp op) r) (od : OpD K r f) (hm : behindInMarks op e2 = false) (ha : JE X K W e1 ma) (hb : JE X K W e2 mb) : JT X K W (.Compare e1 [op] [e2] pos) (mTst (mBin f ma mb)) := by
  obtain ⟨t, h1, h2⟩ := ha
  obtain ⟨u, k1, k2⟩ := hb
  exact ⟨_, fun a => pt_cmpR (o a) (h1 a) (k1 a) hm, rd_tst (rd_bin od h2 k2)⟩
theorem jChain {op op' : CmpOp} {e1 e2 e3 : Expr} {pos : Pos} {r r' : R2} {f f' : D → D → Option D} {ma mb mc : EM} (o : ∀ a, OpR (X a) (compareOp op) r) (od : OpD K r f) (o' : ∀ a, OpR (X a) (compareOp op') r') (od' : OpD K r' f') (ha : JE X K W e1 ma) (hb : JE X K W e2 mb) (hc : JE X K W e3 mc)
    (hm : lastMarks [op, op'] [e2, e3] = false := by with_unfolding_all rfl) : JE X K W (.Compare e1 [op, op'] [e2, e3] pos) (mChain f f' ma mb mc) := by
  obtain ⟨t, h1, h2⟩ := ha
  obtain ⟨u, k1, k2⟩ := hb
  obtain ⟨v, l1, l2⟩ := hc
  exact ⟨_, fun a => pe_chain (o a) (o' a) (h1 a) (k1 a) (l1 a) hm, rd_chain od od' h2 k2 l2⟩
abbrev ltD : D → D → Option D := intOnly fun i j => some (.bl (decide (i < j)))
abbrev leD : D → D → Option D := intOnly fun i j => some (.bl (decide (i ≤ j)))
abbrev gtD : D → D → Option D := intOnly fun i j => some (.bl (decide (j < i)))
abbrev geD : D → D → Option D := intOnly fun i j => some (.bl (decide (j ≤ i)))
/-- what a comparison needs: the rule, what it does -/
structure CmpJ (X : ι → Cx) (K : PySem.W.Frag) [Tb K] (op : CmpOp) (f : D → D → Option D) : Prop where
  ex : ∃ r : R2, (∀ a, OpR (X a) (compareOp op) r) ∧ OpD K r f
theorem cLt : CmpJ X K .Lt ltD := ⟨_, fun a => op_lt, od_cmpI⟩
theorem cLe : CmpJ X K .LtE leD := ⟨_, fun a => op_le, od_cmpI⟩
theorem cGt : CmpJ X K .Gt gtD := ⟨_, fun a => op_gt, od_cmpI⟩
theorem cGe : CmpJ X K .GtE geD := ⟨_, fun a => op_ge, od_cmpI⟩
theorem cEq (c : Fam X P w K mg base k N ns fx W hot) : CmpJ X K .Eq eqD := ⟨_, fun a => by have h := or_eq (X := X a) (c.un64 a); rw [c.hK a] at h; exact h, od_eq K⟩
theorem cNe (c : Fam X P w K mg base k N ns fx W hot) : CmpJ X K .NotEq neD := ⟨_, fun a => by have h := or_ne (X := X a) (c.un64 a); rw [c.hK a] at h; exact h, od_ne K⟩
theorem jC {op : CmpOp} {e1 e2 : Expr} {pos : Pos} {f : D → D → Option D} {ma mb : EM} (o : CmpJ X K op f) (ha : JE X K W e1 ma) (hb : JE X K W e2 mb) (hm : behindInMarks op e2 = false := by first | exact nomark _ | with_unfolding_all rfl) : JE X K W (.Compare e1 [op] [e2] pos) (mBin f ma mb) :=
  let ⟨_, o1, o2⟩ := o.ex; jCmp o1 o2 hm ha hb
theorem jCT {op : CmpOp} {e1 e2 : Expr} {pos : Pos} {f : D → D → Option D} {ma mb : EM} (o : CmpJ X K op f) (ha : JE X K W e1 ma) (hb : JE X K W e2 mb) (hm : behindInMarks op e2 = false := by first | exact nomark _ | with_unfolding_all rfl) : JT X K W (.Compare e1 [op] [e2] pos) (mTst (mBin f ma mb)) :=
  let ⟨_, o1, o2⟩ := o.ex; jCmpT o1 o2 hm ha hb
theorem jC2 {op op' : CmpOp} {e1 e2 e3 : Expr} {pos : Pos} {f f' : D → D → Option D} {ma mb mc : EM} (o : CmpJ X K op f) (o' : CmpJ X K op' f') (ha : JE X K W e1 ma) (hb : JE X K W e2 mb) (hc : JE X K W e3 mc)
    (hm : lastMarks [op, op'] [e2, e3] = false := by with_unfolding_all rfl) : JE X K W (.Compare e1 [op, op'] [e2, e3] pos) (mChain f f' ma mb mc) :=
  let ⟨_, o1, o2⟩ := o.ex; let ⟨_, p1, p2⟩ := o'.ex; jChain o1 o2 p1 p2 ha hb hc hm
/-! ### subscripts, parts -/
theorem jIx (c : Fam X P w K mg base k N ns fx W hot) {e1 e2 : Expr} {pos : Pos} {ma mb : EM} (ha : JE X K W e1 ma) (hb : JE X K W e2 mb) (hs : PlainIx e2 := by intro _ _; rfl) : JE X K W (.Subscript e1 e2 pos) (mBin ixD ma mb) := by
  obtain ⟨t, h1, h2⟩ := ha
  obtain ⟨u, k1, k2⟩ := hb
  exact ⟨_, fun a => pe_ix (by have h := ix_seq (X := X a); rw [c.hK a] at h; exact h) (h1 a) (k1 a) hs, rd_bin (od_ix K) h2 k2⟩
/-! ### argument lists -/
theorem jNil : JA X K W [] mNil := ⟨_, fun a => pa_nil, rd_nil⟩
theorem jCons {e : Expr} {es : List Expr} {ma : EM} {mr : AM} (ha : JE X K W e ma) (hr : JA X K W es mr) (hs : ∀ a, starEach (e :: es) (X a).env = (false, eval e (X a).env) :: starEach es (X a).env := by intro _; rfl) : JA X K W (e :: es) (mCons ma mr) := by
  obtain ⟨t, h1, h2⟩ := ha
  obtain ⟨u, k1, k2⟩ := hr
  exact ⟨_, fun a => pa_cons (h1 a) (k1 a) (hs a), rd_cons h2 k2⟩
theorem jTup {es : List Expr} {x1 : Nat} {pos : Pos} {ma : AM} (ha : JA X K W es ma) : JE X K W (.Tuple es x1 pos) (mTup ma) := by
  obtain ⟨t, h1, h2⟩ := ha
  exact ⟨_, fun a => pe_tup (h1 a), rd_tup h2⟩
theorem jLst {es : List Expr} {pos : Pos} {ma : AM} (ha : JA X K W es ma) : JN X K W (.List es pos) (nLst ma) := by
  obtain ⟨t, h1, h2⟩ := ha
  exact ⟨_, fun a => pe_lst (h1 a), rdn_lst h2⟩
theorem jNew {e : Expr} {mn : NM} (h : JN X K W e mn) : JE X K W e (mNew mn) := by
  obtain ⟨t, h1, h2⟩ := h
  exact ⟨_, h1, rd_new h2⟩
/-! ### tests -/
theorem jTst {e : Expr} {ma : EM} (h : JE X K W e ma) (he : ∀ a whole, isTrue e (X a).env whole = (do let v ← whole; standAt e.pos; holding [v] (truthy v)) := by intro _ _; rfl) : JT X K W e (mTst ma) := by
  obtain ⟨t, h1, h2⟩ := h
  exact ⟨_, fun a => pt_val (h1 a) (he a), rd_tB h2⟩
theorem jT2 {op op' : CmpOp} {e1 e2 e3 : Expr} {pos : Pos} {f f' : D → D → Option D} {ma mb mc : EM} (o : CmpJ X K op f) (o' : CmpJ X K op' f') (ha : JE X K W e1 ma) (hb : JE X K W e2 mb) (hc : JE X K W e3 mc)
    (hm : lastMarks [op, op'] [e2, e3] = false := by with_unfolding_all rfl) : JT X K W (.Compare e1 [op, op'] [e2, e3] pos) (mTst (mChain f f' ma mb mc)) := by
  obtain ⟨r, o1, o2⟩ := o.ex
  obtain ⟨r', p1, p2⟩ := o'.ex
  obtain ⟨t, h1, h2⟩ := ha
  obtain ⟨u, k1, k2⟩ := hb
  obtain ⟨v, l1, l2⟩ := hc
  exact ⟨_, fun a => pt_chain (o1 a) (p1 a) (h1 a) (k1 a) (l1 a) hm, rd_tst (rd_chain o2 p2 h2 k2 l2)⟩
theorem jNot {e : Expr} {pos : Pos} {ma : TM} (h : JT X K W e ma) : JT X K W (.UnaryOp .Not e pos) (mNot ma) := by
  obtain ⟨t, h1, h2⟩ := h
  exact ⟨_, fun a => pt_not (h1 a), rd_not h2⟩
theorem jAnd1 {e : Expr} {pos : Pos} {ma : TM} (h : JT X K W e ma) : JW X K W (.BoolOp .And [e] pos) ma := by
  obtain ⟨t, h1, h2⟩ := h
  exact ⟨_, fun a => pw_and1 (h1 a), h2⟩
theorem jOr1 {e : Expr} {pos : Pos} {ma : TM} (h : JT X K W e ma) : JW X K W (.BoolOp .Or [e] pos) ma := by
  obtain ⟨t, h1, h2⟩ := h
  exact ⟨_, fun a => pw_or1 (h1 a), h2⟩
theorem jAnd {e e2 : Expr} {es : List Expr} {pos : Pos} {ma mb : TM} (h : JT X K W e ma) (h' : JW X K W (.BoolOp .And (e2 :: es) pos) mb) : JW X K W (.BoolOp .And (e :: e2 :: es) pos) (mAnd ma mb) := by
  obtain ⟨t, h1, h2⟩ := h
  obtain ⟨u, k1, k2⟩ := h'
  exact ⟨_, fun a => pw_and (h1 a) (k1 a), rd_and h2 k2⟩
theorem jOr {e e2 : Expr} {es : List Expr} {pos : Pos} {ma mb : TM} (h : JT X K W e ma) (h' : JW X K W (.BoolOp .Or (e2 :: es) pos) mb) : JW X K W (.BoolOp .Or (e :: e2 :: es) pos) (mOr ma mb) := by
  obtain ⟨t, h1, h2⟩ := h
  obtain ⟨u, k1, k2⟩ := h'
  exact ⟨_, fun a => pw_or (h1 a) (k1 a), rd_or h2 k2⟩
theorem jW {e : Expr} {ma : TM} (h : JW X K W e ma) : JT X K W e ma := by
  obtain ⟨t, h1, h2⟩ := h
  exact ⟨_, fun a => (h1 a).pt, h2⟩
theorem jVOne {op} {e : Expr} {pos : Pos} {ma : EM} (h : JE X K W e ma) : JE X K W (.BoolOp op [e] pos) ma := by
  obtain ⟨t, h1, h2⟩ := h
  exact ⟨_, fun a => pe_one (h1 a), h2⟩
theorem jVAnd {e e2 : Expr} {es : List Expr} {pos : Pos} {ma mb : EM} (h : JE X K W e ma) (h' : JE X K W (.BoolOp .And (e2 :: es) pos) mb) : JE X K W (.BoolOp .And (e :: e2 :: es) pos) (mAndV ma mb) := by
  obtain ⟨t, h1, h2⟩ := h
  obtain ⟨u, k1, k2⟩ := h'
  exact ⟨_, fun a => pe_and (h1 a) (k1 a), rd_andV h2 k2⟩
theorem jVOr {e e2 : Expr} {es : List Expr} {pos : Pos} {ma mb : EM} (h : JE X K W e ma) (h' : JE X K W (.BoolOp .Or (e2 :: es) pos) mb) : JE X K W (.BoolOp .Or (e :: e2 :: es) pos) (mOrV ma mb) := by
  obtain ⟨t, h1, h2⟩ := h
  obtain ⟨u, k1, k2⟩ := h'
  exact ⟨_, fun a => pe_or (h1 a) (k1 a), rd_orV h2 k2⟩
theorem jVNot {e : Expr} {pos : Pos} {ma : EM} (h : JE X K W e ma) : JE X K W (.UnaryOp .Not e pos) (mNotV ma) := by
  obtain ⟨t, h1, h2⟩ := h
  exact ⟨_, fun a => pe_not (h1 a), rd_notV h2⟩
theorem jIfE {e e1 e2 : Expr} {pos : Pos} {mt : TM} {ma mb : EM} (h : JT X K W e mt) (ha : JE X K W e1 ma) (hb : JE X K W e2 mb) : JE X K W (.IfExp e e1 e2 pos) (mIfE mt ma mb) := by
  obtain ⟨t, h1, h2⟩ := h
  obtain ⟨u, k1, k2⟩ := ha
  obtain ⟨v, l1, l2⟩ := hb
  exact ⟨_, fun a => pe_ifExp (h1 a) (k1 a) (l1 a), rd_ifE h2 k2 l2⟩
/-! ### built-ins -/
/-- a built-in upon data: its rule, what it does -/
structure BltJ (X : ι → Cx) (K : PySem.W.Frag) [Tb K] (u : Value) (f : List D → Option D) : Prop where
  ex : ∃ r, (∀ a, CallR (X a) u r) ∧ CalD K r f
theorem jBlt (c : Fam X P w K mg base k N ns fx W hot) {x : Str} {p pos : Pos} {id : String} {e : Expr} {es : List Expr} {f : List D → Option D} {ma : AM} (b : BltJ X K (.builtin id) f) (hm : mg x = none) (ha : JA X K W (e :: es) ma) (hv : bootBuiltins x = some (.builtin id) := by kernel_rfl) (hg : glB ns x = true := by kernel_rfl) (hn : x ≠ "__name__" := by decide +kernel) (hd : (x == ("__debug__" : Str)) = false := by kernel_rfl)
    (hs : ∀ a, starEach (e :: es) (X a).env = (false, eval e (X a).env) :: starEach es (X a).env := by intro _; rfl) (hp : ∀ a, (backTo pos (starEach es (X a).env)).any (·.1) = false := by intro _; rfl) : JE X K W (.Call (.Name x p) (e :: es) [] pos) (mCal f ma) := by
  obtain ⟨t, h1, h2⟩ := ha
  obtain ⟨r, b1, b2⟩ := b.ex
  exact ⟨_, fun a => pe_callB (b1 a) (c.gl hg a) (by rw [c.hmg a]; exact hm) hv (h1 a) hn hd (hs a) (hp a), rd_cal b2 h2⟩
theorem jTyC (c : Fam X P w K mg base k N ns fx W hot) {x : Str} {p pos : Pos} {T : String} {e : Expr} {es : List Expr} {f : List D → Option D} {ma : AM} (b : BltJ X K (.type T) f) (hm : mg x = none) (ha : JA X K W (e :: es) ma) (hv : bootBuiltins x = some (.type T) := by kernel_rfl) (hg : glB ns x = true := by kernel_rfl) (hn : x ≠ "__name__" := by decide +kernel) (hd : (x == ("__debug__" : Str)) = false := by kernel_rfl)
    (hs : ∀ a, starEach (e :: es) (X a).env = (false, eval e (X a).env) :: starEach es (X a).env := by intro _; rfl) (hp : ∀ a, (backTo pos (starEach es (X a).env)).any (·.1) = false := by intro _; rfl) : JE X K W (.Call (.Name x p) (e :: es) [] pos) (mCal f ma) := by
  obtain ⟨t, h1, h2⟩ := ha
  obtain ⟨r, b1, b2⟩ := b.ex
  exact ⟨_, fun a => pe_callTy (b1 a) (c.gl hg a) (by rw [c.hmg a]; exact hm) hv (h1 a) hn hd (hs a) (hp a), rd_cal b2 h2⟩
theorem bLen (c : Fam X P w K mg base k N ns fx W hot) : BltJ X K (.builtin "len") lenD := ⟨_, fun a => by have h := call_len (X := X a); rw [c.hK a] at h; exact h, cd_len K⟩
theorem bIsi (c : Fam X P w K mg base k N ns fx W hot) : BltJ X K (.builtin "isinstance") isiD := ⟨_, fun a => by have h := call_isi (X := X a); rw [c.hK a] at h; exact h, cd_isi K⟩
theorem bInt1 (c : Fam X P w K mg base k N ns fx W hot) : BltJ X K (.type "int") int1D := ⟨_, fun a => call_int1, cd_int1 K⟩
theorem bMax (c : Fam X P w K mg base k N ns fx W false) : BltJ X K (.builtin "max") maxD := ⟨_, fun a => call_max2 (c.calm rfl a), cd_int2 _⟩
theorem bMin (c : Fam X P w K mg base k N ns fx W false) : BltJ X K (.builtin "min") minD := ⟨_, fun a => call_min2 (c.calm rfl a), cd_int2 _⟩
end
end Pm

set_option Elab.async false
set_option linter.all false
set_option maxRecDepth 100000
set_option maxHeartbeats 2000000
/-! Pm7: targets, statements, loops, comprehensions, calls. -/
namespace Pm
open PySem PySem.Spec PyProof.Rows L2

section
variable {ι : Type} {X : ι → Cx} {P : Program} {w : World} {K : PySem.W.Frag} [Tb K] {mg : Str → Option Value} {base : Heap} {k : Nat} {N : List Str} {ns : Nms} {fx : Str → Bool} {W : WX} {hot : Bool}
/-! ### targets -/
def stB (fx : Str → Bool) (ns : Nms) (x : Str) : Bool := locB ns x || (celB ns x && fx x)
theorem Fam.st (c : Fam X P w K mg base k N ns fx W hot) {x : Str} (h : stB fx ns x = true) (a : ι) : L2.Loc (X a).env.scope x ∧ ((X a).fn x = true ∨ (X a).env.scope.names.lookup x = some .local) := by
  unfold L2.Loc
  rw [c.sc a]
  rcases Bool.or_eq_true_iff.mp h with h | h
  · exact ⟨.inl (loc_of h), .inr (loc_of h)⟩
  · obtain ⟨h1, h2⟩ := Bool.and_eq_true_iff.mp h
    exact ⟨.inr (cel_of h1), .inl (c.hfx a x h2)⟩
theorem jgN (c : Fam X P w K mg base k N ns fx W hot) (i : Nat) {x : Str} {pos : Pos} (hi : N[i]? = some x := by kernel_rfl) (hv : stB fx ns x = true := by kernel_rfl) : JG X K (.Name x pos) [i] (gN i) :=
  ⟨_, fun a => pg_name (c.ndA a) (c.get hi a) (c.st hv a).1 (c.st hv a).2, rd_gN i, gnx_N i⟩
theorem jgNil : JGs X K 0 [] [] gsNil := ⟨_, fun a => pgs_nil, rd_gsNil, gsnx_nil, rfl, gs0_len⟩
theorem jgCons {n : Nat} {e : Expr} {es : List Expr} {js ks : List Nat} {m : GM} {ms : List D → DEnv → Rs Unit} (h : JG X K e js m) (h' : JGs X K n es ks ms)
    (hs : ∀ a, (assignEach (e :: es) (X a).env).map (·.2) = assign e (X a).env :: (assignEach es (X a).env).map (·.2) := by intro _; rfl) : JGs X K (n + 1) (e :: es) (js ++ ks) (gsCons m ms) := by
  obtain ⟨t, h1, h2, h3⟩ := h
  obtain ⟨u, k1, k2, k3, k4, k5⟩ := h'
  exact ⟨_, fun a => pgs_cons (h1 a) (k1 a) (hs a), rd_gsCons h2 k2, gsnx_cons h3 k3, congrArg Nat.succ k4, gsC_len k5⟩
theorem jgT (c : Fam X P w K mg base k N ns fx W false) {n : Nat} {es : List Expr} {kk : Nat} {pos : Pos} {js : List Nat} {ms : List D → DEnv → Rs Unit} (h : JGs X K n es js ms)
    (hn : ∀ a, (assignEach es (X a).env).length = n := by intro _; rfl) (hst : ∀ a, (assignEach es (X a).env).findIdx? (·.1) = none := by intro _; rfl) : JG X K (.Tuple es kk pos) js (gT ms) := by
  obtain ⟨u, k1, k2, k3, k4, k5⟩ := h
  exact ⟨_, fun a => by have h := pg_tup (X := X a) (k := kk) (pos := pos) (c.calm rfl a) (k1 a) (hn a) (hst a); rw [c.hK a] at h; exact h, rd_gT k2 k5, gnx_T k3⟩
/-! ### statements -/
theorem jPass {pos : Pos} : JS X K W (.Pass pos) sNx := ⟨_, fun a => ps_pass, rd_nx⟩
theorem jBk {pos : Pos} : JS X K W (.Break pos) sBk := ⟨_, fun a => ps_break, rd_bk⟩
theorem jCt {pos : Pos} : JS X K W (.Continue pos) sCt := ⟨_, fun a => ps_continue, rd_ct⟩
theorem jEnd : JB X K W [] sNx := ⟨_, fun a => pss_nil, rd_nx⟩
theorem jOne {st : Stmt} {m : SM} (h : JS X K W st m) : JB X K W [st] m := by
  obtain ⟨t, h1, h2⟩ := h
  exact ⟨_, fun a => pss_one (h1 a), h2⟩
theorem jSeq {st : Stmt} {rest : List Stmt} {m n : SM} (h : JS X K W st m) (h' : JB X K W rest n) : JB X K W (st :: rest) (sSeq m n) := by
  obtain ⟨t, h1, h2⟩ := h
  obtain ⟨u, k1, k2⟩ := h'
  exact ⟨_, fun a => pss_cons (h1 a) (k1 a), rd_seq h2 k2⟩
theorem jRet {e : Expr} {pos : Pos} {m : EM} (h : JE X K W e m) : JS X K W (.Return (some e) pos) (sRet m) := by
  obtain ⟨t, h1, h2⟩ := h
  exact ⟨_, fun a => ps_ret (h1 a), rd_ret h2⟩
theorem jRetN {pos : Pos} : JS X K W (.Return none pos) sRetN := ⟨_, fun a => ps_retN, rd_retN⟩
theorem jExp {e : Expr} {pos : Pos} {m : EM} (h : JE X K W e m) (hs : ∀ a, swapsWith e none pos.line (X a).env = pure false := by intro _; rfl) : JS X K W (.Expr e pos) (sDrop m) := by
  obtain ⟨t, h1, h2⟩ := h
  exact ⟨_, fun a => ps_expr (h1 a) (hs a), rd_drop h2⟩
theorem jIf {e : Expr} {s1 s2 : List Stmt} {pos : Pos} {mt : TM} {m n : SM} (h : JT X K W e mt) (h' : JB X K W s1 m) (h'' : JB X K W s2 n) : JS X K W (.If e s1 s2 pos) (sIf mt m n) := by
  obtain ⟨t, h1, h2⟩ := h
  obtain ⟨u, k1, k2⟩ := h'
  obtain ⟨v, l1, l2⟩ := h''
  exact ⟨_, fun a => ps_if (h1 a) (k1 a) (l1 a), rd_if h2 k2 l2⟩
/-- name = e -/
theorem jSet (c : Fam X P w K mg base k N ns fx W hot) (i : Nat) {x : Str} {e : Expr} {pos pos' : Pos} {m : EM} (h : JE X K W e m) (hi : N[i]? = some x := by kernel_rfl) (hv : stB fx ns x = true := by kernel_rfl)
    (hs : ∀ a, swapsWith e (some (.Name x pos')) pos.line (X a).env = pure false := by intro _; rfl) : JS X K W (.Assign [.Name x pos'] e pos) (sAsg m (gN i)) := by
  obtain ⟨t, h1, h2⟩ := h
  exact ⟨_, fun a => ps_set (c.ndA a) (c.get hi a) (c.st hv a).1 (h1 a) (hs a) (c.st hv a).2, rd_asg h2 (rd_gN i) (gnx_N i)⟩
/-- name = [..], the list owned by the name -/
theorem jOwn (c : Fam X P w K mg base k N ns fx W hot) (i : Nat) {x : Str} {e : Expr} {pos pos' : Pos} {m : NM} (h : JN X K W e m) (hi : N[i]? = some x := by kernel_rfl) (hv : stB fx ns x = true := by kernel_rfl)
    (hs : ∀ a, swapsWith e (some (.Name x pos')) pos.line (X a).env = pure false := by intro _; rfl) : JS X K W (.Assign [.Name x pos'] e pos) (sNew m i) := by
  obtain ⟨t, h1, h2⟩ := h
  exact ⟨_, fun a => ps_set (c.ndA a) (c.get hi a) (c.st hv a).1 (h1 a) (hs a) (c.st hv a).2, rd_snew i h2⟩
/-- any target = e -/
theorem jAsg {tg e : Expr} {pos : Pos} {js : List Nat} {m : EM} {mg : GM} (h : JE X K W e m) (hg : JG X K tg js mg) (hs : ∀ a, swapsWithSole [tg] e pos.line (X a).env = pure false := by intro _; rfl) (hw : ∀ a, swappedStores [tg] e (X a).env = pure none := by intro _; rfl)
    (h1 : ∀ a, (assignEach [tg] (X a).env).map (·.2) = [assign tg (X a).env] := by intro _; rfl) : JS X K W (.Assign [tg] e pos) (sAsg m mg) := by
  obtain ⟨t, k1, k2⟩ := h
  obtain ⟨u, l1, l2, l3⟩ := hg
  exact ⟨_, fun a => ps_asg (k1 a) (l1 a) (hs a) (hw a) (h1 a), rd_asg k2 l2 l3⟩
/-- a, b = x, y (two local names) -/
def sPar (i j : Nat) (ma : AM) : SM := fun ρ => (ma ρ).bind fun xs ρ1 => (opt (frzL ρ1 xs) ρ1).bind fun p _ => match p.1 with
  | [d, e] => if i < p.2.length ∧ j < p.2.length then .ok .nx ((p.2.set i (.dat d)).set j (.dat e)) else .bad
  | _ => .bad
theorem rd_par {i j : Nat} {ta : TA} {ma : AM} (h : RdA K W ta ma) : RdS K W (tPar i j ta) (sPar i j ma) := by
  intro G F H σ ρ D g q
  refine h G F H σ ρ _ g ((finS_of q).imp fun xs ρ1 F1 H1 e1 g1 h1 vs hv => ?_)
  obtain ⟨⟨ds, ρ2⟩, ed, h1⟩ := finS_opt h1
  obtain ⟨F2, a1, a2, a3⟩ := frzL_ok g1 hv ed
  rcases ds with _ | ⟨d, _ | ⟨e, _ | ⟨_, _⟩⟩⟩
  · exact h1.elim
  · exact h1.elim
  · cases a3 with
    | cons b1 b2 =>
      cases b2 with
      | cons b3 b4 =>
        cases b4
        have h2 : FinS K G F1 W (if i < ρ2.length ∧ j < ρ2.length then .ok .nx ((ρ2.set i (.dat d)).set j (.dat e)) else .bad) D := h1
        by_cases hl : i < ρ2.length ∧ j < ρ2.length
        · rw [if_pos hl] at h2
          exact ⟨_, _, rfl, h2 _ F2 H1 a1 ((a2.setDat hl.1 b1).setDat (by rw [List.length_set]; exact hl.2) b3)⟩
        · rw [if_neg hl] at h2; exact h2.elim
  · exact h1.elim
theorem jPar (c : Fam X P w K mg base k N ns fx W false) (i j : Nat) {x y : Str} {e1 e2 : Expr} {px py pt pos : Pos} {kt k2 : Nat} {pt2 : Pos} {ma : AM} (h : JA X K W [e1, e2] ma) (hij : i ≠ j := by decide) (hi : N[i]? = some x := by kernel_rfl) (hj : N[j]? = some y := by kernel_rfl)
    (hx : locB ns x = true := by kernel_rfl) (hy : locB ns y = true := by kernel_rfl)
    (hw : ∀ a, (X a).env.scope.names.lookup x = some .local → (X a).env.scope.names.lookup y = some .local → (X a).env.scope.kind = .function → swappedStores [.Tuple [.Name x px, .Name y py] kt pt] (.Tuple [e1, e2] k2 pt2) (X a).env = pure (some [x, y]))
    (hs : ∀ a, swapsWithSole [.Tuple [.Name x px, .Name y py] kt pt] (.Tuple [e1, e2] k2 pt2) pos.line (X a).env = pure false := by intro _; rfl) :
    JS X K W (.Assign [.Tuple [.Name x px, .Name y py] kt pt] (.Tuple [e1, e2] k2 pt2) pos) (sPar i j ma) := by
  obtain ⟨t, h1, h2⟩ := h
  have l1 : ∀ a, (X a).env.scope.names.lookup x = some .local := fun a => by rw [c.sc a]; exact loc_of hx
  have l2 : ∀ a, (X a).env.scope.names.lookup y = some .local := fun a => by rw [c.sc a]; exact loc_of hy
  exact ⟨_, fun a => ps_par (c.calm rfl a) (c.ndA a) (c.get hi a) (c.get hj a) hij (l1 a) (l2 a) (h1 a) (hw a (l1 a) (l2 a) (c.kind a)) (hs a), rd_par h2⟩
/-! ### name op= e -/
theorem jAug (c : Fam X P w K mg base k N ns fx W hot) (i : Nat) {x : Str} {op : Operator} {e : Expr} {pos pos' : Pos} {r : R2} {f : D → D → Option D} {m : EM} (o : ∀ a, PIp (X a) op r) (od : OpD K r f) (h : JE X K W e m) (hi : N[i]? = some x := by kernel_rfl) (hv : stB fx ns x = true := by kernel_rfl) :
    JS X K W (.AugAssign (.Name x pos') op e pos) (sAug i f m) := by
  obtain ⟨t, h1, h2⟩ := h
  exact ⟨_, fun a => ps_aug (c.ndA a) (c.get hi a) (c.st hv a).1 (h1 a) (o a) (c.st hv a).2, rd_aug od h2⟩
/-! ### what is walked -/
theorem jIt (c : Fam X P w K mg base k N ns fx W hot) {tg e : Expr} {m : EM} (h : JE X K W e m) : JI X K W tg e (mIt m) := by
  obtain ⟨t, h1, h2⟩ := h
  exact ⟨_, fun a => by have h := pi_any (tg := tg) (h1 a); rw [c.hK a] at h; exact h, rdi_any h2⟩
theorem jRng1 (c : Fam X P w K mg base k N ns fx W hot) {tg e : Expr} {p pos : Pos} {m : EM} (h : JE X K W e m) (hm : mg "range" = none) (hg : glB ns "range" = true := by kernel_rfl) (hs : ∀ a, starEach [e] (X a).env = [(false, eval e (X a).env)] := by intro _; rfl) :
    JI X K W tg (.Call (.Name "range" p) [e] [] pos) (mRng (mCons m mNil)) := by
  obtain ⟨t, h1, h2⟩ := h
  exact ⟨_, fun a => pi_range1 (c.gl hg a) (by rw [c.hmg a]; exact hm) (pa_cons (h1 a) pa_nil (hs a)) (hs a), rdi_rng1 (rd_cons h2 rd_nil) (mCons_len mNil_len)⟩
theorem jRng2 (c : Fam X P w K mg base k N ns fx W hot) {tg e e2 : Expr} {p pos : Pos} {m m2 : EM} (h : JE X K W e m) (h' : JE X K W e2 m2) (hm : mg "range" = none) (hg : glB ns "range" = true := by kernel_rfl) (hs : ∀ a, starEach [e, e2] (X a).env = [(false, eval e (X a).env), (false, eval e2 (X a).env)] := by intro _; rfl)
    (hs2 : ∀ a, starEach [e2] (X a).env = [(false, eval e2 (X a).env)] := by intro _; rfl) : JI X K W tg (.Call (.Name "range" p) [e, e2] [] pos) (mRng (mCons m (mCons m2 mNil))) := by
  obtain ⟨t, h1, h2⟩ := h
  obtain ⟨u, k1, k2⟩ := h'
  exact ⟨_, fun a => pi_range2 (c.gl hg a) (by rw [c.hmg a]; exact hm) (pa_cons (h1 a) (pa_cons (k1 a) pa_nil (hs2 a)) (by rw [hs2 a]; exact hs a)) (hs a) (hs2 a), rdi_rng2 (rd_cons h2 (rd_cons k2 rd_nil)) (mCons_len (mCons_len mNil_len))⟩
theorem jEnum (c : Fam X P w K mg base k N ns fx W hot) {e : Expr} {p pos tpos : Pos} {elts : List Expr} {kk : Nat} {m : EM} (h : JE X K W e m) (hm : mg "enumerate" = none) (hg : glB ns "enumerate" = true := by kernel_rfl) (hs : ∀ a, starEach [e] (X a).env = [(false, eval e (X a).env)] := by intro _; rfl) :
    JI X K W (.Tuple elts kk tpos) (.Call (.Name "enumerate" p) [e] [] pos) (mEnum (mCons m mNil)) := by
  obtain ⟨t, h1, h2⟩ := h
  exact ⟨_, fun a => by
    have h := pi_enum (X := X a) (p := p) (pos := pos) (tpos := tpos) (elts := elts) (kk := kk) (c.gl hg a) (by rw [c.hmg a]; exact hm) (pa_cons (h1 a) pa_nil (hs a)) (hs a)
    rw [c.hK a] at h; exact h, rdi_enum (rd_cons h2 rd_nil)⟩
/-! ### loops -/
theorem jFor (c : Fam X P w K mg base k N ns fx W false) {tg iter : Expr} {body : List Stmt} {pos : Pos} {js : List Nat} {mi : IM} {gm : GM} {mb : SM} (hi : JI X K W tg iter mi) (hg : JG X K tg js gm) (hb : JB X K W body mb) (hs : ∀ a x, foldedSetIterable iter (X a).env x = pure x := by intro _ _; rfl) :
    JS X K W (.For tg iter body [] pos) (sFor mi gm mb) := by
  obtain ⟨t, h1, h2⟩ := hi
  obtain ⟨u, l1, l2, l3⟩ := hg
  obtain ⟨v, k1, k2⟩ := hb
  exact ⟨_, fun a => ps_for (c.po a) (c.calm rfl a) (h1 a) (l1 a) (k1 a) (hs a), rd_for h2 l2 l3 k2⟩
/-! ### comprehensions -/
theorem jIf0 : JIf X K W [] mYes := ⟨_, fun a => pts_nil, rd_yes⟩
theorem jIf1 {e : Expr} {m : TM} (h : JT X K W e m) : JIf X K W [e] m := by
  obtain ⟨t, h1, h2⟩ := h
  exact ⟨_, fun a => pts_one (h1 a), h2⟩
def relN (ns2 ns : Nms) : Nms := ns2.map fun (n, kk) => if (kk == .free && ns.lookup n == some .cell) then (n, .cell) else (n, kk)
def blkB (N : List Str) (ns : Nms) (sc : Scope) (own : List (Str × Nat)) : Bool := decide (sc.kind = .function) && sc.names.all (fun y => decide (sc.names.lookup y.1 = some y.2)) && own.all (fun p => decide (N[p.2]? = some p.1)) &&
  sc.names.all (fun y => !decide (y.2 = .free) || decide (ns.lookup y.1 = some .cell) || decide (ns.lookup y.1 = some .free)) && sc.names.all fun y => !(decide (y.2 = .local) || decide (y.2 = .cell)) || decide (y.1 ∈ own.map (·.1)) || decide (y.1 ∉ N)
theorem blk_of {N : List Str} {sc0 sc : Scope} {own : List (Str × Nat)} (h : blkB N sc0.names sc own = true) : BlkOk N sc0 sc own := by
  unfold blkB at h
  simp only [Bool.and_eq_true, Bool.or_eq_true, Bool.not_eq_true', List.all_eq_true, decide_eq_true_eq, decide_eq_false_iff_not, Bool.or_eq_false_iff] at h
  obtain ⟨⟨⟨⟨h1, h2⟩, h3⟩, h4⟩, h5⟩ := h
  refine ⟨h1, h2, h3, fun y hy e => ?_, fun y hy e => ?_⟩
  · rcases h4 y hy with (z | z) | z
    · exact absurd e z
    · exact .inl z
    · exact .inr z
  · rcases h5 y hy with (z | z) | z
    · rcases e with e | e
      · exact absurd e z.1
      · exact absurd e z.2
    · exact .inl z
    · exact .inr z
abbrev Ib (ι : Type) : Type := ι × Shared × Hp × Addr × List (Str × Addr) × List Addr
abbrev Xb (X : ι → Cx) (sc : Scope) : Ib ι → Cx := fun p => (X p.1).blk p.2.1 p.2.2.1 sc (compEnvC sc p.2.2.2.2.1 p.2.2.2.1 (X p.1).env) p.2.2.2.2.2
theorem takesB {X : Cx} : Takes X W0 := fun _ _ x => by
  obtain ⟨_, _, _, _, _, _, _, _, _, _, _, _, _, _, _, _, z⟩ := x
  exact z.elim
theorem Fam.blk (c : Fam X P w K mg base k N ns fx W false) {sc : Scope} (hk : sc.kind = .function) : Fam (Xb X sc) P w K mg base k N (relN sc.names ns) (fun x => sc.names.lookup x == some .cell) W0 false where
  prog := fun a => c.prog a.1
  wd := fun a => c.wd a.1
  hK := fun a => c.hK a.1
  hmg := fun a => c.hmg a.1
  hbase := fun a => c.hbase a.1
  hN := fun a => c.hN a.1
  nd := c.nd
  sc := fun a => by
    show (relS sc (X a.1).env.scope).names = relN sc.names ns
    unfold relS relN
    rw [c.sc a.1, c.kind a.1]
    simp
  kind := fun a => hk
  calm := fun _ a => c.calm rfl a.1
  units := fun a => c.units a.1
  dep := fun a => c.dep a.1
  room := fun _ a => c.room rfl a.1
  tk := fun a => takesB
  gd := fun a => c.gd a.1
  po := fun a => PassesOwn.never
  hfx := fun a x h => h
/-- [elt for tg in iter if ..] -/
theorem jLc (c : Fam X P w K mg base k N ns fx W false) (own : List (Str × Nat)) {elt tg iter : Expr} {ifs : List Expr} {sc : Scope} {pos : Pos} {js : List Nat} {mi : IM} {gm : GM} {mt : TM} {me : EM} (hi : JI X K W tg iter mi)
    (hg : JG (Xb X sc) K tg js gm) (ht : JIf (Xb X sc) K W0 ifs mt) (he : JE (Xb X sc) K W0 elt me) (hb : blkB N ns sc own = true := by kernel_rfl) (hj : (js.all fun j => (own.map (·.2)).contains j) = true := by kernel_rfl)
    (hs : ∀ a x, foldedSetIterable iter (X a).env x = pure x := by intro _ _; rfl) : JN X K W (.ListComp elt [⟨tg, iter, ifs, 0⟩] sc pos) (nLc mi gm mt me (own.map (·.2))) := by
  obtain ⟨t, h1, h2⟩ := hi
  obtain ⟨u, l1, l2, l3⟩ := hg
  obtain ⟨v, k1, k2⟩ := ht
  obtain ⟨z, m1, m2⟩ := he
  refine ⟨_, fun a => pe_lc (c.calm rfl a) (c.ndA a) (h1 a) (blk_of (by rw [c.hN a, c.sc a]; exact hb)) (fun s H C cl fp => l1 (a, s, H, C, cl, fp)) (fun s H C cl fp => k1 (a, s, H, C, cl, fp)) (fun s H C cl fp => m1 (a, s, H, C, cl, fp)) (hs a), rdn_lc h2 l2 k2 m2 fun j hm => ?_⟩
  have := List.all_eq_true.mp hj j hm
  simpa using this
theorem jSetLc (c : Fam X P w K mg base k N ns fx W false) (i : Nat) (own : List (Str × Nat)) {y : Str} {py : Pos} {elt tg iter : Expr} {ifs : List Expr} {sc : Scope} {pos spos : Pos} {js : List Nat} {mi : IM} {gm : GM} {mt : TM} {me : EM} (hi : JI X K W tg iter mi)
    (hg : JG (Xb X sc) K tg js gm) (ht : JIf (Xb X sc) K W0 ifs mt) (he : JE (Xb X sc) K W0 elt me) (hy : N[i]? = some y := by kernel_rfl) (hyl : locB ns y = true := by kernel_rfl) (hl : (py.line == pos.line) = true := by kernel_rfl) (ha : (sc.names.any fun (n, k) => n == y && (k == .local || k == .cell)) = false := by kernel_rfl)
    (hb : blkB N ns sc own = true := by kernel_rfl) (hj : (js.all fun j => (own.map (·.2)).contains j) = true := by kernel_rfl)
    (hs : ∀ a x, foldedSetIterable iter (X a).env x = pure x := by intro _ _; rfl) : JS X K W (.Assign [.Name y py] (.ListComp elt [⟨tg, iter, ifs, 0⟩] sc pos) spos) (sNew (nLc mi gm mt me (own.map (·.2))) i) := by
  obtain ⟨t, h1, h2⟩ := hi
  obtain ⟨u, l1, l2, l3⟩ := hg
  obtain ⟨v, k1, k2⟩ := ht
  obtain ⟨z, m1, m2⟩ := he
  have ly : ∀ a, (X a).env.scope.names.lookup y = some .local := fun a => by rw [c.sc a]; exact loc_of hyl
  refine ⟨_, fun a => ps_setLc (c.calm rfl a) (c.ndA a) (c.get hy a) (ly a) (sw_true (c.kind a) (ly a) hl ha) (h1 a) (blk_of (by rw [c.hN a, c.sc a]; exact hb)) (fun s H C cl fp => l1 (a, s, H, C, cl, fp)) (fun s H C cl fp => k1 (a, s, H, C, cl, fp)) (fun s H C cl fp => m1 (a, s, H, C, cl, fp)) (hs a), rd_snew i (rdn_lc h2 l2 k2 m2 fun j hm => ?_)⟩
  have := List.all_eq_true.mp hj j hm
  simpa using this
/-! ### calls -/
structure Cal (P : Program) (w : World) (K : PySem.W.Frag) (mg : Str → Option Value) (base : Heap) (k : Nat) (x : Str) (sp : Sp) : Prop where
  ex : ∃ (f : Addr) (fd : FuncData) (ps : List Str), FnG P w K mg base (L2.CX P w) k f fd ps sp ∧ mg x = some (.ref f) ∧ PySem.W.keepIn K (.ref f) = true ∧ Binds K fd ps []
theorem run_fnG {X : Cx} {j : Nat} {f : Addr} {fd : FuncData} {ps : List Str} {sp : Sp} {E : XK} {pins : List (Addr × Obj)} {σ : L2.St} {H : Hp} {s : Shared} {Q : VK} {us : List Value} {vs : List V} (F : FnG X.prog X.w X.K X.mg X.base (L2.CX X.prog X.w) j f fd ps sp) (hr : Room j X.A) (hg : X.A.guards = some []) (hb : Binds X.K fd ps [])
    (hx : PassesAt (L2.CX X.prog X.w) X σ E) (I : Inv X pins σ H s) (r : Vals vs us) (h : sp vs H Q E) : wpAny (model X.prog X.w) X.A (call (.ref f) us) (EP X pins σ Q) X.xe s := by
  have hl : us.length = ps.length := r.length.symm.trans (F.len _ _ _ _ h)
  have b := hb s us I.kIn (by simpa using hl)
  simp only [List.append_nil] at b
  refine wpAny_call (codeAny_mono (F.run X.A X.stack s H ⟨us, []⟩ us vs Q E hr hg I.env0 b r h) fun z s' hq => ?_)
  match z, hq with
  | .error e, hq => exact hx pins H s e s' I hq
  | .ok (.ret u), hq => exact I.after hq
theorem callS (c : Fam X P w K mg base k N ns fx W false) {j : Nat} {x : Str} {sp : Sp} (C : Cal P w K mg base j x sp) (hj : j ≤ k) {e : Expr} {es : List Expr} {t : TA} {p pos : Pos} (hg : glB ns x = true) (hd : (x == ("__debug__" : Str)) = false) (h1 : ∀ a, PA (X a) (e :: es) t)
    (hs : ∀ a, starEach (e :: es) (X a).env = (false, eval e (X a).env) :: starEach es (X a).env) (hp : ∀ a, (backTo pos (starEach es (X a).env)).any (·.1) = false) (a : ι) : PE (X a) (.Call (.Name x p) (e :: es) [] pos) (tCallS sp (WE W) t) := by
  obtain ⟨f, fd, ps, F, hm, kp, b⟩ := C.ex
  have F' : FnG (X a).prog (X a).w (X a).K (X a).mg (X a).base (L2.CX (X a).prog (X a).w) j f fd ps sp := by rw [c.prog a, c.wd a, c.hK a, c.hmg a, c.hbase a]; exact F
  refine ⟨fun pins s σ H Q I h => ?_⟩
  refine wpAny_Call_Name_kw (ld_glob I (c.gl hg a) (by rw [c.hmg a]; exact hm) ?_ hd)
  refine PySem.W.callWith_K (h₀ := (X a).base) I.ok.mod.kin (by rw [c.hK a]; exact kp) (thn ((h1 a).run pos pins s σ H _ I h) fun us s1 ⟨vs, H1, I1, r, q⟩ => ⟨I1.kIn, ?_⟩) (hs a) (hp a)
  exact run_fnG F' ((c.room rfl a).mono hj) (c.gd a) (by rw [c.hK a]; exact b) (passAt (c.tk a) σ) I1 r q
theorem jCall (c : Fam X P w K mg base k N ns fx W false) {j n : Nat} {x : Str} {f : List D → Rf D} (C : Cal P w K mg base j x (SpF K n f)) {e : Expr} {es : List Expr} {ma : AM} {p pos : Pos} (ha : JA X K W (e :: es) ma) (hj : j ≤ k := by decide) (hg : glB ns x = true := by kernel_rfl) (hd : (x == ("__debug__" : Str)) = false := by kernel_rfl)
    (hs : ∀ a, starEach (e :: es) (X a).env = (false, eval e (X a).env) :: starEach es (X a).env := by intro _; rfl) (hp : ∀ a, (backTo pos (starEach es (X a).env)).any (·.1) = false := by intro _; rfl) : JE X K W (.Call (.Name x p) (e :: es) [] pos) (mCallF n f ma) := by
  obtain ⟨t, h1, h2⟩ := ha
  exact ⟨_, callS c C hj hg hd h1 hs hp, rd_callF h2⟩
theorem jCallO (c : Fam X P w K mg base k N ns fx W false) {j n : Nat} {x : Str} {f : List D → List D → Rf (D × List D)} (C : Cal P w K mg base j x (SpO K n f)) {e : Expr} {es : List Expr} {ma : AM} {p pos : Pos} (ha : JA X K W (e :: es) ma) (hj : j ≤ k := by decide) (hg : glB ns x = true := by kernel_rfl) (hd : (x == ("__debug__" : Str)) = false := by kernel_rfl)
    (hs : ∀ a, starEach (e :: es) (X a).env = (false, eval e (X a).env) :: starEach es (X a).env := by intro _; rfl) (hp : ∀ a, (backTo pos (starEach es (X a).env)).any (·.1) = false := by intro _; rfl) : JE X K W (.Call (.Name x p) (e :: es) [] pos) (mCallO n f ma) := by
  obtain ⟨t, h1, h2⟩ := ha
  exact ⟨_, callS c C hj hg hd h1 hs hp, rd_callO h2⟩
theorem jCall0 (c : Fam X P w K mg base k N ns fx W false) {j : Nat} {x : Str} {f : List D → Rf D} (C : Cal P w K mg base j x (SpF K 0 f)) {p pos : Pos} (hj : j ≤ k := by decide) (hg : glB ns x = true := by kernel_rfl) (hd : (x == ("__debug__" : Str)) = false := by kernel_rfl) : JE X K W (.Call (.Name x p) [] [] pos) (mCallF 0 f mNil) := by
  refine ⟨tCallS (SpF K 0 f) (WE W) tNil, fun a => ?_, rd_callF rd_nil⟩
  obtain ⟨g, fd, ps, F, hm, kp, b⟩ := C.ex
  have F' : FnG (X a).prog (X a).w (X a).K (X a).mg (X a).base (L2.CX (X a).prog (X a).w) j g fd ps (SpF K 0 f) := by rw [c.prog a, c.wd a, c.hK a, c.hmg a, c.hbase a]; exact F
  refine ⟨fun pins s σ H Q I h => ?_⟩
  refine wpAny_Call_Name_kw (ld_glob I (c.gl hg a) (by rw [c.hmg a]; exact hm) ?_ hd)
  exact PySem.W.callWith_K0 I.kIn (by rw [c.hK a]; exact kp) (run_fnG (us := []) F' ((c.room rfl a).mono hj) (c.gd a) (by rw [c.hK a]; exact b) (passAt (c.tk a) σ) I .nil h)
end
/-! ### a def -/
section
variable {P : Program} {w : World} {K : PySem.W.Frag} [Tb K] {mg : Str → Option Value} {base : Heap} {x qual : Str} {params : Arguments} {body : List Stmt} {scope : Scope} {dvs : List V} {kws : List (Str × V)} {f : Addr} {fd : FuncData}
theorem fam_def {N ps : List Str} {k : Nat} (S : FnScope N ps scope) {cdv : Value} {A : Around} {outer : List PySem.Env} {s : Shared} {H : Hp} {E : XK} (hr : Room k (A.deeper (envOfC qual scope s.heap.objs.size f cdv))) (hg : A.guards = some []) :
    Fam (fun _ : Unit => cxOf (L2.CX P w) P w K mg base N qual scope f cdv A outer s H E) P w K mg base k N scope.names (fun _ => true) (fun c d _ H' => E c d H') false where
  prog := fun _ => rfl
  wd := fun _ => rfl
  hK := fun _ => rfl
  hmg := fun _ => rfl
  hbase := fun _ => rfl
  hN := fun _ => rfl
  nd := S.nd
  sc := fun _ => rfl
  kind := fun _ => S.kind
  calm := fun _ _ => rfl
  room := fun _ _ => hr
  units := fun _ => by have := hr.un; show (A.deeper _).units + 80 < cLine; omega
  dep := fun _ => hr.depth
  tk := fun _ => takes_of rfl rfl rfl rfl
  gd := fun _ => hg
  po := fun _ => passes_of rfl
  hfx := fun _ _ _ => rfl
/-- what is to be shown of a def's body -/
abbrev Bdy (P : Program) (w : World) (K : PySem.W.Frag) [Tb K] (mg : Str → Option Value) (base : Heap) (k : Nat) (N : List Str) (scope : Scope) (body : List Stmt) (m : SM) : Prop := ∀ {ι : Type} {X : ι → Cx} {W : WX}, Fam X P w K mg base k N scope.names (fun _ => true) W false → JB X K W body m
theorem def_F {N ps : List Str} {k : Nat} {m : SM} (F : FunD K x qual params body scope [] [] f fd) (S : FnScope N ps scope) (hm : mg x = some (.ref f)) (hb : Binds K fd ps []) (h : Bdy P w K mg base k N scope body m) : Cal P w K mg base (k + 1) x (SpF K ps.length (runF m N.length)) := by
  refine ⟨f, fd, ps, fn_pure F S fun cdv A outer s H E hr hg => ?_, hm, F.kp, hb⟩
  obtain ⟨t, h1, h2⟩ := h (fam_def (P := P) (w := w) (K := K) (mg := mg) (base := base) (outer := outer) (E := E) (H := H) S hr hg)
  exact ⟨t, h1 (), h2⟩
theorem def_O {N ps : List Str} {k : Nat} {m : SM} (F : FunD K x qual params body scope [] [] f fd) (S : FnScope N ps scope) (hm : mg x = some (.ref f)) (hb : Binds K fd ps []) (h : Bdy P w K mg base k N scope body m) : Cal P w K mg base (k + 1) x (SpO K ps.length (runO m N.length)) := by
  refine ⟨f, fd, ps, fn_own F S fun cdv A outer s H E hr hg => ?_, hm, F.kp, hb⟩
  obtain ⟨t, h1, h2⟩ := h (fam_def (P := P) (w := w) (K := K) (mg := mg) (base := base) (outer := outer) (E := E) (H := H) S hr hg)
  exact ⟨t, h1 (), h2⟩
end
end Pm

set_option Elab.async false
set_option linter.all false
set_option maxRecDepth 100000
set_option maxHeartbeats 2000000
/-! Pm8: products, parts of sequences, stores into a list of one's own, repr. -/
namespace Pm
open PySem PySem.Spec PyProof.Rows L2

/-! ### * -/
def repB (b : Array UInt8) (n : Int) : Array UInt8 := (List.replicate n.toNat b.toList).flatten.toArray
def mulD : D → D → Option D
  | .int i, .int j => mulI i j
  | .byt b, .int n => if 0 < b.size ∧ b.size ≤ 16 ∧ -1048576 ≤ n ∧ n ≤ 1048576 then some (.byt (repB b n)) else none
  | .lst xs, .int n => if -(2 ^ 63) ≤ n ∧ n < 2 ^ 63 ∧ xs.length * n.toNat ≤ sizeLine then some (.lst (List.replicate n.toNat xs).flatten) else none
  | _, _ => none
def rMulA : R2 := opOr (rI CMul fun i j => .int (i * j)) (opOr (rI CMulW fun i j => .int (i * j)) (opOr rRep fun x y H Q => ∃ (b : Array UInt8) (n : Int), x = .byt b ∧ y = .int n ∧ 0 < b.size ∧ b.size ≤ 16 ∧ -1048576 ≤ n ∧ n ≤ 1048576 ∧ Q (.byt (repB b n)) H))
theorem op_mul_byt {X : Cx} : OpR X (binaryOp .Mult) (fun x y H Q => ∃ (b : Array UInt8) (n : Int), x = .byt b ∧ y = .int n ∧ 0 < b.size ∧ b.size ≤ 16 ∧ -1048576 ≤ n ∧ n ≤ 1048576 ∧ Q (.byt (repB b n)) H) := by
  intro pins s σ H x y v u Q I rx ry h
  obtain ⟨⟨b⟩, n, rfl, rfl, h1, h2, h3, h4, q⟩ := h
  obtain ⟨t, rfl⟩ := rx
  obtain ⟨t', rfl⟩ := ry
  refine PySem.W.bytes_mul_any (fun z => by subst z; simp at h1) h3 h4 (by simpa using h2) fun t2 k => ⟨.byt _, H, I.tok k, ⟨t2, rfl⟩, q⟩
theorem or_mul {X : Cx} : OpR X (binaryOp .Mult) rMulA := op_mul.or (op_mulW.or (op_rep.or op_mul_byt))
theorem RepL.rep {K : PySem.W.Frag} {F : Hp} {ds : List D} {vs : List V} (r : RepL K F ds vs) : ∀ n : Nat, RepL K F (List.replicate n ds).flatten (List.replicate n vs).flatten
  | 0 => .nil
  | n + 1 => by
    rw [List.replicate_succ, List.replicate_succ, List.flatten_cons, List.flatten_cons]
    exact r.append (RepL.rep r n)
theorem od_mul (K : PySem.W.Frag) : OpD K rMulA mulD := by
  intro F H d e x y z Q eF hx hy hz q
  cases d <;> cases e <;> try (cases hz; done)
  case int.int i j =>
    have hz' : mulI i j = some z := hz
    unfold mulI at hz'
    cases hx; cases hy
    by_cases c : CMul i j
    · rw [if_pos (.inl c)] at hz'; cases hz'
      exact .inl ⟨i, j, rfl, rfl, c, q _ F H (Grw.refl eF) (.int _)⟩
    · by_cases c2 : CMulW i j
      · rw [if_pos (.inr c2)] at hz'; cases hz'
        exact .inr (.inl ⟨i, j, rfl, rfl, c2, q _ F H (Grw.refl eF) (.int _)⟩)
      · rw [if_neg (fun z => z.elim c c2)] at hz'; cases hz'
  case byt.int b n =>
    simp only [mulD] at hz
    by_cases c : 0 < b.size ∧ b.size ≤ 16 ∧ -1048576 ≤ n ∧ n ≤ 1048576
    · rw [if_pos c] at hz; cases hz; cases hx; cases hy
      exact .inr (.inr (.inr ⟨b, n, rfl, rfl, c.1, c.2.1, c.2.2.1, c.2.2.2, q _ F H (Grw.refl eF) (.byt _)⟩))
    · rw [if_neg c] at hz; cases hz
  case lst.int xs n =>
    simp only [mulD] at hz
    by_cases c : -(2 ^ 63) ≤ n ∧ n < 2 ^ 63 ∧ xs.length * n.toNat ≤ sizeLine
    · rw [if_pos c] at hz; cases hz; cases hy
      obtain ⟨p, vs, rfl, h1, h2, h3⟩ := hx
      have hl : vs.length * n.toNat ≤ sizeLine := by rw [← h3.length]; exact c.2.2
      refine .inr (.inr (.inl ⟨p, n, vs, rfl, rfl, h1, c.1, c.2.1, hl, fun t ht => ?_⟩))
      have w : Grw F H (upd F t (.lst (List.replicate n.toNat vs).flatten)) (upd H t (.lst (List.replicate n.toNat vs).flatten)) := Grw.lay eF ht
      refine q _ _ _ w (.lst upd_same ?_ ((h3.rep _).up w.ff))
      have e : (List.replicate n.toNat vs).flatten.length = vs.length * n.toNat := by
        rw [List.length_flatten, List.map_replicate, List.sum_replicate_nat, Nat.mul_comm]
      rw [e]; exact hl
    · rw [if_neg c] at hz; cases hz
/-! ### parts -/
def cutD {α : Type} (xs : List α) (lo hi : Option Int) : List α := (xs.drop (HT.sIx xs.length 0 lo)).take (HT.sIx xs.length xs.length hi - HT.sIx xs.length 0 lo)
theorem cutD_len {α : Type} (xs : List α) (lo hi : Option Int) : (cutD xs lo hi).length ≤ xs.length := by
  unfold cutD
  rw [List.length_take, List.length_drop]; omega
def slD (lo hi : Option Int) : D → Option D
  | .lst xs => some (.lst (cutD xs lo hi))
  | .tup xs => some (.tup (cutD xs lo hi))
  | .scr ns => some (.lst (cutD (ns.map D.int) lo hi))
  | .str z => if z.length ≤ sizeLine then some (.str (cutS z lo hi)) else none
  | .byt b => if b.size ≤ 16777216 then some (.byt (PySem.W.KBy.picked b lo hi)) else none
  | _ => none
abbrev RSl := V → Option Int → Option Int → Hp → VK → Prop
def rSlAll (K : PySem.W.Frag) : RSl := fun x lo hi H Q => rSlL K x lo hi H Q ∨ rSlA K x lo hi H Q ∨ rSlS x lo hi H Q ∨ rSlB x lo hi H Q
theorem sl_all' {X : Cx} : SlR X (rSlAll X.K) := sl_list.or (sl_tupA.or (sl_str.or sl_byt))
theorem RepL.cut {K : PySem.W.Frag} {F : Hp} {ds : List D} {vs : List V} (r : RepL K F ds vs) (lo hi : Option Int) : RepL K F (cutD ds lo hi) (cutV vs lo hi) := by
  unfold cutD cutV
  rw [r.length]
  exact (r.drop _).take _
theorem cut_all {α : Type} {xs : List α} {lo hi : Option Int} (h : HT.sIx xs.length 0 lo = 0 ∧ HT.sIx xs.length xs.length hi = xs.length) : cutD xs lo hi = xs := by
  unfold cutD
  rw [h.1, h.2]; simp
theorem sl_data {K : PySem.W.Frag} {F H : Hp} {d z : D} {x : V} {lo hi : Option Int} {Q : VK} (eF : Ext F H) (hx : ROk K F H d x) (hz : slD lo hi d = some z) (q : ∀ v F' H', Grw F H F' H' → Rep K F' z v → Q v H') : rSlAll K x lo hi H Q := by
  have lay : ∀ {ds : List D} {vs : List V}, RepL K F ds vs → vs.length ≤ sizeLine → z = .lst (cutD ds lo hi) → ∀ p, H p = none → Q (.ref p) (upd H p (.lst (cutV vs lo hi))) := fun {ds vs} r hl e p hp => by
    have w : Grw F H (upd F p (.lst (cutV vs lo hi))) (upd H p (.lst (cutV vs lo hi))) := Grw.lay eF hp
    refine q _ _ _ w ?_
    rw [e]
    exact .lst upd_same (Nat.le_trans (cutV_length _ _ _) hl) ((r.cut lo hi).up w.ff)
  cases d <;> try (cases hz; done)
  case lst xs =>
    cases hz
    obtain ⟨p, vs, rfl, h1, h2, h3⟩ := hx
    exact .inl ⟨p, vs, rfl, .inl (.inl h1), lay h3 h2 rfl⟩
  case scr ns =>
    cases hz
    cases hx with
    | scr a b => exact .inl ⟨_, _, rfl, ext_l eF a, lay (RepL.ints ns) (by rw [List.length_map]; exact b) rfl⟩
  case tup xs =>
    cases hz
    cases hx with
    | tup a b c =>
      rename_i p vs
      refine .inr (.inl ⟨p, vs, rfl, ext_t eF a, fun h => ?_, fun h t ht => ?_⟩)
      · rw [← c.length] at h
        have e := cut_all h
        exact q _ F H (Grw.refl eF) (by rw [e]; exact .tup a b c)
      · have w : Grw F H (upd F t (.tup (cutV vs lo hi))) (upd H t (.tup (cutV vs lo hi))) := Grw.lay eF ht
        exact q _ _ _ w (.tup (SqT.of upd_same) (Nat.le_trans (cutV_length _ _ _) b) ((c.cut lo hi).up w.ff))
  case str s =>
    simp only [slD] at hz
    by_cases c : s.length ≤ sizeLine
    · rw [if_pos c] at hz; cases hz; cases hx
      exact .inr (.inr (.inl ⟨s, rfl, c, q _ F H (Grw.refl eF) (.str _)⟩))
    · rw [if_neg c] at hz; cases hz
  case byt b =>
    simp only [slD] at hz
    by_cases c : b.size ≤ 16777216
    · rw [if_pos c] at hz; cases hz; cases hx
      exact .inr (.inr (.inr ⟨b, rfl, c, q _ F H (Grw.refl eF) (.byt _)⟩))
    · rw [if_neg c] at hz; cases hz
/-- a slice's part -/
abbrev PM := DEnv → Rs (Option Int)
def pNo : PM := fun ρ => .ok none ρ
def intOf : D → Option Int
  | .int i => some i
  | _ => none
def pSo (m : EM) : PM := fun ρ => (m ρ).bind fun x ρ1 => (opt ((look ρ1 x).bind intOf) ρ1).bind fun i _ => .ok (some i) ρ1
section
variable {K : PySem.W.Frag} [Tb K] {W : WX}
def RdP (K : PySem.W.Frag) [Tb K] (W : WX) (t : TO) (m : PM) : Prop := ∀ (G : Gr) (F H : Hp) (σ : L2.St) (ρ : DEnv) (Q : Option Int → Hp → Prop), Gud K G F H σ ρ → Fin K G F W σ (m ρ) (fun o _ _ H' => Q o H') → t σ H Q
theorem rd_pno : RdP K W tNoPart pNo := fun G F H σ ρ Q g h => h F H (Ext.refl _) g
theorem rd_pso {t : TE} {m : EM} (h : RdE K W t m) : RdP K W (tPart t) (pSo m) := by
  intro G F H σ ρ Q g q
  refine h G F H σ ρ _ g (q.bind.imp fun x ρ1 F1 H1 e1 g1 h1 v hv => ?_)
  obtain ⟨i, ei, h1⟩ := fin_opt h1
  obtain ⟨d, ed, ei⟩ := Option.bind_eq_some_iff.mp ei
  have r := look_ok g1 hv ed
  cases d <;> cases ei
  cases r
  exact ⟨_, rfl, h1 F1 H1 (Ext.refl _) g1⟩
def mSl (m : EM) (lo hi : PM) : EM := fun ρ => (m ρ).bind fun x ρ1 => (lo ρ1).bind fun l ρ2 => (hi ρ2).bind fun u ρ3 => (opt ((look ρ3 x).bind (slD l u)) ρ3).bind fun z _ => .ok (.dat z) ρ3
theorem rd_sl {te : TE} {tl th : TO} {m : EM} {lo hi : PM} (h : RdE K W te m) (hl : RdP K W tl lo) (hh : RdP K W th hi) : RdE K W (tSl (rSlAll K) te tl th) (mSl m lo hi) := by
  intro G F H σ ρ Q g q
  refine h G F H σ ρ _ g (q.bind.imp fun x ρ1 F1 H1 e1 g1 h1 v hv => ?_)
  refine hl G F1 H1 σ ρ1 _ g1 (h1.bind.imp fun l ρ2 F2 H2 e2 g2 h2 => ?_)
  refine hh G F2 H2 σ ρ2 _ g2 (h2.bind.imp fun u ρ3 F3 H3 e3 g3 h3 => ?_)
  obtain ⟨z, ez, h3⟩ := fin_opt h3
  obtain ⟨d, ed, ez⟩ := Option.bind_eq_some_iff.mp ez
  exact sl_data g3.ff (look_ok g3 ((hv.up e2).up e3) ed) ez fun v' F' H' w r => h3 F' H' w.ff (g3.grow w) v' r
/-! ### xs[i] = e, xs a list of one's own -/
def sSetI (i : Nat) (mi me : EM) : SM := fun ρ => (me ρ).bind fun x ρ1 => (opt (frz ρ1 x) ρ1).bind fun p _ => (mVar i p.2).bind fun o ρ2 => (mi ρ2).bind fun y ρ3 => (opt ((look ρ3 y).bind intOf) ρ3).bind fun n _ => match ρ3[i]? with
  | some (.own b ds) => (opt (ixN ds.length n) ρ3).bind fun j _ => .ok .nx (ρ3.set i (.own b (ds.set j p.1)))
  | _ => .bad
theorem rd_setI {i : Nat} {ti te : TE} {mi me : EM} (hi : RdE K W ti mi) (he : RdE K W te me) : RdS K W (tAsg te (gSub (tVar i) ti rSetL)) (sSetI i mi me) := by
  intro G F H σ ρ D g h
  refine he G F H σ ρ _ g ((finS_of h).imp fun x ρ1 F1 H1 e1 g1 h1 v hv => ?_)
  obtain ⟨⟨d, ρ2⟩, ed, h1⟩ := finS_opt h1
  obtain ⟨F2, a1, a2, a3⟩ := frz_ok g1 hv ed
  have h1' : FinS K G F2 W ((mVar i ρ2).bind _) D := FinS.up h1 a1
  cases q : mVar i ρ2 with
  | bad => rw [q] at h1'; exact h1'.elim
  | exc n o ρ1 => exact (var_noexc q).elim
  | ok o ρ3 =>
    rw [q] at h1'
    obtain ⟨rfl, u, hu, hx⟩ := var_val a2 q
    refine ⟨u, hu, hi G F2 H1 σ _ _ a2 ((finS_of (show FinS K G F2 W ((mi ρ3).bind _) D from h1')).imp fun y ρ4 F4 H4 e4 g4 h4 w hw => ?_)⟩
    obtain ⟨n, en, h4⟩ := finS_opt h4
    obtain ⟨dn, edn, en⟩ := Option.bind_eq_some_iff.mp en
    have rn := look_ok g4 hw edn
    cases dn <;> cases en
    cases rn
    have h5 : FinS K G F4 W (match ρ4[i]? with
      | some (.own b ds) => (opt (ixN ds.length _) ρ4).bind fun j _ => .ok .nx (ρ4.set i (.own b (ds.set j d)))
      | _ => .bad) D := h4
    cases z : ρ4[i]? with
    | none => rw [z] at h5; exact h5.elim
    | some sl =>
      rw [z] at h5
      cases sl with
      | un => exact h5.elim
      | dat _ => exact h5.elim
      | own b ds =>
        obtain ⟨j, ej, h6⟩ := finS_opt h5
        obtain ⟨p, xs, b1, b2, b3, b4, b5, b6, b7⟩ := g4.own i b ds z
        rw [hu] at b1; cases b1
        refine ⟨p, xs, _, j, rfl, rfl, b2, by rw [← b4.length]; exact ej, ?_⟩
        exact h6 σ F4 _ (Ext.refl _) (g4.write z hu (by rw [List.length_set]; exact b3) (b4.set j (a3.up e4)))
/-! ### repr -/
mutual
def okR : PyData → Bool
  | .none => true
  | .bool _ => true
  | .int i => decide (i.natAbs < 10 ^ 60)
  | .str x => x.cps.toList.all fun c => decide (c < 16 ^ 8)
  | .list xs => okRL xs
  | .tuple xs => okRL xs
  | .dict _ => false
def okRL : List PyData → Bool
  | [] => true
  | x :: xs => okR x && okRL xs
end
theorem log_of_10 {n : Nat} (h : n < 10 ^ 60) : n.log2 < 1920 := by
  by_cases z : n = 0
  · subst z; decide
  · exact (Nat.log2_lt z).mpr (Nat.lt_of_lt_of_le (Nat.lt_trans h (show 10 ^ 60 < 2 ^ 240 by decide)) (Nat.pow_le_pow_right (by decide) (by decide)))
theorem shown_int60 {i : Int} (h : i.natAbs < 10 ^ 60) : (PyData.shown (.int i)).length ≤ 62 := by
  have e := int_text_length_le10 (k := 60) (by decide) h
  show (Str.ofString (toString i)).length ≤ 62
  rw [PySem.ofString_length]; omega
mutual
theorem okR_facts : ∀ d : PyData, okR d = true → d.showable = true ∧ d.hasDict = false ∧ d.leavesShort 62 = true
  | .none, _ => ⟨rfl, rfl, rfl⟩
  | .bool _, _ => ⟨rfl, rfl, rfl⟩
  | .int i, h => by
    have h' : i.natAbs < 10 ^ 60 := by simpa [okR] using h
    refine ⟨by simpa [PyData.showable] using log_of_10 h', rfl, ?_⟩
    simp only [PyData.leavesShort, decide_eq_true_eq]
    exact shown_int60 h'
  | .str x, h => ⟨rfl, rfl, by simpa only [okR, PyData.leavesShort] using h⟩
  | .list xs, h => by
    obtain ⟨h1, h2, h3⟩ := okRL_facts xs (by simpa only [okR] using h)
    exact ⟨by simpa only [PyData.showable] using h1, by simpa only [PyData.hasDict] using h2, by simpa only [PyData.leavesShort] using h3⟩
  | .tuple xs, h => by
    obtain ⟨h1, h2, h3⟩ := okRL_facts xs (by simpa only [okR] using h)
    exact ⟨by simpa only [PyData.showable] using h1, by simpa only [PyData.hasDict] using h2, by simpa only [PyData.leavesShort] using h3⟩
  | .dict _, h => by simp [okR] at h
theorem okRL_facts : ∀ ds : List PyData, okRL ds = true → PyData.showableAll ds = true ∧ PyData.hasDictAll ds = false ∧ PyData.leavesShortAll 62 ds = true
  | [], _ => ⟨rfl, rfl, rfl⟩
  | d :: ds, h => by
    have h' : okR d = true ∧ okRL ds = true := by simpa only [okRL, Bool.and_eq_true] using h
    obtain ⟨h1, h2, h3⟩ := okR_facts d h'.1
    obtain ⟨k1, k2, k3⟩ := okRL_facts ds h'.2
    exact ⟨by simp only [PyData.showableAll, h1, k1, Bool.and_self], by simp only [PyData.hasDictAll, h2, k2, Bool.or_self], by simp only [PyData.leavesShortAll, h3, k3, Bool.and_self]⟩
end
/-- repr of it can be told -/
def repOk (p : PyData) : Bool := okR p && decide (p.weight ≤ 200000) && decide (p.depth ≤ 32)
theorem repOk_size {p : PyData} (h : repOk p = true) : p.shown.length ≤ sizeLine := by
  simp only [repOk, Bool.and_eq_true, decide_eq_true_eq] at h
  obtain ⟨⟨h1, h2⟩, _⟩ := h
  have e := PyData.shown_le 62 (by decide) p (okR_facts p h1).2.2
  have e2 : (62 + 2) * p.weight ≤ 64 * 200000 := Nat.mul_le_mul (by decide) h2
  rw [sizeLine_eq]
  omega
def repD : List D → Option D
  | [d] => match d.py with
    | some p => if repOk p = true then some (.str p.shown) else none
    | none => none
  | _ => none
theorem call_repr {X : Cx} (hg : X.A.guards = some []) (hu : X.A.units + 64 < cLine) : CallR X (.builtin "repr") (fun xs H Q => ∃ x p, xs = [x] ∧ Dp X.K H x p ∧ repOk p = true ∧ Q (.str p.shown) H) := by
  intro pins s σ H xs us Q I r h
  obtain ⟨x, p, rfl, hd, ho, q⟩ := h
  obtain ⟨u, rfl, rx⟩ := vals1 r
  obtain ⟨as, rd⟩ := hd.reads I p x u rx
  have hz := repOk_size ho
  simp only [repOk, Bool.and_eq_true, decide_eq_true_eq] at ho
  obtain ⟨⟨h1, h2⟩, h3⟩ := ho
  obtain ⟨s1, s2, _⟩ := okR_facts p h1
  have fin : ∀ (t : Tok) (h' : Heap) (tk : Nat), (∀ b o, s.heap.get? b = some o → h'.get? b = some o) → EP X pins σ Q (.str p.shown t) { s with heap := h', toks := tk } := fun t h' tk hk => ⟨.str _, H, I.kept hk, ⟨t, rfl⟩, q⟩
  cases hd with
  | non => cases rx; exact PySem.P.repr_of_none (fin _ _ _ fun _ _ e => e)
  | bl b => cases rx; exact PySem.P.repr_of_bool (fin _ _ _ fun _ _ e => e)
  | int i => obtain ⟨t, rfl⟩ := rx; exact PySem.P.repr_of_int (by simpa [PyData.showable] using s1) (fin _ _ _ fun _ _ e => e)
  | str y => obtain ⟨t, rfl⟩ := rx; exact PySem.P.repr_of_str (fin _ _ _ fun _ _ e => e) hz
  | lst a b => cases rx; exact repr_of_reads' rd s1 (PyData.noDict_hsm s2) hg (by omega) (fun _ _ e => e) (fun h' u tk hk => fin u h' tk hk) hz
  | tup a b => cases rx; exact repr_of_reads' rd s1 (PyData.noDict_hsm s2) hg (by omega) (fun _ _ e => e) (fun h' u tk hk => fin u h' tk hk) hz
theorem cd_rep (K : PySem.W.Frag) : CalD K (fun xs H Q => ∃ x p, xs = [x] ∧ Dp K H x p ∧ repOk p = true ∧ Q (.str p.shown) H) repD := by
  intro F H ds vs z Q eF hr hz q
  rcases ds with _ | ⟨d, _ | ⟨d2, r⟩⟩
  · cases hz
  · obtain ⟨v, rfl, h⟩ := rokl1 hr
    simp only [repD] at hz
    cases e : d.py with
    | none => rw [e] at hz; cases hz
    | some p =>
      rw [e] at hz
      by_cases c : repOk p = true
      · simp only [c, if_true] at hz
        cases hz
        exact ⟨v, p, rfl, dp_rok eF h e, c, q _ F H (Grw.refl eF) (.str _)⟩
      · simp only [c] at hz; cases hz
  · cases hz
end
section
variable {ι : Type} {X : ι → Cx} {P : Program} {w : World} {K : PySem.W.Frag} [Tb K] {mg : Str → Option Value} {base : Heap} {k : Nat} {N : List Str} {ns : Nms} {fx : Str → Bool} {W : WX} {hot : Bool}
theorem jMul (c : Fam X P w K mg base k N ns fx W hot) {e1 e2 : Expr} {pos : Pos} {ma mb : EM} (ha : JE X K W e1 ma) (hb : JE X K W e2 mb) : JE X K W (.BinOp e1 .Mult e2 pos) (mBin mulD ma mb) := jBin (fun a => or_mul) (od_mul K) ha hb
theorem bRep (c : Fam X P w K mg base k N ns fx W hot) : BltJ X K (.builtin "repr") repD := ⟨_, fun a => by have h := call_repr (X := X a) (c.gd a) (c.un64 a); rw [c.hK a] at h; exact h, cd_rep K⟩
def JP (X : ι → Cx) (K : PySem.W.Frag) [Tb K] (W : WX) (e : Option Expr) (m : PM) : Prop := ∃ t : TO, (∀ a, PO (X a) e t) ∧ RdP K W t m
theorem jpNo : JP X K W none pNo := ⟨_, fun a => po_none, rd_pno⟩
theorem jpSo {e : Expr} {m : EM} (h : JE X K W e m) : JP X K W (some e) (pSo m) := by
  obtain ⟨t, h1, h2⟩ := h
  exact ⟨_, fun a => po_some (h1 a), rd_pso h2⟩
theorem jSl (c : Fam X P w K mg base k N ns fx W hot) {e : Expr} {lo hi : Option Expr} {p2 pos : Pos} {m : EM} {ml mh : PM} (h : JE X K W e m) (hl : JP X K W lo ml) (hh : JP X K W hi mh) : JE X K W (.Subscript e (.Slice lo hi none p2) pos) (mSl m ml mh) := by
  obtain ⟨t, h1, h2⟩ := h
  obtain ⟨u, k1, k2⟩ := hl
  obtain ⟨v, l1, l2⟩ := hh
  exact ⟨_, fun a => pe_slice (by have h := sl_all' (X := X a); rw [c.hK a] at h; exact h) (h1 a) (k1 a) (l1 a), rd_sl h2 k2 l2⟩
theorem jSetI (c : Fam X P w K mg base k N ns fx W hot) (i : Nat) {x : Str} {ei e : Expr} {p1 pos' pos : Pos} {mi me : EM} (hi : JE X K W ei mi) (he : JE X K W e me) (hN : N[i]? = some x := by kernel_rfl) (hv : visB ns x = true := by kernel_rfl) (hd : (x == ("__debug__" : Str)) = false := by kernel_rfl) (hcd : (x == ("__classdict__" : Str)) = false := by kernel_rfl)
    (hs : ∀ a, swapsWithSole [.Subscript (.Name x p1) ei pos'] e pos.line (X a).env = pure false := by intro _; rfl) (hw : ∀ a, swappedStores [.Subscript (.Name x p1) ei pos'] e (X a).env = pure none := by intro _; rfl)
    (h1 : ∀ a, (assignEach [.Subscript (.Name x p1) ei pos'] (X a).env).map (·.2) = [assign (.Subscript (.Name x p1) ei pos') (X a).env] := by intro _; rfl)
    (ha : ∀ a v, assign (.Subscript (.Name x p1) ei pos') (X a).env v = (do
      let ov ← holding [v] (eval (.Name x p1) (X a).env)
      let iv ← holding [v, ov] (eval ei (X a).env)
      standAt pos'
      holding [v, ov, iv] (setItem ov iv v)
      release [v, ov, iv] []) := by intro _ _; rfl) : JS X K W (.Assign [.Subscript (.Name x p1) ei pos'] e pos) (sSetI i mi me) := by
  obtain ⟨t, k1, k2⟩ := hi
  obtain ⟨u, l1, l2⟩ := he
  exact ⟨_, fun a => ps_asg (l1 a) (pg_sub (pe_var (c.get hN a) (c.vis hv a) hd hcd) (k1 a) set_list (ha a)) (hs a) (hw a) (h1 a), rd_setI k2 l2⟩
end
end Pm

set_option Elab.async false
set_option linter.all false
set_option maxRecDepth 100000
set_option maxHeartbeats 2000000
/-! Pm9: bytes: to_bytes and from_bytes of any usual length, parts with a step, order. -/
namespace Pm
open PySem PySem.Spec PyProof.Rows L2
/-! ### < and <= of ints and bytes -/
def ltA (d e : D) : Option D := match d, e with
  | .int i, .int j => some (.bl (decide (i < j)))
  | .byt a, .byt b => some (.bl (Builtin.Bytes.order a.toList b.toList == .lt))
  | _, _ => none
def leA (d e : D) : Option D := match d, e with
  | .int i, .int j => some (.bl (decide (i ≤ j)))
  | .byt a, .byt b => some (.bl (Builtin.Bytes.order a.toList b.toList != .gt))
  | _, _ => none
theorem od_ltA (K : PySem.W.Frag) : OpD K (opOr (rI0 fun i j => .bl (decide (i < j))) (rBytB (· == .lt))) ltA := by
  intro F H d e x y z Q eF hx hy hz q
  cases d <;> cases e <;> try (cases hz; done)
  case int.int i j => cases hz; cases hx; cases hy; exact .inl ⟨i, j, rfl, rfl, q _ F H (Grw.refl eF) (.bl _)⟩
  case byt.byt a b => cases hz; cases hx; cases hy; exact .inr ⟨a, b, rfl, rfl, q _ F H (Grw.refl eF) (.bl _)⟩
theorem od_leA (K : PySem.W.Frag) : OpD K (opOr (rI0 fun i j => .bl (decide (i ≤ j))) (rBytB (· != .gt))) leA := by
  intro F H d e x y z Q eF hx hy hz q
  cases d <;> cases e <;> try (cases hz; done)
  case int.int i j => cases hz; cases hx; cases hy; exact .inl ⟨i, j, rfl, rfl, q _ F H (Grw.refl eF) (.bl _)⟩
  case byt.byt a b => cases hz; cases hx; cases hy; exact .inr ⟨a, b, rfl, rfl, q _ F H (Grw.refl eF) (.bl _)⟩
section
variable {ι : Type} {X : ι → Cx} {K : PySem.W.Frag} [Tb K]
theorem cLtA : CmpJ X K .Lt ltA := ⟨_, fun a => op_lt.or op_lt_byt, od_ltA K⟩
theorem cLeA : CmpJ X K .LtE leA := ⟨_, fun a => op_le.or op_le_byt, od_leA K⟩
end
/-! ### n.to_bytes(k, 'big') -/
section
open PySem.W.KTBy PySem.W
variable {prog : Program} {w : World} {A : Around} {E : Value → Shared → Prop} {s : Shared} {n : Int} {k : Nat} {t u v : Tok}
theorem tb_big {Q : Value → Shared → Prop} (hk : k ≤ 1000) (h0 : 0 ≤ n) (h1 : n < 256 ^ k) (q : ∀ (b : Array UInt8) t' k', KBw.bInts b = (little k n).reverse → Q (.bytes b t') { s with toks := k' }) :
    wpAny (model prog w) A (call (.builtin "int.to_bytes") [.int n t, .int (k : Int) u, .str (PySem.Str.ofString "big") v]) Q E s := by
  refine wpAny_call_entry slot (typeIs_int s n t) entry (?_ : wpAny _ _ (Builtin.Int.intOfSelf (.int n t) >>= fun y => _) _ _ s) (args _ _ _)
  have hb := bits_le (B := 256 ^ k) rfl h0 h1
  have n0 : ¬ n < 0 := by omega
  refine wpAny_bind (wpAny_of_eq (a := n) rfl (?_ : wpAny _ _ (Builtin.Int.intBindNamed "to_bytes" ["length", "byteorder", "signed"] 0 2 [.int (k : Int) u, .str (PySem.Str.ofString "big") v] [] >>= fun l => _) _ _ s))
  refine wpAny_bind (wpAny_of_eq (a := [some (.int (k : Int) u), some (.str (PySem.Str.ofString "big") v), none]) (by kernel_rfl) (?_ : wpAny _ _ (Builtin.Int.intIndex "int.to_bytes" (.int (k : Int) u) >>= fun m => _) _ _ s))
  have c1 : (decide ((k : Int) < -(2 ^ 63 : Int)) || decide ((k : Int) ≥ 2 ^ 63)) = false := by simp; omega
  refine wpAny_bind (wpAny_of_eq (a := (k : Int)) rfl (KTBy.if_not c1 (wpAny_bind (wpAny_of_eq (a := PySem.Str.ofString "big") (by kernel_rfl) (wpAny_bind (wpAny_of_eq (a := false) rfl (wpAny_bind (wpAny_of_eq (a := false) (by kernel_rfl) ?_))))))))
  have c2 : decide ((k : Int) > (sizeLine : Int)) = false := decide_eq_false (by rw [sizeLine_eq]; omega)
  refine wpAny_ite_false (decide_eq_false (by omega : ¬ (k : Int) < 0)) (wpAny_ite_false (decide_eq_false (by omega : ¬ (k : Int) > 2 ^ 63 - 1 - 33)) (wpAny_ite_false c2 ?_))
  have c3 : (decide (n < 0) && !false) = false := by simp [n0]
  refine KTBy.if_not c3 (KTBy.if_not (by show (_ && decide ((Builtin.Int.intBits n : Int) > 8 * (k : Int))) = false; rw [decide_eq_false (by omega : ¬ (Builtin.Int.intBits n : Int) > 8 * (k : Int)), Bool.and_false]) ?_)
  have hz : (List.reverse (low n (Int.toNat (k : Int)))).length ≤ sizeLine := by rw [List.length_reverse, low_length, Int.toNat_natCast, sizeLine_eq]; omega
  refine wpAny_bind (wpAny_mkBytes (wpAny_pure ⟨_, rfl, q _ _ _ (?_ : (List.reverse (low n (Int.toNat (k : Int)))).map (fun c : UInt8 => ((c.toNat : Nat) : Int)) = _)⟩) hz)
  rw [Int.toNat_natCast, List.map_reverse, low_ints h0 h1, ← little_eq]
end
def rTb : V → List V → Hp → VK → Prop := fun x vs H Q => ∃ (n : Int) (k : Nat), x = .int n ∧ vs = [.int (k : Int), .str "big"] ∧ k ≤ 1000 ∧ 0 ≤ n ∧ n < 256 ^ k ∧ Q (.byt (byteArr (PySem.W.KTBy.little k n).reverse)) H
theorem mt_tb {X : Cx} : MtR X "int.to_bytes" rTb := by
  intro pins s σ H x vs v us Q I rx rv h
  obtain ⟨n, k, rfl, rfl, hk, h0, h1, q⟩ := h
  obtain ⟨u1, u2, rfl, ⟨t1, rfl⟩, ⟨t2, rfl⟩⟩ := rv.two
  obtain ⟨t, rfl⟩ := rx
  refine tb_big hk h0 h1 fun b t' k' hb => ?_
  obtain rfl := byteArr_of hb
  exact ⟨.byt _, H, I.tok _, ⟨t', rfl⟩, q⟩
/-- n.to_bytes(k, o) -/
def tbD : D → List D → Option D
  | .int n, [.int k, .str o] => if o = "big" ∧ 0 ≤ k ∧ k ≤ 1000 ∧ 0 ≤ n ∧ n < 256 ^ k.toNat then some (.byt (byteArr (PySem.W.KTBy.little k.toNat n).reverse)) else none
  | _, _ => none
/-- a method of a built-in type: receiver, arguments -/
def mBm (T : D → Bool) (f : D → List D → Option D) (mo : EM) (ma : AM) : EM := fun ρ => (mo ρ).bind fun x ρ1 => (opt (look ρ1 x) ρ1).bind fun d _ => if T d then (ma ρ1).bind fun xs ρ2 => (opt (look ρ2 x) ρ2).bind fun d2 _ => (opt (looks ρ2 xs) ρ2).bind fun ds _ => (opt (f d2 ds) ρ2).bind fun z _ => .ok (.dat z) ρ2 else .bad
/-- such a method upon data -/
def MetD (K : PySem.W.Frag) (T : String) (Tb : D → Bool) (r : V → List V → Hp → VK → Prop) (f : D → List D → Option D) : Prop := (∀ (F H : Hp) (d : D) (x : V), Ext F H → ROk K F H d x → Tb d = true → tyV K T x H) ∧
  ∀ (F H : Hp) (d : D) (ds : List D) (x : V) (vs : List V) (z : D) (Q : VK), Ext F H → ROk K F H d x → ROkL K F H ds vs → f d ds = some z → (∀ v F' H', Grw F H F' H' → Rep K F' z v → Q v H') → r x vs H Q
theorem rd_bm {K : PySem.W.Frag} [Tb K] {W : WX} {T : String} {Tb : D → Bool} {r : V → List V → Hp → VK → Prop} {f : D → List D → Option D} {to : TE} {ta : TA} {mo : EM} {ma : AM} (o : MetD K T Tb r f) (ho : RdE K W to mo) (ha : RdA K W ta ma) : RdE K W (tBM K T r to ta) (mBm Tb f mo ma) := by
  intro G F H σ ρ Q g h
  refine ho G F H σ ρ _ g (h.bind.imp fun x ρ1 F1 H1 e1 g1 h1 v hv => ?_)
  obtain ⟨d, ed, h1⟩ := fin_opt h1
  by_cases c : Tb d = true
  · rw [if_pos c] at h1
    refine ⟨o.1 F1 H1 d v g1.ff (look_ok g1 hv ed) c, ha G F1 H1 σ ρ1 _ g1 (h1.bind.imp fun xs ρ2 F2 H2 e2 g2 h2 vs hvs => ?_)⟩
    obtain ⟨d2, ed2, h2⟩ := fin_opt h2
    obtain ⟨ds, eds, h2⟩ := fin_opt h2
    obtain ⟨z, ez, h2⟩ := fin_opt h2
    exact o.2 F2 H2 d2 ds v vs z _ g2.ff (look_ok g2 (hv.up e2) ed2) (looks_ok g2 hvs eds) ez fun v' F' H' w rz => h2 F' H' w.ff (g2.grow w) v' rz
  · rw [if_neg c] at h1; exact h1.elim
def isInt : D → Bool
  | .int _ => true
  | _ => false
def isByt : D → Bool
  | .byt _ => true
  | _ => false
def isStr : D → Bool
  | .str _ => true
  | _ => false
theorem md_tb (K : PySem.W.Frag) : MetD K "int" isInt rTb tbD := by
  refine ⟨fun F H d x e r c => ?_, fun F H d ds x vs z Q eF r rs hz q => ?_⟩
  · cases d <;> cases c
    cases r
    trivial
  · cases d <;> try (cases hz; done)
    case int n =>
      rcases ds with _ | ⟨d1, _ | ⟨d2, _ | ⟨d3, l⟩⟩⟩
      · cases hz
      · cases d1 <;> cases hz
      · obtain ⟨v, u, rfl, h1, h2⟩ := rokl2 rs
        cases d1 <;> cases d2 <;> try (cases hz; done)
        case int.str k o =>
          simp only [tbD] at hz
          by_cases c : o = "big" ∧ 0 ≤ k ∧ k ≤ 1000 ∧ 0 ≤ n ∧ n < 256 ^ k.toNat
          · rw [if_pos c] at hz; cases hz
            obtain ⟨rfl, c1, c2, c3, c4⟩ := c
            cases r; cases h1; cases h2
            refine ⟨n, k.toNat, rfl, by rw [Int.toNat_of_nonneg c1], by omega, c3, c4, q _ F H (Grw.refl eF) (.byt _)⟩
          · rw [if_neg c] at hz; cases hz
      · cases d1 <;> cases d2 <;> cases hz
section
variable {ι : Type} {X : ι → Cx} {P : Program} {w : World} {K : PySem.W.Frag} [Tb K] {mg : Str → Option Value} {base : Heap} {k : Nat} {N : List Str} {ns : Nms} {fx : Str → Bool} {W : WX} {hot : Bool}
/-- what a method of a built-in type needs -/
structure MetJ (X : ι → Cx) (K : PySem.W.Frag) [Tb K] (name : Str) (Tp : D → Bool) (f : D → List D → Option D) : Prop where
  ex : ∃ (T id : String) (r : V → List V → Hp → VK → Prop), PlainAttrs T ∧ Slot T name id ∧ typeOf (.builtin id) = pure (.type "method_descriptor") ∧ (∀ a, MtR (X a) id r) ∧ MetD K T Tp r f
theorem jBm (c : Fam X P w K mg base k N ns fx W hot) {o e : Expr} {es : List Expr} {name : Str} {apos cpos : Pos} {Tp : D → Bool} {f : D → List D → Option D} {mo : EM} {ma : AM} (M : MetJ X K name Tp f) (ho : JE X K W o mo) (ha : JA X K W (e :: es) ma)
    (hbase : ∀ a, attributeBase o name (X a).env (eval o (X a).env) = eval o (X a).env := by intro _; rfl)
    (hfew : ∀ a, ((backTo cpos (starEach (e :: es) (X a).env)).all (fun x => !x.1) && (backToKw cpos (keywordEach [] (X a).env)).all (fun x => x.1.isSome)
      && decide ((e :: es).length + ([] : List Keyword).length + (if ([] : List Keyword).isEmpty then 0 else 1) < 30)) = true := by intro _; rfl)
    (hline : (apos.endLine == cpos.line) = true := by rfl) (hs : ∀ a, starEach (e :: es) (X a).env = (false, eval e (X a).env) :: starEach es (X a).env := by intro _; rfl) (hp : ∀ a, (backTo cpos (starEach es (X a).env)).any (·.1) = false := by intro _; rfl) :
    JE X K W (.Call (.Attribute o name apos) (e :: es) [] cpos) (mBm Tp f mo ma) := by
  obtain ⟨T, id, r, p1, p2, p3, p4, p5⟩ := M.ex
  obtain ⟨t, h1, h2⟩ := ho
  obtain ⟨u, k1, k2⟩ := ha
  exact ⟨_, fun a => by have h := pe_bm p1 p2 p3 (p4 a) (h1 a) (k1 a) (hbase a) (hfew a) hline (hs a) (hp a); rw [c.hK a] at h; exact h, rd_bm p5 h2 k2⟩
theorem bmTb : MetJ X K "to_bytes" isInt tbD := ⟨"int", "int.to_bytes", rTb, F.plainAttrs_int, PySem.W.KTBy.slot, PySem.W.KTBy.type_eq, fun a => mt_tb, md_tb K⟩
end
/-! ### int.from_bytes(b, 'big') -/
section
open PySem.W.KFB PySem.W
variable {prog : Program} {w : World} {M : Model} {A : Around} {E : Value → Shared → Prop} {s : Shared}
theorem fb_grown {n : Nat} {Q : Value → Shared → Prop} (hn : n < 2 ^ 8000) (h : Q (.int (n : Int) s.toks) { s with toks := s.toks + 1 }) : wpAny M A (mkIntGrown (n : Int)) Q E s := by
  have hl : ¬ ((n : Int).natAbs.log2 ≥ bitsLine) := by
    have hb : bitsLine = 134217728 := rfl
    rw [Int.natAbs_natCast, hb]
    rcases Nat.eq_zero_or_pos n with z | z
    · rw [z]; decide
    · have := (Nat.log2_lt (Nat.pos_iff_ne_zero.mp z)).mpr hn
      omega
  simp only [mkIntGrown]
  rw [if_neg hl]; exact wpAny_mkInt h
theorem fb_big {b : Array UInt8} {t u : Tok} {P : PySem.Fin → Shared → Prop} (hl : b.size ≤ 1000) (h : P (.done (.ret (.int (value (KBw.bInts b)) s.toks))) { s with toks := s.toks + 1 }) :
    wpAny M A (Builtin.«int.from_bytes» ⟨[.type "int", .bytes b t, .str (PySem.Str.ofString "big") u], []⟩) P E s := by
  have hv : ((b.toList.foldl (fun (x : Nat) (c : UInt8) => x * 256 + c.toNat) 0 : Nat) : Int) = value (KBw.bInts b) := fold_cast b.toList 0
  have hn : b.toList.foldl (fun (x : Nat) (c : UInt8) => x * 256 + c.toNat) 0 < 2 ^ 8000 := by
    have h1 := fold_lt b.toList 0
    have h2 : 256 ^ b.size ≤ 256 ^ 1000 := Nat.pow_le_pow_right (by decide) hl
    have h3 : (256 : Nat) ^ 1000 = 2 ^ 8000 := by rw [show (256 : Nat) = 2 ^ 8 from rfl, ← Nat.pow_mul]
    rw [Nat.zero_add, Nat.one_mul, Array.length_toList] at h1
    rw [← h3]
    exact Nat.lt_of_lt_of_le h1 h2
  unfold Builtin.«int.from_bytes»
  refine wpAny_bind (wpAny_of_eq (a := true) type_int (KFB.if_not rfl (wpAny_bind (wpAny_of_eq (a := true) F.conv_sub_int (KFB.if_not rfl ?_)))))
  refine wpAny_bind (wpAny_of_eq (a := [some (.bytes b t), some (.str (PySem.Str.ofString "big") u), none]) (by kernel_rfl) (wpAny_bind (wpAny_of_eq (a := PySem.Str.ofString "big") (by kernel_rfl) (wpAny_bind (wpAny_of_eq (a := false) rfl (wpAny_bind (wpAny_of_eq (a := false) (by kernel_rfl) ?_)))))))
  refine wpAny_bind (wpAny_of_eq (a := b) rfl (?_ : wpAny _ _ (mkIntGrown (b.toList.foldl (fun (x : Int) (c : UInt8) => x * 256 + (c.toNat : Int)) ((0 : Nat) : Int)) >>= fun v => _) _ _ _))
  rw [foldI_eq]
  refine wpAny_bind (fb_grown hn ?_)
  rw [hv]
  exact KFB.if_so (by decide +kernel) (wpAny_bind (wpAny_pure (wpAny_pure h)))
end
def rFb : List V → Hp → VK → Prop := fun vs H Q => ∃ b : Array UInt8, b.size ≤ 1000 ∧ vs = [.byt b, .str "big"] ∧ Q (.int (PySem.W.KFB.value (PySem.W.KBw.bInts b))) H
def tFb (to : TE) (t : TA) : TE := fun σ H Q => to σ H fun x H1 => x = .ty "int" ∧ ∀ u, H1 u = none → t σ (upd H1 u (fbHO u)) fun vs H2 => H2 u = some (fbHO u) ∧ rFb vs H2 Q
theorem pe_fb {X : Cx} {o e : Expr} {es : List Expr} {to : TE} {t : TA} {apos pos : Pos} {pl : Sem Bool} (ho : PE X o to) (ha : PA X (e :: es) t) (h1 : starEach (e :: es) X.env = (false, eval e X.env) :: starEach es X.env) (h2 : (backTo pos (starEach es X.env)).any (·.1) = false)
    (ht : eval (.Call (.Attribute o "from_bytes" apos) (e :: es) [] pos) X.env = (do
      let ov ← eval o X.env
      standAt apos.atName
      let (f, first) ← holding [ov] (getMethod ov "from_bytes" pl)
      callWith pos f first (backTo pos (starEach (e :: es) X.env)) (backToKw pos (keywordEach [] X.env)))) : PE X (.Call (.Attribute o "from_bytes" apos) (e :: es) [] pos) (tFb to t) := by
  constructor
  intro pins s σ H Q I h
  refine PySem.W.methodCall_KW (pl := pl) (thn (ho.run pins s σ H _ I h) ?_) ht
  rintro v s1 ⟨x, H1, I1, rx, rfl, q⟩
  obtain rfl : v = Value.type "int" := rx
  refine fb_get I1.kIn (find_fb _) ?_
  have at_ : (s1.heap.push PySem.W.KFB.bound).get? s1.heap.objs.size = some PySem.W.KFB.bound := Heap.get?_push_size _ rfl
  have J := I1.laid (t' := s1.toks + 1) (a := s1.heap.objs.size) (o := fbHO s1.heap.objs.size) (h' := s1.heap.push PySem.W.KFB.bound) (fun b u z => Heap.get?_push_of_some _ z) (Nat.le_refl _) ⟨at_, ⟨_, at_⟩, fun h1 h2 f k => k _ f⟩
  refine (?_ : wpAny _ _ (callWith pos (.ref s1.heap.objs.size) [] (backTo pos (starEach (e :: es) X.env)) []) _ _ _)
  refine callWith_fb (thn (ha.run pos pins _ σ _ _ J (q _ (I1.hok.fresh (Nat.le_refl _)))) ?_) h1 h2
  rintro us s2 ⟨vs, H2, I3, rv, hu, b, hl, rfl, k⟩
  obtain ⟨u1, u2, rfl, ⟨t1, rfl⟩, ⟨t2, rfl⟩⟩ := rv.two
  exact ⟨fb_at I3 hu, PySem.W.KFB.call_of (fb_at I3 hu) (fun z => fb_big hl z) ⟨.int _, H2, I3.tok _, ⟨_, rfl⟩, k⟩⟩
/-- int.from_bytes(b, 'big') -/
def mFb (ma : AM) : EM := fun ρ => (ma ρ).bind fun xs ρ1 => (opt (looks ρ1 xs) ρ1).bind fun ds _ => match ds with
  | [.byt b, .str o] => if o = "big" ∧ b.size ≤ 1000 then .ok (.dat (.int (PySem.W.KFB.value (PySem.W.KBw.bInts b)))) ρ1 else .bad
  | _ => .bad
theorem fbHO_ne (u : Addr) (ps : Array Value) : fbHO u ≠ .tbl ps := fun z => by unfold fbHO at z; cases z
theorem rd_fb {K : PySem.W.Frag} [Tb K] {W : WX} {ta : TA} {ma : AM} (h : RdA K W ta ma) : RdE K W (tFb (tC (.ty "int")) ta) (mFb ma) := by
  intro G F H σ ρ Q g q
  refine ⟨rfl, fun u hu => ?_⟩
  have w : Grw F H (upd F u (fbHO u)) (upd H u (fbHO u)) := Grw.lay g.ff hu (fun ps => fbHO_ne u ps)
  refine h G _ _ σ ρ _ (g.grow w) ((Fin.up q w.ff).bind.imp fun xs ρ1 F1 H1 e1 g1 h1 vs hv => ?_)
  refine ⟨g1.ff _ _ (e1 _ _ upd_same), ?_⟩
  obtain ⟨ds, ed, h1⟩ := fin_opt h1
  have rk := looks_ok g1 hv ed
  rcases ds with _ | ⟨d1, _ | ⟨d2, _ | ⟨d3, l⟩⟩⟩
  · exact h1.elim
  · cases d1 <;> exact h1.elim
  · obtain ⟨v1, v2, rfl, r1, r2⟩ := rokl2 rk
    cases d1 <;> cases d2 <;> try (exact h1.elim)
    case byt.str b o =>
      have h2 : Fin K G F1 W σ (if o = "big" ∧ b.size ≤ 1000 then (Rs.ok (Vl.dat (D.int (PySem.W.KFB.value (PySem.W.KBw.bInts b)))) ρ1 : Rs Vl) else .bad) _ := h1
      by_cases c : o = "big" ∧ b.size ≤ 1000
      · rw [if_pos c] at h2
        obtain ⟨rfl, c⟩ := c
        cases r1; cases r2
        exact ⟨b, c, rfl, h2 F1 H1 (Ext.refl _) g1 _ (.int _)⟩
      · rw [if_neg c] at h2; exact h2.elim
  · cases d1 <;> cases d2 <;> exact h1.elim
section
variable {ι : Type} {X : ι → Cx} {P : Program} {w : World} {K : PySem.W.Frag} [Tb K] {mg : Str → Option Value} {base : Heap} {k : Nat} {N : List Str} {ns : Nms} {fx : Str → Bool} {W : WX} {hot : Bool}
theorem jFb (c : Fam X P w K mg base k N ns fx W hot) {p apos pos : Pos} {e : Expr} {es : List Expr} {ma : AM} {pl : ι → Sem Bool} (hm : mg "int" = none) (ha : JA X K W (e :: es) ma) (hg : glB ns "int" = true := by kernel_rfl)
    (h1 : ∀ a, starEach (e :: es) (X a).env = (false, eval e (X a).env) :: starEach es (X a).env := by intro _; rfl) (h2 : ∀ a, (backTo pos (starEach es (X a).env)).any (·.1) = false := by intro _; rfl)
    (ht : ∀ a, eval (.Call (.Attribute (.Name "int" p) "from_bytes" apos) (e :: es) [] pos) (X a).env = (do
      let ov ← eval (.Name "int" p) (X a).env
      standAt apos.atName
      let (f, first) ← holding [ov] (getMethod ov "from_bytes" (pl a))
      callWith pos f first (backTo pos (starEach (e :: es) (X a).env)) (backToKw pos (keywordEach [] (X a).env))) := by intro _; rfl) :
    JE X K W (.Call (.Attribute (.Name "int" p) "from_bytes" apos) (e :: es) [] pos) (mFb ma) := by
  obtain ⟨t, k1, k2⟩ := ha
  exact ⟨_, fun a => pe_fb (pe_bltn (v := .ty "int") (c.gl hg a) (by rw [c.hmg a]; exact hm) (by kernel_rfl) rfl) (k1 a) (h1 a) (h2 a) (ht a), rd_fb k2⟩
/-! ### b[lo:hi:k] -/
def stepD (k : Int) (lo hi : Option Int) : D → Option D
  | .byt b => if b.size ≤ 1000 then some (.byt (PySem.W.KBs.picked b lo hi (some k))) else none
  | _ => none
def tSt (kk : Int) (te : TE) (tl th : TO) : TE := fun σ H Q => te σ H fun x H1 => tl σ H1 fun l H2 => th σ H2 fun u H3 => ∃ b : Array UInt8, x = .byt b ∧ b.size ≤ 1000 ∧ Q (.byt (PySem.W.KBs.picked b l u (some kk))) H3
theorem pe_step {X : Cx} {e : Expr} {lo hi : Option Expr} {kk : Int} {j : Nat} {p1 p2 pos : Pos} {te : TE} {tl th : TO} (hk : kk ≠ 0) (he : PE X e te) (hl : PO X lo tl) (hu : PO X hi th) : PE X (.Subscript e (.Slice lo hi (some (.Constant (.int kk) j p1)) p2) pos) (tSt kk te tl th) := by
  constructor
  intro pins s σ H Q I h
  refine Subscript_ (thn (he.run pins s σ H _ I h) ?_)
  rintro v s1 ⟨x, H1, I1, r1, q1⟩
  refine wpAny_Slice (thn (hl.run pins s1 σ H1 _ I1 q1) fun vl s2 ⟨l, H2, I2, pl, q2⟩ => thn (hu.run pins s2 σ H2 _ I2 q2) ?_)
  rintro vu s3 ⟨u, H3, I3, pu, b, rfl, hz, q3⟩
  have hst := (po_some (pe_int (X := X) (i := kk) (j := j) (pos := p1))).run pins s3 σ H3 (fun o H4 => o = some kk ∧ H4 = H3) I3 ⟨kk, rfl, rfl, rfl⟩
  refine thn hst ?_
  rintro vk s4 ⟨o, H4, I4, pk, rfl, rfl⟩
  cases pk with
  | int k uk =>
  obtain ⟨t, rfl⟩ := r1
  have I5 : Inv X pins σ H4 { s4 with heap := s4.heap.push { cls := .type "slice", data := .fields #[vl, vu, .int kk uk] } } := I4.kept (t' := s4.toks) fun b ob z => Heap.get?_push_of_some _ z
  have hz2 : (PySem.W.KBs.picked b l u (some kk)).size ≤ sizeLine := by
    rw [← PySem.W.KBw.ints_length, PySem.W.KBs.ints_picked rfl, sizeLine_eq]
    have := PySem.W.KBs.cut_length_le (PySem.W.KBw.bInts b) l u (some kk)
    rw [PySem.W.KBw.ints_length] at this
    omega
  have go := getItem_meets (A := X.A) (E := X.xe) (prog := X.prog) (w := X.w) (s := { s4 with heap := s4.heap.push { cls := .type "slice", data := .fields #[vl, vu, .int kk uk] } }) (PySem.W.typeIs_bytes _ b t) (by decide) PySem.W.FB.slot_bytes_getitem PySem.W.FB.entry_bytes_getitem (PySem.W.FB.args_bytes_getitem_2 _ _) (PySem.W.KBs.meets_step b t s4.heap.objs.size pl pu hk)
    (Q := EP X pins σ Q) ⟨Heap.IsSliceOf.new _ _ _ _, hz2, fun t' k' => ⟨.byt _, H4, I5.tok k', ⟨t', rfl⟩, q3⟩⟩
  exact tail_any (ops := [.ref s4.heap.objs.size, .bytes b t]) (PySem.W.typeIs_bytes _ _ _) PySem.W.FB.slot_bytes_getitem.lookup go (by with_unfolding_all rfl)
def mSt (kk : Int) (m : EM) (lo hi : PM) : EM := fun ρ => (m ρ).bind fun x ρ1 => (lo ρ1).bind fun l ρ2 => (hi ρ2).bind fun u ρ3 => (opt ((look ρ3 x).bind (stepD kk l u)) ρ3).bind fun z _ => .ok (.dat z) ρ3
theorem jSt (c : Fam X P w K mg base k N ns fx W hot) {e : Expr} {lo hi : Option Expr} {kk : Int} {j : Nat} {p1 p2 pos : Pos} {m : EM} {ml mh : PM} (h : JE X K W e m) (hl : JP X K W lo ml) (hh : JP X K W hi mh) (hk : kk ≠ 0 := by decide) :
    JE X K W (.Subscript e (.Slice lo hi (some (.Constant (.int kk) j p1)) p2) pos) (mSt kk m ml mh) := by
  obtain ⟨t, h1, h2⟩ := h
  obtain ⟨u, k1, k2⟩ := hl
  obtain ⟨v, l1, l2⟩ := hh
  refine ⟨_, fun a => pe_step hk (h1 a) (k1 a) (l1 a), fun G F H σ ρ Q g q => ?_⟩
  refine h2 G F H σ ρ _ g (q.bind.imp fun x ρ1 F1 H1 e1 g1 q1 v hv => ?_)
  refine k2 G F1 H1 σ ρ1 _ g1 (q1.bind.imp fun l ρ2 F2 H2 e2 g2 q2 => ?_)
  refine l2 G F2 H2 σ ρ2 _ g2 (q2.bind.imp fun u ρ3 F3 H3 e3 g3 q3 => ?_)
  obtain ⟨z, ez, q3⟩ := fin_opt q3
  obtain ⟨d, ed, ez⟩ := Option.bind_eq_some_iff.mp ez
  have r := look_ok g3 ((hv.up e2).up e3) ed
  cases d <;> try (cases ez; done)
  case byt b =>
    simp only [stepD] at ez
    by_cases cz : b.size ≤ 1000
    · rw [if_pos cz] at ez; cases ez
      cases r
      exact ⟨b, rfl, cz, q3 F3 H3 (Ext.refl _) g3 _ (.byt _)⟩
    · rw [if_neg cz] at ez; cases ez
end
end Pm

set_option Elab.async false
set_option linter.all false
set_option maxRecDepth 100000
set_option maxHeartbeats 2000000
/-! Pm10: count and index over data; a def called in an except suite; the law's word for an exception. -/
namespace Pm
open PySem PySem.Spec PyProof.Rows L2
/-! ### xs.count(x), xs.index(x) -/
def isLst : D → Bool
  | .lst _ => true
  | _ => false
def countD : D → List D → Option D
  | .lst ds, [d] => match pyL ds, d.py with
    | some ps, some p => if SeqAt.shaped (.list ps) && SeqAt.shaped p && PyData.plainAll ps && p.plain then some (.int ((ps.countP fun y => PyData.eqv y p : Nat) : Int)) else none
    | _, _ => none
  | _, _ => none
def firstAt (p : PyData) : List PyData → Option Nat
  | [] => none
  | q :: r => if PyData.eqv q p then some 0 else (firstAt p r).map (· + 1)
def indexD : D → List D → Option D
  | .lst ds, [d] => match pyL ds, d.py with
    | some ps, some p => if SeqAt.shaped (.list ps) && SeqAt.shaped p then (firstAt p ps).map fun j => .int (j : Nat) else none
    | _, _ => none
  | _, _ => none
theorem firstAt_ok {p : PyData} : ∀ {ps : List PyData} {j : Nat}, firstAt p ps = some j → ∃ z, ps[j]? = some z ∧ PyData.eqv z p = true ∧ ∀ (m : Nat) (z' : PyData), m < j → ps[m]? = some z' → PyData.eqv z' p = false
  | [], _, h => by cases h
  | q :: r, j, h => by
    unfold firstAt at h
    by_cases c : PyData.eqv q p = true
    · rw [if_pos c] at h; cases h
      exact ⟨q, rfl, c, fun m z' hm => absurd hm (Nat.not_lt_zero _)⟩
    · rw [if_neg c] at h
      obtain ⟨i, hi, rfl⟩ := Option.map_eq_some_iff.mp h
      obtain ⟨z, h1, h2, h3⟩ := firstAt_ok hi
      refine ⟨z, h1, h2, fun m z' hm hz => ?_⟩
      cases m with
      | zero => cases hz; exact Bool.eq_false_iff.mpr c
      | succ m => exact h3 m z' (by omega) hz
def rCountD (K : PySem.W.Frag) : V → List V → Hp → VK → Prop := fun x xs H Q => ∃ (a : Addr) (vs : List V) (y : V) (p : PyData) (ps : List PyData), x = V.ref a ∧ xs = [y] ∧ SqL K H a vs ∧ DpAll K H vs ps ∧ Dp K H y p ∧
  SeqAt.shaped p = true ∧ PyData.plainAll ps = true ∧ p.plain = true ∧ Q (.int ((ps.countP fun y => PyData.eqv y p : Nat) : Int)) H
theorem mt_countD {X : Cx} (hu : X.A.units + 65 < cLine) : MtR X "list.count" (rCountD X.K) := by
  intro pins s σ H x xs v us Q I rx rxs h
  obtain ⟨a, vs, y, p, ps, rfl, rfl, hs, ha, hy, sp, h1, h2, q⟩ := h
  cases rx
  obtain ⟨uy, rfl, ry⟩ := vals1 rxs
  obtain ⟨bs, r1⟩ := Dp.reads I p y uy hy ry
  obtain ⟨its, rv, pl, hlen⟩ := I.list hs
  obtain ⟨as, r2⟩ := Dp.readsAll I ps _ its ha rv
  exact SeqAt.count_list_data pl.isList (vs := its.toArray) r2 r1 h1 h2 (room_in_shaped sp hu) ⟨.int _, H, I.tok _, ⟨_, rfl⟩, q⟩
theorem md_count (K : PySem.W.Frag) : MetD K "list" isLst (rCountD K) countD := by
  refine ⟨fun F H d x e r c => ?_, fun F H d ds x vs z Q eF r rs hz q => ?_⟩
  · cases d <;> cases c
    obtain ⟨p, xs, rfl, h1, h2, h3⟩ := r
    exact .inl ⟨rfl, _, .inl (.inl h1)⟩
  · cases d <;> try (cases hz; done)
    case lst es =>
      rcases ds with _ | ⟨d, _ | ⟨d2, l⟩⟩
      · cases hz
      · obtain ⟨p, xs, rfl, h1, h2, h3⟩ := r
        obtain ⟨v, rfl, hv⟩ := rokl1 rs
        simp only [countD] at hz
        cases e1 : pyL es with
        | none => rw [e1] at hz; cases hz
        | some ps =>
          cases e2 : d.py with
          | none => rw [e1, e2] at hz; cases hz
          | some pd =>
            rw [e1, e2] at hz
            by_cases c : (SeqAt.shaped (.list ps) && SeqAt.shaped pd && PyData.plainAll ps && pd.plain) = true
            · simp only [c, if_true] at hz
              cases hz
              simp only [Bool.and_eq_true] at c
              exact ⟨p, xs, v, pd, ps, rfl, rfl, .inl (.inl h1), dpL_of eF es _ ps h3 e1, dp_rok eF hv e2, c.1.1.2, c.1.2, c.2, q _ F H (Grw.refl eF) (.int _)⟩
            · simp only [c] at hz; cases hz
      · cases hz
theorem md_index (K : PySem.W.Frag) : MetD K "list" isLst (rIndexD K) indexD := by
  refine ⟨fun F H d x e r c => ?_, fun F H d ds x vs z Q eF r rs hz q => ?_⟩
  · cases d <;> cases c
    obtain ⟨p, xs, rfl, h1, h2, h3⟩ := r
    exact .inl ⟨rfl, _, .inl (.inl h1)⟩
  · cases d <;> try (cases hz; done)
    case lst es =>
      rcases ds with _ | ⟨d, _ | ⟨d2, l⟩⟩
      · cases hz
      · obtain ⟨p, xs, rfl, h1, h2, h3⟩ := r
        obtain ⟨v, rfl, hv⟩ := rokl1 rs
        simp only [indexD] at hz
        cases e1 : pyL es with
        | none => rw [e1] at hz; cases hz
        | some ps =>
          cases e2 : d.py with
          | none => rw [e1, e2] at hz; cases hz
          | some pd =>
            rw [e1, e2] at hz
            by_cases c : (SeqAt.shaped (.list ps) && SeqAt.shaped pd) = true
            · simp only [c, if_true] at hz
              obtain ⟨j, hj, rfl⟩ := Option.map_eq_some_iff.mp hz
              obtain ⟨z, k1, k2, k3⟩ := firstAt_ok hj
              simp only [Bool.and_eq_true] at c
              exact ⟨p, v, pd, ps, j, z, rfl, rfl, .lst (.inl (.inl h1)) (dpL_of eF es _ ps h3 e1), dp_rok eF hv e2, c.1, c.2, k1, k2, k3, q _ F H (Grw.refl eF) (.int _)⟩
            · simp only [c] at hz; cases hz
      · cases hz
section
variable {ι : Type} {X : ι → Cx} {P : Program} {w : World} {K : PySem.W.Frag} [Tb K] {mg : Str → Option Value} {base : Heap} {k : Nat} {N : List Str} {ns : Nms} {fx : Str → Bool} {W : WX} {hot : Bool}
theorem Fam.un65 (c : Fam X P w K mg base k N ns fx W hot) (a : ι) : (X a).A.units + 65 < cLine := by have := c.units a; omega
theorem bmCount (c : Fam X P w K mg base k N ns fx W hot) : MetJ X K "count" isLst countD := ⟨"list", "list.count", rCountD K, F.plainAttrs_list, F.slot_list_count, F.type_list_count, fun a => by have h := mt_countD (X := X a) (c.un65 a); rw [c.hK a] at h; exact h, md_count K⟩
theorem bmIndex (c : Fam X P w K mg base k N ns fx W hot) : MetJ X K "index" isLst indexD := ⟨"list", "list.index", rIndexD K, F.plainAttrs_list, F.slot_list_index, F.type_list_index, fun a => by have h := mt_indexD (X := X a) (c.un65 a); rw [c.hK a] at h; exact h, md_index K⟩
/-- never reached -/
def mBad : EM := fun _ => .bad
theorem jBad {e : Expr} : JE X K W e mBad := ⟨fun _ _ _ => False, fun a => ⟨fun _ _ _ _ _ _ h => h.elim⟩, fun G F H σ ρ Q g h => h⟩
end
/-! ### isinstance of the exception that is handled -/
theorem call_exc {X : Cx} {a C : Addr} {oe : Obj} (E : ExcC X.K C) (hz : Zc (.ref C) none oe) (hf : ∃ vs, oe.data = .fields vs) (hp : (a, oe) ∈ X.pn) : CallR X (.builtin "isinstance") (rIsE X.K C a) := by
  intro pins s σ H xs us Q I r h
  obtain ⟨c, cv, b, rfl, hcv, e, q⟩ := h
  match r with
  | .cons rx (.cons rt .nil) =>
    cases rx
    obtain rfl := hcv _ rt
    obtain ⟨vs, hv⟩ := hf
    have J : PySem.W.InstAt s.heap a oe C none := by
      obtain ⟨_, _, _, _⟩ := oe
      obtain ⟨rfl, rfl⟩ := hz
      cases hv
      exact ⟨(I.pin (a, _) (List.mem_append_left _ hp)).1, rfl, rfl, trivial⟩
    exact PySem.W.kia_one (PySem.W.handS_kitx_exc E.hg E.hk E.hs E.hd E.ha E.hn E.ht E.hm) I.kIn J e nofun fun tk => ⟨.bl b, H, I.kept (t' := tk) fun _ _ z => z, rfl, q⟩
/-- what isinstance says of an exception of the class n that is at a: for own classes, for ValueError -/
def isED (a : Addr) (n : Str) : List D → Option D
  | [.ref b, .cls m] => if b = a then some (.bl (n == m)) else none
  | [.ref b, .ty t] => if b = a ∧ t = "ValueError" then some (.bl true) else none
  | _ => none
/-- the facts of K: which classes there are -/
structure ExcT (K : PySem.W.Frag) (cs : List Str) (n : Str) : Prop where
  c : ExcC K (He.ga K n)
  own : ∀ m ∈ cs, PySem.W.kitOne K (.ref (He.ga K n)) (.ref (He.ga K m)) = some (n == m)
  val : PySem.W.kitOne K (.ref (He.ga K n)) (.type "ValueError") = some true
def isEDc (cs : List Str) (a : Addr) (n : Str) (ds : List D) : Option D := match ds with
  | [.ref b, .cls m] => if (cs.contains m) = true ∧ b = a then some (.bl (n == m)) else none
  | [.ref b, .ty t] => if b = a ∧ t = "ValueError" then some (.bl true) else none
  | _ => none
theorem cd_exc {K : PySem.W.Frag} {cs : List Str} {n : Str} {a : Addr} (T : ExcT K cs n) : CalD K (rIsE K (He.ga K n) a) (isEDc cs a n) := by
  intro F H ds vs z Q eF hr hz q
  rcases ds with _ | ⟨d, _ | ⟨d2, _ | ⟨d3, r⟩⟩⟩
  · cases hz
  · cases d <;> cases hz
  · obtain ⟨v, u, rfl, h1, h2⟩ := rokl2 hr
    cases d <;> try (cases hz; done)
    case ref b =>
      cases d2 <;> try (cases hz; done)
      case cls m =>
        simp only [isEDc] at hz
        by_cases c : (cs.contains m) = true ∧ b = a
        · rw [if_pos c] at hz; cases hz
          obtain ⟨c, rfl⟩ := c
          have c := List.contains_iff_mem.mp c
          cases h1; cases h2
          exact ⟨_, .ref (He.ga K m), n == m, rfl, fun u hu => hu, T.own m c, q _ F H (Grw.refl eF) (.bl _)⟩
        · rw [if_neg c] at hz; cases hz
      case ty t =>
        simp only [isEDc] at hz
        by_cases c : b = a ∧ t = "ValueError"
        · rw [if_pos c] at hz; cases hz
          obtain ⟨rfl, rfl⟩ := c
          cases h1; cases h2
          exact ⟨_, .type "ValueError", true, rfl, fun u hu => hu, T.val, q _ F H (Grw.refl eF) (.bl _)⟩
        · rw [if_neg c] at hz; cases hz
  · cases d <;> cases d2 <;> cases hz
theorem ev_isE {cs : List Str} {a : Addr} {n m : Str} {r : DEnv} (hm : cs.contains m = true) : mCal (isEDc cs a n) (mCons (mVar 0) (mCons (mC (.cls m)) mNil)) (.dat (.ref a) :: r) = .ok (.dat (.bl (n == m))) (.dat (.ref a) :: r) := by
  have e : isEDc cs a n [.ref a, .cls m] = some (.bl (n == m)) := if_pos ⟨hm, rfl⟩
  show (opt (isEDc cs a n [.ref a, .cls m]) _).bind _ = _
  rw [e]; rfl
theorem ev_isV {cs : List Str} {a : Addr} {n : Str} {r : DEnv} : mCal (isEDc cs a n) (mCons (mVar 0) (mCons (mC (.ty "ValueError")) mNil)) (.dat (.ref a) :: r) = .ok (.dat (.bl true)) (.dat (.ref a) :: r) := by
  have e : isEDc cs a n [.ref a, .ty "ValueError"] = some (.bl true) := if_pos ⟨rfl, rfl⟩
  show (opt (isEDc cs a n [.ref a, .ty "ValueError"]) _).bind _ = _
  rw [e]; rfl
/-! ### a def called in the suite -/
/-- a family of contexts in which the exception at a is handled -/
theorem bExc {ι : Type} {X : ι → Cx} {P : Program} {w : World} {K : PySem.W.Frag} [Tb K] {mg : Str → Option Value} {base : Heap} {k : Nat} {N : List Str} {ns : Nms} {fx : Str → Bool} {W : WX} {hot : Bool} (c : Fam X P w K mg base k N ns fx W hot) {cs : List Str} {n : Str} {a : Addr} {oe : Obj}
    (T : ExcT K cs n) (hz : Zc (.ref (He.ga K n)) none oe) (hf : ∃ vs, oe.data = .fields vs) (hp : ∀ i, (a, oe) ∈ (X i).pn) : BltJ X K (.builtin "isinstance") (isEDc cs a n) :=
  ⟨_, fun i => by have h := call_exc (X := X i) (a := a) (C := He.ga K n) (by rw [c.hK i]; exact T.c) hz hf (hp i); rw [c.hK i] at h; exact h, cd_exc T⟩
section
variable {P : Program} {w : World} {K : PySem.W.Frag} [Tb K] {mg : Str → Option Value} {base : Heap} {x qual : Str} {params : Arguments} {body : List Stmt} {scope : Scope} {dvs : List V} {kws : List (Str × V)} {f : Addr} {fd : FuncData}
open L2H in
theorem run_hot {CX : CXT} {N ps : List Str} {A : Around} {l : List PySem.Env} {s : Shared} {H : Hp} {args : Args} {us : List Value} {vs : List V} {Q : VK} {E : XK} {p : Addr × Obj} (F : FunD K x qual params body scope dvs kws f fd) (S : FnScope N ps scope) (hd : A.depth < recursionLimit) (hpin : PinOk l H s p) (e0 : Env0 P w K mg base A l s H)
    (hb : BindsTo s fd args (ps.zip us)) (r : Vals vs us) (hl : vs.length = ps.length)
    (h : ∀ cdv, ∃ t, PSs (cxH CX P w K mg base N qual scope f cdv A l s H E p) body t ∧ t { nx := fun _ H' => Q .non H', rt := Q } (L2.start N vs) H) : codeAny (model P w) A (.call (.ref f) args) (CR CX l P w H s Q E) s := by
  obtain ⟨oc, od, dV, kV, doc, pm, an, cdv, ct, osl, rfl, lk, hcd, _, _⟩ := F.ex
  have KX : K.In s.heap := e0.mod.kin.keeps fun b o z => (e0.bs b o z).1
  have lim : s.heap.NoLimit := e0.mod.nolimit.keeps fun b o z => (e0.bs b o z).1
  have kinds : ∀ y ∈ ps.zip us, (scope.names.lookup y.1 = some .local) ∨ (scope.names.lookup y.1 = some .cell ∧ ((cellsFrom (s.heap.objs.size + 1) scope.names []).lookup y.1).isSome = true) := by
    rintro ⟨n, v⟩ hy
    exact (S.par n (List.of_mem_zip hy).1).imp (fun q => q) fun q => ⟨q, PySem.W.cellsFrom_some _ _ _ (.inl q)⟩
  refine codeAny_call_function hd (KX _ _ lk) rfl S.co S.gen rfl (PySem.W.codeRec_of KX hcd) (hb _ _ _ _ ?_)
  refine wpAny_newFunctionEnv_cells S.kind kinds ?_
  intro env he s1 z
  · subst he
    refine ⟨lim.keeps z.toInCall.keep, codeAny_func ?_⟩
    obtain ⟨t, ht, hq⟩ := h cdv
    refine wpAny_mono (ht.run [] s1 (L2.start N vs) H _ (inv_startH S hpin e0 hl r z) hq) (fun fl s' hs => ?_) fun _ _ hs => hs
    cases fl <;> try (obtain ⟨_, _, _, q⟩ := hs; exact q.elim)
    case next =>
      obtain ⟨y, Z, J, q⟩ := hs
      exact ⟨V.non, Z, J.os, J.bare, J.base, J.hok, rfl, q⟩
    case ret u =>
      obtain ⟨y, z, Z, J, rv, q⟩ := hs
      exact ⟨y, Z, J.os, J.bare, J.base, J.hok, rv, q⟩
/-- the contexts of such a def's body -/
theorem fam_hot {N ps : List Str} (S : FnScope N ps scope) {cdv : Value} {A : Around} {l : List PySem.Env} {s : Shared} {H : Hp} {E : XK} {p : Addr × Obj} (hu : A.units + 100 < cLine) (hd : A.depth + 1 < recursionLimit) (hg : A.guards = some []) :
    Fam (fun _ : Unit => L2H.cxH (L2.CX P w) P w K mg base N qual scope f cdv A l s H E p) P w K mg base 0 N scope.names (fun _ => true) (fun c d _ H' => E c d H') true where
  prog := fun _ => rfl
  wd := fun _ => rfl
  hK := fun _ => rfl
  hmg := fun _ => rfl
  hbase := fun _ => rfl
  hN := fun _ => rfl
  nd := S.nd
  sc := fun _ => rfl
  kind := fun _ => S.kind
  calm := nofun
  room := nofun
  units := fun _ => by show A.units + 3 + 80 < cLine; omega
  dep := fun _ => hd
  tk := fun _ => takes_of rfl rfl rfl rfl
  gd := fun _ => hg
  po := fun _ => passes_of rfl
  hfx := fun _ _ _ => rfl
end
end Pm

set_option Elab.async false
set_option linter.all false
set_option maxRecDepth 100000
set_option maxHeartbeats 2000000
/-! Pm11: said(lambda: e): the lambda made, handed over, called in a try; what the suite says of an exception. -/
namespace Pm
open PySem PySem.Spec PyProof.Rows L2
/-! ### a def called in the suite -/
section
variable {ι : Type} {X : ι → Cx} {P : Program} {w : World} {K : PySem.W.Frag} [Tb K] {mg : Str → Option Value} {base : Heap} {k : Nat} {N : List Str} {ns : Nms} {fx : Str → Bool} {W : WX} {hot : Bool}
theorem callHot (c : Fam X P w K mg base k N ns fx W hot) {x qual : Str} {params : Arguments} {body : List Stmt} {scope : Scope} {f : Addr} {fd : FuncData} {M ps : List Str} {m : SM} {a : Addr} {oe : ι → Obj} (F : FunD K x qual params body scope [] [] f fd) (S : FnScope M ps scope) (hm : mg x = some (.ref f)) (hb : Binds K fd ps [])
    (hp : ∀ i, (a, oe i) ∈ (X i).pn) (hun : ∀ i, (X i).A.units + 100 < cLine) (hdp : ∀ i, (X i).A.depth + 1 < recursionLimit)
    (hbd : ∀ (i : ι) (cdv : Value) (A : Around) (l : List PySem.Env) (s : Shared) (H : Hp) (E : XK), A.units + 100 < cLine → A.depth + 1 < recursionLimit → A.guards = some [] → ∃ t, PSs (L2H.cxH (L2.CX P w) P w K mg base M qual scope f cdv A l s H E (a, oe i)) body t ∧ RdS K (fun c d _ H' => E c d H') t m)
    {e : Expr} {es : List Expr} {t : TA} {p pos : Pos} (hg : glB ns x = true) (hd : (x == ("__debug__" : Str)) = false) (h1 : ∀ i, PA (X i) (e :: es) t)
    (hs : ∀ a, starEach (e :: es) (X a).env = (false, eval e (X a).env) :: starEach es (X a).env) (hpl : ∀ a, (backTo pos (starEach es (X a).env)).any (·.1) = false) (i : ι) :
    PE (X i) (.Call (.Name x p) (e :: es) [] pos) (tCallS (SpF K ps.length (runF m M.length)) (WE W) t) := by
  refine ⟨fun pins s σ H Q I h => ?_⟩
  refine wpAny_Call_Name_kw (ld_glob I (c.gl hg i) (by rw [c.hmg i]; exact hm) ?_ hd)
  refine PySem.W.callWith_K (h₀ := (X i).base) I.ok.mod.kin (by rw [c.hK i]; exact F.kp) (thn ((h1 i).run pos pins s σ H _ I h) fun us s1 ⟨vs, H1, I1, r, q⟩ => ⟨I1.kIn, ?_⟩) (hs i) (hpl i)
  obtain ⟨p1, p2, p3, p4, p5⟩ := I1.pin (a, oe i) (List.mem_append_left _ (hp i))
  have hl : vs.length = ps.length := by
    obtain ⟨F0, ds, _, _, rl, hl, _⟩ := q
    rw [← rl.length, hl]
  have e0 := I1.env0
  have kin := I1.kIn
  rw [c.prog i, c.wd i, c.hK i, c.hmg i, c.hbase i] at e0
  rw [c.hK i] at kin
  have b := hb s1 us kin (by rw [List.append_nil, ← r.length]; exact hl)
  rw [List.append_nil] at b
  have rc : codeAny (model P w) (X i).A (.call (.ref f) ⟨us, []⟩) (CR (L2.CX P w) (X i).stack P w H1 s1 Q (WE W σ)) s1 :=
    run_hot F S (Nat.lt_of_succ_lt (hdp i)) ⟨p1, p2, fun z => (List.mem_cons.mp (I1.stkSub a z)).elim p3 p4, p5⟩ e0 b r hl fun cdv => by
      obtain ⟨t, ht, rd⟩ := hbd i cdv (X i).A (X i).stack s1 H1 (WE W σ) (hun i) (hdp i) (c.gd i)
      exact ⟨t, ht, spf_to rd q⟩
  rw [← c.prog i, ← c.wd i] at rc
  refine wpAny_call (codeAny_mono rc fun z s' hq => ?_)
  match z, hq with
  | .error e, hq => exact passAt (c.tk i) σ pins H1 s1 e s' I1 hq
  | .ok (.ret u), hq => exact I1.after hq
theorem jHot (c : Fam X P w K mg base k N ns fx W hot) {x qual : Str} {params : Arguments} {body : List Stmt} {scope : Scope} {f : Addr} {fd : FuncData} {M ps : List Str} {m : SM} {a : Addr} {oe : ι → Obj} (F : FunD K x qual params body scope [] [] f fd) (S : FnScope M ps scope) (hm : mg x = some (.ref f)) (hb : Binds K fd ps [])
    (hp : ∀ i, (a, oe i) ∈ (X i).pn) (hun : ∀ i, (X i).A.units + 100 < cLine) (hdp : ∀ i, (X i).A.depth + 1 < recursionLimit)
    (hbd : ∀ (i : ι) {κ : Type} {Y : κ → Cx} {W' : WX}, Fam Y P w K mg base 0 M scope.names (fun _ => true) W' true → (∀ j, (a, oe i) ∈ (Y j).pn) → JB Y K W' body m)
    {e : Expr} {es : List Expr} {ma : AM} {p pos : Pos} (ha : JA X K W (e :: es) ma) (hg : glB ns x = true := by kernel_rfl) (hd : (x == ("__debug__" : Str)) = false := by kernel_rfl)
    (hs : ∀ a, starEach (e :: es) (X a).env = (false, eval e (X a).env) :: starEach es (X a).env := by intro _; rfl) (hpl : ∀ a, (backTo pos (starEach es (X a).env)).any (·.1) = false := by intro _; rfl) :
    JE X K W (.Call (.Name x p) (e :: es) [] pos) (mCallF ps.length (runF m M.length) ma) := by
  obtain ⟨t, h1, h2⟩ := ha
  refine ⟨_, callHot c F S hm hb hp hun hdp (fun i cdv A l s H E u1 u2 u3 => ?_) hg hd h1 hs hpl, rd_callF h2⟩
  obtain ⟨t, k1, k2⟩ := hbd i (fam_hot (P := P) (w := w) (K := K) (mg := mg) (base := base) (l := l) (E := E) (H := H) (s := s) (f := f) (qual := qual) (cdv := cdv) (p := (a, oe i)) S u1 u2 u3) (fun _ => List.mem_cons_self)
  exact ⟨t, k1 (), k2⟩
end
/-! ### the lambda is called by the def that got it -/
open LamX in
theorem act {X : Cx} {pins : List (Addr × Obj)} {σ : L2.St} {H : Hp} {s : Shared} {CXg : CXT} {Eg : XK} {Ng : List Str} {qg : Str} {sg : Scope} {g f c' : Addr} {cdg pm ctv : Value} {params : Arguments} {body : Expr} {scope : Scope} {k i : Nat} {a : Str} {pn : List (Addr × Obj)} {xe : Value → Shared → Prop} {W : WX} {tb : XK → TE} {p1 p2 : Pos}
    (I : Inv X pins σ H s) (L : LamS X.env.scope scope) (hf : s.heap.get? f = some (PySem.W.kla_obj "<lambda>" (X.env.qual ++ "<lambda>") params body scope (cloFrom X.env.cells scope.names []) pm c' ctv)) (hn : H f = none) (hs : f ∉ frs X.stack)
    (hb : ∀ (q : Str) (cl : List (Str × Addr)) (pm cv ctv : Value), bindArgs (PySem.W.kla_fn "<lambda>" q params body scope cl pm cv ctv) ⟨[], []⟩ = pure [])
    (tk : Takes ((cxOf CXg X.prog X.w X.K X.mg X.base Ng qg sg g cdg X.A X.stack s H Eg).tr pn xe) W) (hr : Room (k + 1) (X.A.deeper (envOfC qg sg s.heap.objs.size g cdg))) (hg : X.A.guards = some [])
    (hbd : ∀ (A : Around) (l : List PySem.Env) (s : Shared) (H : Hp) (E : XK), Room k (A.deeper (lamEnv X scope s.heap.objs.size f c')) → A.guards = some [] → PE (lamCx X A l s H E scope f c') body (tb E))
    (hN : Ng[i]? = some a) (hv : Vis sg a) (hd : (a == ("__debug__" : Str)) = false) (hcd : (a == ("__classdict__" : Str)) = false) :
    PE ((cxOf CXg X.prog X.w X.K X.mg X.base Ng qg sg g cdg X.A X.stack s H Eg).tr pn xe) (.Call (.Name a p1) [] [] p2)
      (fun σZ HZ Q => σZ[i]? = some (some (.ref f)) ∧ HZ c' = some (CodeO c' (X.env.qual ++ "<lambda>")) ∧ tb (fun cls d H' => W cls d σZ H') σ HZ Q) := by
  constructor
  rintro pinsZ sZ σZ HZ Q IZ ⟨h1, h2, h3⟩
  refine wpAny_Call_Name_kw (thn ((pe_var (pos := p1) (i := i) hN hv hd hcd).run pinsZ sZ σZ HZ (fun v H1 => v = .ref f ∧ HZ = H1) IZ ⟨.ref f, h1, rfl, rfl⟩) ?_)
  rintro u s1 ⟨v, H1, J, r1, rfl, rfl⟩
  obtain rfl : u = Value.ref f := r1
  have of1 := J.base.keep f _ hf hn hs (fun z => nomatch (show f ∈ ([] : List Addr) from z))
  have un : Un (frs X.stack) [] H HZ s.heap s1.heap := J.base
  obtain ⟨⟨oc, vs, t, hoc, hdc, hvc⟩, _, _⟩ := J.hok c' _ h2
  have rc : codeAny (model X.prog X.w) (X.A.deeper (envOfC qg sg s.heap.objs.size g cdg)) (.call (.ref f) ⟨[], []⟩) (CR (L2.CX X.prog X.w) (envOfC qg sg s.heap.objs.size g cdg :: X.stack) X.prog X.w HZ s1 Q (fun cls d H' => W cls d σZ H')) s1 := by
    refine PySem.W.kla_callFunE hr.depth of1 rfl L.co L.gen rfl ⟨c', oc, vs, t, rfl, hoc, hdc, hvc⟩ ?_
    rw [hb]
    refine wpAny_pure (wpAny_newFunctionEnv (fun y hy => (L.own y hy).2) (fun y hy => absurd hy (by simp)) (fun h₁ m1 m2 => ⟨J.nolimit.fresh _ m2, (?_ : codeAny _ _ (.expr body (lamEnv X scope s1.heap.objs.size f c')) _ _)⟩) L.kind)
    have kp : ∀ b o, s1.heap.get? b = some o → h₁.get? b = some o := fun b o z => m2.extBut b o (Nat.ne_of_lt (Heap.lt_size z)) (Heap.get?_push_of_some _ z)
    have J2 : Inv (lamCx X (X.A.deeper (envOfC qg sg s.heap.objs.size g cdg)) (envOfC qg sg s.heap.objs.size g cdg :: X.stack) s1 HZ (fun cls d H' => W cls d σZ H') scope f c') [] σ HZ { s1 with heap := h₁, toks := s1.toks + ([] : List (Str × Value)).length } := lam_start2 I L J.env0 hr.hd un m1 kp
    refine PySem.W.kla_codeExpr (wpAny_mono ((hbd _ _ s1 HZ _ (hr.deeper _) hg).run [] _ _ HZ Q J2 h3) ?_ fun _ _ z => z)
    rintro v s' ⟨y, H', J3, rv, q⟩
    exact ⟨y, H', J3.os, J3.bare, J3.base, J3.hok, rv, q⟩
  refine PySem.W.callWith_F0 ⟨_, _, _, _, of1⟩ (wpAny_call (codeAny_mono rc fun r s' hq => ?_))
  match r, hq with
  | .error e, hq => exact passAt tk σZ pinsZ HZ s1 e s' J hq
  | .ok (.ret u), hq => exact J.after hq
/-! ### the whole -/
/-- the reading: the lambda's tables; the body; its value in the pair, or what the suite makes of the exception -/
def tSaid (K : PySem.W.Frag) (T : List (Addr × Str)) (tb : XK → TE) (ts : Addr → Value → Option Addr → TS) (Ng : List Str) (j : Nat) (RE : Addr) : TE := fun σ H Q => LamX.Tabs T H ∧ ∀ (f : Addr) (H1 : Hp), LamX.ExtN H H1 → LamX.Tabs T H1 →
  tb (fun cls d H' => wAs K (.ref RE) j ts (fun _ _ _ _ => False) { nx := fun _ H' => Q .non H', rt := Q } cls d (L2.start Ng [.ref f]) H') σ H1 fun v H2 => [V.str "returned", v].length ≤ sizeLine ∧ ∀ p, H2 p = none → Q (.ref p) (upd H2 p (.tup [.str "returned", v]))
open LamX in
theorem said_pe {X : Cx} {T : List (Addr × Str)} {x a e er qg : Str} {g c P0 RE : Addr} {k j : Nat} {pg : Arguments} {b0 : Stmt} {suite : List Stmt} {sg : Scope} {fd : FuncData} {Ng : List Str} {params : Arguments} {body : Expr} {scope : Scope} {tb : XK → TE} {ts : Addr → Value → Option Addr → TS}
    {p lpos pos p2 p3 p4 p5 p6 p7 p8 p9 : Pos} {k1 k2 : Nat} (hg : Gl X x) (hm : X.mg x = some (.ref g)) (F : FunD X.K x qg pg [.Try [.Return (some (.Tuple [.Constant (.str "returned") k1 p2, .Call (.Name a p3) [] [] p4] k2 p5)) p6] [.ExceptHandler (some (.Name er p7)) (some e) (b0 :: suite) p8] [] [] p9] sg [] [] g fd)
    (hb : L2.Binds X.K fd [a] []) (Sg : FnScope Ng [a] sg) (hNg : Ng[0]? = some a) (hva : Vis sg a) (hNj : Ng[j]? = some e) (hle : sg.names.lookup e = some .local) (hge : sg.names.lookup er = some .globalImplicit) (hde : (er == ("__debug__" : Str)) = false) (hme : X.mg er = some (.ref RE))
    (hsu : ∀ (cd : Value) (s : Shared) (H : Hp) (b : Addr) (oe : Obj) (cls : Value) (d : Option Addr) (pn : List (Addr × Obj)), Room (k + 1) (X.A.deeper (envOfC qg sg s.heap.objs.size g cd)) → Zc cls d oe → (∃ vs, oe.data = .fields vs) →
      PSs ((cxOf (L2.CX X.prog X.w) X.prog X.w X.K X.mg X.base Ng qg sg g cd X.A X.stack s H (fun _ _ _ => False)).suite b ((b, oe) :: pn)) (b0 :: suite) (ts b cls d))
    (TB : TabB X.base X.mg c P0) (hcode : X.env.code = .ref c) (hmT : (P0, X.env.qual ++ "<lambda>") ∈ T) (hu : ∀ p ∈ T, p.1 = P0 → p.2 = X.env.qual ++ "<lambda>") (hr : Room (k + 2) X.A) (hgd : X.A.guards = some []) (L : LamS X.env.scope scope) (hdef : defaultsOf params X.env = ([], []))
    (hbind : ∀ (q : Str) (cl : List (Str × Addr)) (pm cv ctv : Value), bindArgs (PySem.W.kla_fn "<lambda>" q params body scope cl pm cv ctv) ⟨[], []⟩ = pure [])
    (hbd : ∀ (f c' : Addr) (A : Around) (l : List PySem.Env) (s : Shared) (H : Hp) (E : XK), Room k (A.deeper (lamEnv X scope s.heap.objs.size f c')) → A.guards = some [] → PE (lamCx X A l s H E scope f c') body (tb E))
    (hdb : (x == ("__debug__" : Str)) = false) (hd : (a == ("__debug__" : Str)) = false) (hcd : (a == ("__classdict__" : Str)) = false) :
    PE X (.Call (.Name x p) [.Lambda params body scope lpos] [] pos) (tSaid X.K T tb ts Ng j RE) := by
  constructor
  rintro pins s σ H Q I ⟨hT, h⟩
  refine wpAny_Call_Name_kw (ld_glob I hg hm (PySem.W.callWith_K (h₀ := X.base) I.ok.mod.kin F.kp (?_ : wpAny _ _ (spliced ((false, eval (.Lambda params body scope lpos) X.env) :: backTo pos (starEach [] X.env))) _ _ s) (by rfl) (by rfl)) hdb)
  refine Calls.spliced_cons (lam_make2 I TB hcode hmT hu hT hdef (L.has I.ok) fun f c' pm' ctv H1 s' J eN T1 hf hfn hfr hco => Calls.spliced_nil ⟨J.kIn, ?_⟩)
  obtain ⟨oc, od, dV, kV, doc, pm, an, cdv, ct, osl, rfl, lk, hcg, _, _⟩ := F.ex
  have rc : codeAny (model X.prog X.w) X.A (.call (.ref g) ⟨[.ref f], []⟩) (CR (L2.CX X.prog X.w) X.stack X.prog X.w H1 s' Q (fun _ _ _ => False)) s' := by
    refine run_ofS (N := Ng) (ps := [a]) (us := [.ref f]) (vs := [.ref f]) lk hcg Sg hr J.env0 (hb s' [.ref f] J.kIn rfl) (.cons rfl .nil) rfl fun hr' => ?_
    have hgl : Gl (cxOf (L2.CX X.prog X.w) X.prog X.w X.K X.mg X.base Ng qg sg g cdv X.A X.stack s' H1 (fun _ _ _ => False)) er := hge
    refine ⟨_, pss_one (ps_try_as (X := cxOf (L2.CX X.prog X.w) X.prog X.w X.K X.mg X.base Ng qg sg g cdv X.A X.stack s' H1 (fun _ _ _ => False)) (c := .ref RE) (i := j) (tb := fun W => tRet (tTup (tCons (tC (.str "returned")) (tCons (fun σZ HZ Q => σZ[0]? = some (some (.ref f)) ∧ HZ c' = some (CodeO c' (X.env.qual ++ "<lambda>")) ∧ tb (fun cls d H' => W cls d σZ H') σ HZ Q) tNil))))
      rfl rfl Sg.nd hNj hle ⟨hgl, hde, .inl hme⟩ L2.takes0 (fun W pn xe tk _ => pss_one (ps_ret (pe_tup (pa_cons pe_str (pa_cons (act J L hf hfn hfr hbind tk hr' hgd (fun A l s H E => hbd f c' A l s H E) hNg hva hd hcd) pa_nil))))) (fun b oe cls d pn hz hv => hsu cdv s' H1 b oe cls d pn hr' hz hv)), ?_⟩
    exact ⟨rfl, hco, (h f H1 eN T1 : _)⟩
  refine wpAny_call (codeAny_mono rc fun r s2 hq => ?_)
  match r, hq with
  | .error e, hq =>
    obtain ⟨_, _, _, _, _, _, _, _, _, _, _, _, z⟩ := hq
    exact z.elim
  | .ok (.ret u), hq => exact J.after hq
/-! ### upon data -/
/-- wd: what is said of an exception of a class -/
def mSaid (wd : Str → Option D) (mb : EM) : EM := fun ρ => match mb ρ with
  | .ok x ρ1 => (opt (frz ρ1 x) ρ1).bind fun p _ => .ok (.dat (.tup [.str "returned", p.1])) p.2
  | .exc n none ρ1 => (opt (wd n) ρ1).bind fun d _ => .ok (.dat d) ρ1
  | _ => .bad
theorem two_sz : 2 ≤ sizeLine := by rw [sizeLine_eq]; omega
theorem rd_said {K : PySem.W.Frag} [Tb K] {W : WX} {tb : XK → TE} {ts : Addr → Value → Option Addr → TS} {Ng : List Str} {j : Nat} {RE : Addr} {wd : Str → Option D} {ms : Addr → Str → SM} {mb : EM} (hb : ∀ E : XK, RdE K (fun c d _ H' => E c d H') (tb E) mb) (hj : j < Ng.length) (h1 : 1 ≤ Ng.length)
    (hw : ∀ n d, wd n = some d → PySem.W.exmOne K (.ref (He.ga K n)) (.ref RE) = some true ∧ ∀ f a : Addr, RdS K W0 (ts a (.ref (He.ga K n)) none) (ms a n) ∧ ∃ ρ', ms a n ((ent Ng.length [.dat (.ref f)]).set j (.dat (.ref a))) = .ok (.rt d) ρ') :
    RdE K W (tSaid K (Tb.T K) tb ts Ng j RE) (mSaid wd mb) := by
  intro G F H σ ρ Q g h
  refine ⟨g.tab.tabs, fun f H1 eN T1 => ?_⟩
  have eF : Ext F H1 := fun a o z => eN a o (g.ff a o z) fun ps y => g.tab.none a ps (by rw [z, y])
  have g1 : Gud K G F H1 σ ρ := g.growT ⟨Ext.refl _, eF, eN, fun a z _ => z, ⟨T1, g.tab.none⟩⟩
  refine hb _ G F H1 σ ρ _ g1 ?_
  have h' : Fin K G F W σ (match mb ρ with
    | .ok x ρ1 => (opt (frz ρ1 x) ρ1).bind fun p _ => .ok (.dat (.tup [.str "returned", p.1])) p.2
    | .exc n none ρ1 => (opt (wd n) ρ1).bind fun d _ => .ok (.dat d) ρ1
    | _ => .bad) (fun x _ F' H' => ∀ v, VlOk K F' σ x v → Q v H') := h
  cases q : mb ρ with
  | bad => rw [q] at h'; exact h'.elim
  | ok x ρ1 =>
    rw [q] at h'
    intro F1 H2 e1 g2 v hv
    have h2 := Fin.up h' e1
    obtain ⟨⟨d, ρ2⟩, ed, h3⟩ := fin_opt h2
    obtain ⟨F2, a1, a2, a3⟩ := frz_ok g2 hv ed
    refine ⟨two_sz, fun p hp => ?_⟩
    have w : Grw F2 H2 (upd F2 p (.tup [.str "returned", v])) (upd H2 p (.tup [.str "returned", v])) := Grw.lay a2.ff hp
    exact h3 _ _ (a1.trans w.ff) (a2.grow w) _ (.tup (SqT.of upd_same) two_sz (.cons (.str _) (.cons (a3.up w.ff) .nil)))
  | exc n o ρ1 =>
    rw [q] at h'
    cases o with
    | some _ => exact h'.elim
    | none =>
      obtain ⟨d, ed, h3⟩ := fin_opt (o := wd n) (ρ := ρ1) (k := fun d _ => Rs.ok (Vl.dat d) ρ1) h'
      obtain ⟨hx, hf⟩ := hw n d ed
      intro dx F1 H2 e1 g2 xr
      obtain rfl : dx = none := xr
      refine ⟨true, hx, fun _ a ha => ?_, nofun⟩
      obtain ⟨hs, ρ', er⟩ := hf f a
      have gg : Gud K ⟨H2, F1, none⟩ F1 H2 (L2.start Ng [.ref f]) (ent Ng.length (([.ref f] : List D).map .dat)) := gud_ent g2.ff g2.tab (.cons (.ref f) .nil)
      have gs := gg.setDat (i := j) (d := .ref a) (v := .ref a) (by rw [ent_len]; simp; omega) (.ref a)
      refine hs _ F1 H2 _ _ _ gs ?_
      show FinS K _ F1 W0 (ms a n ((ent Ng.length [.dat (.ref f)]).set j (.dat (.ref a)))) _
      rw [er]
      intro σ' F3 H3 e3 g3 v hv
      exact h3 F3 H3 (e1.trans e3) (g2.growT ⟨e3, g3.ff, g3.bb, g3.new, g3.tab⟩) v hv
end Pm

set_option Elab.async false
set_option linter.all false
set_option maxRecDepth 100000
set_option maxHeartbeats 2000000
/-! Pm12: said(lambda: e), the judgement. -/
namespace Pm
open PySem PySem.Spec PyProof.Rows L2
theorem room_un {k : Nat} {A : Around} (r : Room k A) : A.units + 100 < cLine := by have := r.un; omega
theorem room_u8 {k : Nat} {A : Around} (r : Room k A) : A.units + 80 < cLine := by have := r.un; omega
theorem room_dp {k : Nat} {A : Around} (r : Room k A) : A.depth + 1 < recursionLimit := by have := r.dp; omega
/-- the lambda's names -/
def lamB (ns : Nms) (sc : Scope) : Bool := LamX.lamSB ⟨.function, ns, false, false, []⟩ sc
theorem lam_of {sc0 sc : Scope} {ns : Nms} (h : lamB ns sc = true) (e : sc0.names = ns) : LamX.LamS sc0 sc := by
  obtain ⟨h1, h2, h3, h4, h5⟩ := LamX.lamS_by h
  exact ⟨h1, h2, h3, h4, fun y hy z => by rw [e]; exact h5 y hy z⟩
/-- the try of the def that says -/
abbrev saidBody (a e er : Str) (b0 : Stmt) (suite : List Stmt) (p2 p3 p4 p5 p6 p7 p8 p9 : Pos) (k1 k2 : Nat) : List Stmt :=
  [.Try [.Return (some (.Tuple [.Constant (.str "returned") k1 p2, .Call (.Name a p3) [] [] p4] k2 p5)) p6] [.ExceptHandler (some (.Name er p7)) (some e) (b0 :: suite) p8] [] [] p9]
section
variable {ι : Type} {X : ι → Cx} {P : Program} {w : World} {K : PySem.W.Frag} [Tb K] {mg : Str → Option Value} {base : Heap} {k : Nat} {N : List Str} {ns : Nms} {fx : Str → Bool} {W : WX}
/-- what is known of the def that says: its text, its place, the suite's reading -/
structure SaidT (P : Program) (w : World) (K : PySem.W.Frag) [Tb K] (mg : Str → Option Value) (base : Heap) (x : Str) (wd : Str → Option D) : Prop where
  ex : ∃ (a e er qg : Str) (g RE : Addr) (j : Nat) (pg : Arguments) (b0 : Stmt) (suite : List Stmt) (sg : Scope) (fd : FuncData) (Ng : List Str) (p2 p3 p4 p5 p6 p7 p8 p9 : Pos) (k1 k2 : Nat) (ms : Addr → Str → SM),
    FunD K x qg pg (saidBody a e er b0 suite p2 p3 p4 p5 p6 p7 p8 p9 k1 k2) sg [] [] g fd ∧ mg x = some (.ref g) ∧ L2.Binds K fd [a] [] ∧ FnScope Ng [a] sg ∧ Ng[0]? = some a ∧ visB sg.names a = true ∧ Ng[j]? = some e ∧ locB sg.names e = true ∧ glB sg.names er = true ∧ (er == ("__debug__" : Str)) = false ∧
    (a == ("__debug__" : Str)) = false ∧ (a == ("__classdict__" : Str)) = false ∧ mg er = some (.ref RE) ∧ (∀ n n', (wd n).isSome = true → (wd n').isSome = true → He.ga K n = He.ga K n' → n = n') ∧
    (∀ n d, wd n = some d → PySem.W.exmOne K (.ref (He.ga K n)) (.ref RE) = some true ∧ ∀ f b : Addr, ∃ ρ', ms b n ((ent Ng.length [.dat (.ref f)]).set j (.dat (.ref b))) = .ok (.rt d) ρ') ∧
    (∀ n, (wd n).isSome = true → ∀ (b : Addr) {κ : Type} {Y : κ → Cx} {oe : κ → Obj}, Fam Y P w K mg base 0 Ng sg.names (fun _ => true) W0 true → (∀ i, (b, oe i) ∈ (Y i).pn) → (∀ i, Zc (.ref (He.ga K n)) none (oe i)) → (∀ i, ∃ vs, (oe i).data = .fields vs) →
      (∀ i, (Y i).A.units + 100 < cLine) → (∀ i, (Y i).A.depth + 1 < recursionLimit) → JB Y K W0 (b0 :: suite) (ms b n))
/-- the def's code object and its table of code objects -/
structure LamT (K : PySem.W.Frag) [Tb K] (mg : Str → Option Value) (base : Heap) (c : Addr) (q : Str) : Prop where
  ex : ∃ P0 : Addr, LamX.TabB base mg c P0 ∧ (P0, q ++ "<lambda>") ∈ Tb.T K ∧ ∀ p ∈ Tb.T K, p.1 = P0 → p.2 = q ++ "<lambda>"
theorem fam_lam (c : Fam X P w K mg base (k + 2) N ns fx W false) {sc : Scope} (hk : sc.kind = .function) (E : XK) : Fam (fun p : {p : ι × Addr × Addr × Around × List PySem.Env × Shared × Hp // Room k (p.2.2.2.1.deeper (LamX.lamEnv (X p.1) sc p.2.2.2.2.2.1.heap.objs.size p.2.1 p.2.2.1)) ∧ p.2.2.2.1.guards = some []} =>
    LamX.lamCx (X p.1.1) p.1.2.2.2.1 p.1.2.2.2.2.1 p.1.2.2.2.2.2.1 p.1.2.2.2.2.2.2 E sc p.1.2.1 p.1.2.2.1) P w K mg base k N sc.names (fun _ => false) (fun c d _ H' => E c d H') false where
  prog := fun p => c.prog p.1.1
  wd := fun p => c.wd p.1.1
  hK := fun p => c.hK p.1.1
  hmg := fun p => c.hmg p.1.1
  hbase := fun p => c.hbase p.1.1
  hN := fun p => c.hN p.1.1
  nd := c.nd
  sc := fun p => rfl
  kind := fun p => hk
  calm := fun _ p => rfl
  room := fun _ p => p.2.1
  units := fun p => (room_u8 p.2.1 :)
  dep := fun p => (p.2.1.depth :)
  tk := fun p => takes_of rfl rfl rfl rfl
  gd := fun p => p.2.2
  po := fun p => passes_of rfl
  hfx := fun p x h => by cases h
theorem fam_suite (c : Fam X P w K mg base (k + 2) N ns fx W false) {Ng ps : List Str} {qg : Str} {sg : Scope} {g : Addr} {cls : Value} {d : Option Addr} (S : FnScope Ng ps sg) (b : Addr) :
    Fam (fun p : {p : ι × Value × Shared × Hp × Obj × List (Addr × Obj) // Room (k + 1) ((X p.1).A.deeper (envOfC qg sg p.2.2.1.heap.objs.size g p.2.1)) ∧ Zc cls d p.2.2.2.2.1 ∧ ∃ vs, p.2.2.2.2.1.data = .fields vs} =>
      (cxOf (L2.CX (X p.1.1).prog (X p.1.1).w) (X p.1.1).prog (X p.1.1).w (X p.1.1).K (X p.1.1).mg (X p.1.1).base Ng qg sg g p.1.2.1 (X p.1.1).A (X p.1.1).stack p.1.2.2.1 p.1.2.2.2.1 (fun _ _ _ => False)).suite b ((b, p.1.2.2.2.2.1) :: p.1.2.2.2.2.2)) P w K mg base 0 Ng sg.names (fun _ => true) W0 true where
  prog := fun p => c.prog p.1.1
  wd := fun p => c.wd p.1.1
  hK := fun p => c.hK p.1.1
  hmg := fun p => c.hmg p.1.1
  hbase := fun p => c.hbase p.1.1
  hN := fun p => rfl
  nd := S.nd
  sc := fun p => rfl
  kind := fun p => S.kind
  calm := nofun
  room := nofun
  units := fun p => (room_u8 p.2.1 :)
  dep := fun p => (p.2.1.depth :)
  tk := fun p => takesB
  gd := fun p => c.gd p.1.1
  po := fun p => PassesOwn.never
  hfx := fun p x h => rfl
theorem jSaid (c : Fam X P w K mg base (k + 2) N ns fx W false) {x : Str} {wd : Str → Option D} (T : SaidT P w K mg base x wd) {c0 : Addr} {q : Str} (LT : LamT K mg base c0 q) (hcode : ∀ i, (X i).env.code = .ref c0) (hq : ∀ i, (X i).env.qual = q) {params : Arguments} {body : Expr} {scope : Scope} {p lpos pos : Pos} {mb : EM}
    (hbd : ∀ {κ : Type} {Y : κ → Cx} {W' : WX}, Fam Y P w K mg base k N scope.names (fun _ => false) W' false → JE Y K W' body mb)
    (hg : glB ns x = true := by kernel_rfl) (hL : lamB ns scope = true := by kernel_rfl) (hdb : (x == ("__debug__" : Str)) = false := by kernel_rfl) (hdef : ∀ i, defaultsOf params (X i).env = ([], []) := by intro _; rfl)
    (hbind : ∀ (q : Str) (cl : List (Str × Addr)) (pm cv ctv : Value), bindArgs (PySem.W.kla_fn "<lambda>" q params body scope cl pm cv ctv) ⟨[], []⟩ = pure [] := by intros; rfl) :
    JE X K W (.Call (.Name x p) [.Lambda params body scope lpos] [] pos) (mSaid wd mb) := by
  obtain ⟨a, e, er, qg, g, RE, j, pg, b0, suite, sg, fd, Ng, p2, p3, p4, p5, p6, p7, p8, p9, k1, k2, ms, F, hm, hb, Sg, n0, va, nj, le, ge, d1, d2, d3, mR, inj, hw, hsu⟩ := T.ex
  obtain ⟨P0, TB, hmT, hu⟩ := LT.ex
  have hLk : scope.kind = .function := (LamX.lamS_by hL).kind
  have HB : ∀ E : XK, ∃ t : TE, _ ∧ RdE K (fun c d _ H' => E c d H') t mb := fun E => hbd (fam_lam c hLk E)
  have HS : ∀ (b : Addr) (cls : Value) (d : Option Addr), ∃ t : TS, (∀ (i : ι) (cd : Value) (s : Shared) (H : Hp) (oe : Obj) (pn : List (Addr × Obj)), Room (k + 1) ((X i).A.deeper (envOfC qg sg s.heap.objs.size g cd)) → Zc cls d oe → (∃ vs, oe.data = .fields vs) →
      PSs ((cxOf (L2.CX (X i).prog (X i).w) (X i).prog (X i).w (X i).K (X i).mg (X i).base Ng qg sg g cd (X i).A (X i).stack s H (fun _ _ _ => False)).suite b ((b, oe) :: pn)) (b0 :: suite) t) ∧
      ∀ n, (wd n).isSome = true → cls = .ref (He.ga K n) → d = none → RdS K W0 t (ms b n) := by
    intro b cls d
    by_cases h : ∃ n, (wd n).isSome = true ∧ cls = .ref (He.ga K n) ∧ d = none
    · obtain ⟨n, hn, rfl, rfl⟩ := h
      obtain ⟨t, h1, h2⟩ := hsu n hn b (oe := fun p => p.1.2.2.2.2.1) (fam_suite (qg := qg) (g := g) (cls := .ref (He.ga K n)) (d := none) c Sg b) (fun p => List.mem_cons_self) (fun p => p.2.2.1) (fun p => p.2.2.2)
        (fun p => (room_un p.2.1 :)) (fun p => (room_dp p.2.1 :))
      refine ⟨t, fun i cd s H oe pn hr hz hv => h1 ⟨(i, cd, s, H, oe, pn), hr, hz, hv⟩, fun n' hn' e1 _ => ?_⟩
      have e2 : He.ga K n = He.ga K n' := by injection e1
      rw [← inj n n' hn hn' e2]; exact h2
    · exact ⟨fun _ _ _ => False, fun i cd s H oe pn hr hz hv => ⟨fun _ _ _ _ _ _ z => z.elim⟩, fun n h1 h2 h3 => (h ⟨n, h1, h2, h3⟩).elim⟩
  refine ⟨tSaid K (Tb.T K) (fun E => Classical.choose (HB E)) (fun b cls d => Classical.choose (HS b cls d)) Ng j RE, fun i => ?_, ?_⟩
  · have key := said_pe (X := X i) (T := Tb.T K) (x := x) (a := a) (e := e) (er := er) (qg := qg) (g := g) (c := c0) (P0 := P0) (RE := RE) (k := k) (j := j) (pg := pg) (b0 := b0) (suite := suite) (sg := sg) (fd := fd) (Ng := Ng) (params := params) (body := body) (scope := scope) (tb := fun E => Classical.choose (HB E)) (ts := fun b cls d => Classical.choose (HS b cls d)) (p := p) (lpos := lpos) (pos := pos)
      (c.gl hg i) (by rw [c.hmg i]; exact hm) (by rw [c.hK i]; exact F) (by rw [c.hK i]; exact hb) Sg n0 (by unfold Vis; exact vis_of va) nj (loc_of le) (gl_of ge) d1 (by rw [c.hmg i]; exact mR)
      (fun cd s H b oe cls d pn hr hz hv => (Classical.choose_spec (HS b cls d)).1 i cd s H oe pn hr hz hv) (by rw [c.hbase i, c.hmg i]; exact TB) (hcode i) (by rw [hq i]; exact hmT) (by rw [hq i]; exact hu) (c.room rfl i) (c.gd i) (lam_of hL (c.sc i)) (hdef i) hbind
      (fun f c' A l s H E hr hgd => (Classical.choose_spec (HB E)).1 ⟨(i, f, c', A, l, s, H), hr, hgd⟩) hdb d2 d3
    rw [c.hK i] at key
    exact key
  · exact rd_said (fun E => (Classical.choose_spec (HB E)).2) (List.getElem?_eq_some_iff.mp nj).1 (Nat.lt_of_le_of_lt (Nat.zero_le _) (List.getElem?_eq_some_iff.mp n0).1) fun n d hn => ⟨(hw n d hn).1, fun f b => ⟨(Classical.choose_spec (HS b (.ref (He.ga K n)) none)).2 n (by rw [hn]; rfl) rfl rfl, (hw n d hn).2 f b⟩⟩
end
end Pm

set_option Elab.async false
set_option linter.all false
set_option maxRecDepth 100000
set_option maxHeartbeats 2000000
/-! Pm13: raise, names of the module, dict displays, parallel stores, defs that give a new list. -/
namespace Pm
open PySem PySem.Spec PyProof.Rows L2
section
variable {ι : Type} {X : ι → Cx} {P : Program} {w : World} {K : PySem.W.Frag} [Tb K] {mg : Str → Option Value} {base : Heap} {k : Nat} {N : List Str} {ns : Nms} {fx : Str → Bool} {W : WX} {hot : Bool}
/-- a whole number of the module -/
theorem jGI (c : Fam X P w K mg base k N ns fx W hot) {x : Str} {pos : Pos} {i : Int} (h : ∃ t, mg x = some (.int i t)) (hg : glB ns x = true := by kernel_rfl) (hd : (x == ("__debug__" : Str)) = false := by kernel_rfl) : JE X K W (.Name x pos) (mC (.int i)) := by
  obtain ⟨t, h⟩ := h
  exact jGlo (v := .int i) c h ⟨t, rfl⟩ (fun _ => .int i) hg hd
theorem jGS (c : Fam X P w K mg base k N ns fx W hot) {x : Str} {pos : Pos} {z : Str} (h : ∃ t, mg x = some (.str z t)) (hg : glB ns x = true := by kernel_rfl) (hd : (x == ("__debug__" : Str)) = false := by kernel_rfl) : JE X K W (.Name x pos) (mC (.str z)) := by
  obtain ⟨t, h⟩ := h
  exact jGlo (v := .str z) c h ⟨t, rfl⟩ (fun _ => .str z) hg hd
/-- a class of the module -/
theorem jGC (c : Fam X P w K mg base k N ns fx W hot) {x : Str} {pos : Pos} (h : mg x = some (.ref (He.ga K x))) (hg : glB ns x = true := by kernel_rfl) (hd : (x == ("__debug__" : Str)) = false := by kernel_rfl) : JE X K W (.Name x pos) (mC (.cls x)) :=
  jGlo (v := .ref (He.ga K x)) c h rfl (fun _ => .cls x) hg hd
/-! ### raise X('..') -/
/-- an own exception class without own __init__ -/
structure ExcF (K : PySem.W.Frag) (mg : Str → Option Value) (x : Str) : Prop where
  glo : mg x = some (.ref (He.ga K x))
  exc : (He.Fa.exc x).ok K = true
theorem jRz (c : Fam X P w K mg base k N ns fx W false) {x m : Str} {j : Nat} {p p2 pos pos' : Pos} (E : ExcF K mg x) (hg : glB ns x = true := by kernel_rfl) (hd : (x == ("__debug__" : Str)) = false := by kernel_rfl) : JS X K W (.Raise (some (.Call (.Name x p) [.Constant (.str m) j p2] [] pos)) none pos') (sRz x) := by
  obtain ⟨e1, e2, e3, e4⟩ := He.exc_ok E.exc
  refine ⟨_, fun a => ?_, rd_rz x⟩
  refine ps_raise (c.calm rfl a) (c.tk a) (pmk_own (C := He.ga K x) PySem.F.excBase_ValueError (by rw [c.hK a]; exact e1) (by rw [c.hmg a]; exact E.glo) (by rw [c.hK a]; exact e2) (raises_own (by rw [c.hK a]; exact e3) (by rw [c.hK a]; exact e4)) (c.gl hg a) hd)
/-! ### dict displays -/
def mDic0 : EM := fun ρ => .ok (.dat (.dic [] [])) ρ
theorem jDic0 {pos : Pos} : JE X K W (.Dict [] [] pos) mDic0 := by
  refine ⟨_, fun a => pe_dnewK, fun G F H σ ρ Q g h p hp => ?_⟩
  have w : Grw F H (upd F p (.dK [])) (upd H p (.dK [])) := Grw.lay g.ff hp
  exact h _ _ w.ff (g.grow w) _ (.dic upd_same rfl .nil)
/-- a written constant -/
structure JC (X : ι → Cx) (K : PySem.W.Frag) (e : Expr) (d : D) : Prop where
  ex : ∃ v : V, (∀ a, PE (X a) e (tC v)) ∧ ∀ F, Rep K F d v
theorem jcInt {i : Int} {j pos} : JC X K (.Constant (.int i) j pos) (.int i) := ⟨_, fun a => pe_int, fun _ => .int i⟩
theorem jcStr {x : Str} {j pos} : JC X K (.Constant (.str x) j pos) (.str x) := ⟨_, fun a => pe_str, fun _ => .str x⟩
def keyV (q : Key) : D := match q with
  | .inl i => .int i
  | .inr x => .str x
/-- {k: v}, constants -/
def mDic1 (q : Key) (vd : D) : EM := fun ρ => .ok (.dat (.dic [q] [vd])) ρ
theorem jDic1 {pos : Pos} {e1 e2 : Expr} (q : Key) {vd : D} (h1 : JC X K e1 (keyV q)) (h2 : JC X K e2 vd) : JE X K W (.Dict [some e1] [e2] pos) (mDic1 q vd) := by
  obtain ⟨kv, k1, k2⟩ := h1.ex
  obtain ⟨vv, l1, l2⟩ := h2.ex
  refine ⟨tDisp [(tC kv, tC vv)], fun a => pe_disp (pps_cons (k1 a) (l1 a) pps_nil) rfl rfl (by simp) (by simp), fun G F H σ ρ Q g h p hp => ?_⟩
  have ek : kv = kV q := by
    have r := k2 F
    cases q <;> (cases r; rfl)
  have w : Grw F H (upd F p (.dK [(q, vv)])) (upd H p (.dK [(q, vv)])) := Grw.lay g.ff hp
  have e : upd (upd H p (.dK [])) p (.dK (mergeK [] [(q, vv)])) = upd H p (.dK [(q, vv)]) := by
    funext b
    by_cases z : b = p
    · rw [z, upd_same, upd_same]; rfl
    · rw [upd_ne z, upd_ne z, upd_ne z]
  refine ⟨upd_same, [(q, vv)], by rw [ek]; rfl, by simp, ?_⟩
  rw [e]
  exact h _ _ w.ff (g.grow w) _ (.dic upd_same rfl (.cons (l2 _) .nil))
/-! ### a, b = .., .. -/
def isStar : Expr → Bool
  | .Starred .. => true
  | _ => false
/-- what a parallel store of a pair or triple does: none: not covered; some none: the tuple is made; some (some names): plain names are stored -/
def swR (ns : Nms) (ts vs : List Expr) : Option (Option (List Str)) :=
  if !(ts.length == 2 || ts.length == 3) || vs.length != ts.length then some none
  else if vs.any isStar then some none
  else let line := (ts.head?.map (·.pos.line)).getD 0
    let names := ts.filterMap fun e => match e with
      | .Name id pos => if ns.lookup id == some .local && pos.line == line then some id else none
      | _ => none
    if names.length != ts.length || names.eraseDups.length != names.length then some none
    else if vs.all (foldedForSure 8) then some none
    else if vs.all (constantsAlone 8) then none
    else some (some names)
theorem sw_abs {c1 c2 c3 c4 c5 : Bool} {l : List Str} {z : Sem (Option (List Str))} {r : Option (List Str)} (h : (if c1 = true then some none else if c2 = true then some none else if c3 = true then some none else if c4 = true then some none else if c5 = true then none else some (some l)) = some r) :
    (if c1 = true then pure none else if c2 = true then pure none else if c3 = true then pure none else if c4 = true then pure none else if c5 = true then z else pure (some l)) = (pure r : Sem (Option (List Str))) := by
  cases c1 <;> cases c2 <;> cases c3 <;> cases c4 <;> cases c5 <;> first | (cases h; rfl) | cases h
theorem swapped_of {ts vs : List Expr} {k1 k2 : Nat} {p1 p2 : Pos} {env : PySem.Env} {r : Option (List Str)} (h : swR ns ts vs = some r) (hn : env.scope.names = ns) (hk : env.scope.kind = .function) : swappedStores [.Tuple ts k1 p1] (.Tuple vs k2 p2) env = pure r := by
  subst hn
  have hb : env.blockKind = .function := by unfold Env.blockKind; rw [hk]; rfl
  unfold swR at h
  have key : swappedStores [.Tuple ts k1 p1] (.Tuple vs k2 p2) env = (if (!(ts.length == 2 || ts.length == 3) || vs.length != ts.length) = true then pure none
    else if vs.any isStar = true then pure none
    else if ((ts.filterMap fun e => match e with
      | .Name id pos => if env.scope.names.lookup id == some .local && pos.line == (ts.head?.map (·.pos.line)).getD 0 then some id else none
      | _ => none).length != ts.length || (ts.filterMap fun e => match e with
      | .Name id pos => if env.scope.names.lookup id == some .local && pos.line == (ts.head?.map (·.pos.line)).getD 0 then some id else none
      | _ => none).eraseDups.length != (ts.filterMap fun e => match e with
      | .Name id pos => if env.scope.names.lookup id == some .local && pos.line == (ts.head?.map (·.pos.line)).getD 0 then some id else none
      | _ => none).length) = true then pure none
    else if vs.all (foldedForSure 8) = true then pure none
    else if vs.all (constantsAlone 8) = true then unsupported "assign.tuple-of-constant-expressions:order-of-the-stores"
    else pure (some (ts.filterMap fun e => match e with
      | .Name id pos => if env.scope.names.lookup id == some .local && pos.line == (ts.head?.map (·.pos.line)).getD 0 then some id else none
      | _ => none))) := by
    unfold swappedStores
    simp only [hb]
    rw [show (ScopeKind.function != ScopeKind.function) = false from rfl, Bool.or_false]
    rfl
  rw [key]
  exact sw_abs h
/-- a, b = x, y: two local names -/
theorem jPar2 (c : Fam X P w K mg base k N ns fx W false) (i j : Nat) {x y : Str} {e1 e2 : Expr} {px py pt pos : Pos} {kt k2 : Nat} {pt2 : Pos} {ma : AM} (h : JA X K W [e1, e2] ma) (hij : i ≠ j := by decide) (hi : N[i]? = some x := by kernel_rfl) (hj : N[j]? = some y := by kernel_rfl)
    (hx : locB ns x = true := by kernel_rfl) (hy : locB ns y = true := by kernel_rfl) (hw : swR ns [.Name x px, .Name y py] [e1, e2] = some (some [x, y]) := by kernel_rfl)
    (hs : ∀ a, swapsWithSole [.Tuple [.Name x px, .Name y py] kt pt] (.Tuple [e1, e2] k2 pt2) pos.line (X a).env = pure false := by intro _; rfl) :
    JS X K W (.Assign [.Tuple [.Name x px, .Name y py] kt pt] (.Tuple [e1, e2] k2 pt2) pos) (sPar i j ma) :=
  jPar c i j h hij hi hj hx hy (fun a _ _ h3 => swapped_of hw (c.sc a) h3) hs
/-- a, b, .. = x, y, ..: by the tuple -/
theorem jAsgT (c : Fam X P w K mg base k N ns fx W false) {ts vs : List Expr} {k1 k2 : Nat} {p1 p2 pos : Pos} {js : List Nat} {m : EM} {mg : GM} (h : JE X K W (.Tuple vs k2 p2) m) (hg : JG X K (.Tuple ts k1 p1) js mg) (hw : swR ns ts vs = some none := by kernel_rfl)
    (hs : ∀ a, swapsWithSole [.Tuple ts k1 p1] (.Tuple vs k2 p2) pos.line (X a).env = pure false := by intro _; rfl) (h1 : ∀ a, (assignEach [.Tuple ts k1 p1] (X a).env).map (·.2) = [assign (.Tuple ts k1 p1) (X a).env] := by intro _; rfl) :
    JS X K W (.Assign [.Tuple ts k1 p1] (.Tuple vs k2 p2) pos) (sAsg m mg) := jAsg h hg hs (fun a => swapped_of hw (c.sc a) (c.kind a)) h1
/-- y = [..], y a cell -/
theorem sw_cell {elt : Expr} {gs : List Comprehension} {sc : Scope} {pos py : Pos} {y : Str} {l : Nat} {env : PySem.Env} (hy : env.scope.names.lookup y = some .cell) : swapsWith (.ListComp elt gs sc pos) (some (.Name y py)) l env = pure false := by
  have ky : env.kindOf y = some .cell := hy
  have e : (env.kindOf y == some NameKind.local) = false := by rw [ky]; rfl
  unfold swapsWith
  simp only [e, Bool.and_false, Bool.false_and]
theorem jSetC (c : Fam X P w K mg base k N ns fx W hot) (i : Nat) {x : Str} {elt : Expr} {gs : List Comprehension} {sc : Scope} {p1 : Pos} {pos pos' : Pos} {m : EM} (h : JE X K W (.ListComp elt gs sc p1) m) (hi : N[i]? = some x := by kernel_rfl) (hv : stB fx ns x = true := by kernel_rfl) (hc : celB ns x = true := by kernel_rfl) :
    JS X K W (.Assign [.Name x pos'] (.ListComp elt gs sc p1) pos) (sAsg m (gN i)) := jSet c i h hi hv fun a => sw_cell (by rw [c.sc a]; exact cel_of hc)
theorem jOwnC (c : Fam X P w K mg base k N ns fx W hot) (i : Nat) {x : Str} {elt : Expr} {gs : List Comprehension} {sc : Scope} {p1 : Pos} {pos pos' : Pos} {m : NM} (h : JN X K W (.ListComp elt gs sc p1) m) (hi : N[i]? = some x := by kernel_rfl) (hv : stB fx ns x = true := by kernel_rfl) (hc : celB ns x = true := by kernel_rfl) :
    JS X K W (.Assign [.Name x pos'] (.ListComp elt gs sc p1) pos) (sNew m i) := jOwn c i h hi hv fun a => sw_cell (by rw [c.sc a]; exact cel_of hc)
/-! ### a def that gives a new list -/
def SpN (K : PySem.W.Frag) [Tb K] (n : Nat) (f : List D → Rf (List D)) : Sp := fun vs H Q E => ∃ (F : Hp) (ds : List D), Ext F H ∧ TbOk K F H ∧ RepL K F ds vs ∧ ds.length = n ∧ (match f ds with
  | .ok es => ∀ p F' H' ys, GrwT K F H F' H' → Off H p → H' p = some (.lst ys) → ys.length ≤ sizeLine → RepL K F' es ys → F' p = none → Q (.ref p) H'
  | _ => False)
def runN (m : NM) (N : Nat) (ds : List D) : Rf (List D) := match m (ent N (ds.map .dat)) with
  | .ok es _ => .ok es
  | _ => .bad
def callN (n : Nat) (f : List D → Rf (List D)) (ds : List D) (ρ : DEnv) : Rs (List D) := if ds.length = n then (match f ds with
  | .ok es => .ok es ρ
  | _ => .bad) else .bad
def nCall (n : Nat) (f : List D → Rf (List D)) (ma : AM) : NM := fun ρ => (ma ρ).bind fun xs ρ1 => (opt (frzL ρ1 xs) ρ1).bind fun p _ => callN n f p.1 p.2
theorem rdn_call {n : Nat} {f : List D → Rf (List D)} {ta : TA} {ma : AM} (ha : RdA K W ta ma) : RdN K W (tCallS (SpN K n f) (WE W) ta) (nCall n f ma) := by
  intro G F H σ ρ Q g h
  refine ha G F H σ ρ _ g (h.bind.imp fun xs ρ1 F1 H1 e1 g1 h1 vs hv => ?_)
  obtain ⟨⟨ds, ρ2⟩, ed, h1⟩ := fin_opt h1
  obtain ⟨F2, a1, a2, a3⟩ := frzL_ok g1 hv ed
  have h2 : Fin K G F1 W σ (callN n f ds ρ2) _ := h1
  unfold callN at h2
  by_cases hn : ds.length = n
  · rw [if_pos hn] at h2
    refine ⟨F2, ds, a2.ff, a2.tab, a3, hn, ?_⟩
    cases q : f ds with
    | bad => rw [q] at h2; exact h2
    | exc n o => rw [q] at h2; exact h2
    | ok es =>
      rw [q] at h2
      intro p F' H' ys w off hp hz r hF
      refine h2 F' H' (a1.trans w.ff) (a2.growT w) p ys hp hz r hF (fun l => off (l.up a2.bb)) fun j b fs e z => ?_
      obtain ⟨p', xs', b1, b2, _⟩ := a2.own j b fs e
      rw [z] at b1; cases b1
      exact off (.lst b2)
  · rw [if_neg hn] at h2; exact h2.elim
theorem jnCall (c : Fam X P w K mg base k N ns fx W false) {j n : Nat} {x : Str} {f : List D → Rf (List D)} (C : Cal P w K mg base j x (SpN K n f)) {e : Expr} {es : List Expr} {ma : AM} {p pos : Pos} (ha : JA X K W (e :: es) ma) (hj : j ≤ k := by decide) (hg : glB ns x = true := by kernel_rfl) (hd : (x == ("__debug__" : Str)) = false := by kernel_rfl)
    (hs : ∀ a, starEach (e :: es) (X a).env = (false, eval e (X a).env) :: starEach es (X a).env := by intro _; rfl) (hp : ∀ a, (backTo pos (starEach es (X a).env)).any (·.1) = false := by intro _; rfl) : JN X K W (.Call (.Name x p) (e :: es) [] pos) (nCall n f ma) := by
  obtain ⟨t, h1, h2⟩ := ha
  exact ⟨_, callS c C hj hg hd h1 hs hp, rdn_call h2⟩
end
section
variable {P : Program} {w : World} {K : PySem.W.Frag} [Tb K] {mg : Str → Option Value} {base : Heap} {x qual : Str} {params : Arguments} {scope : Scope} {f : Addr} {fd : FuncData}
/-- def f(..): return [..] -/
theorem def_N {N ps : List Str} {k : Nat} {m : NM} {e : Expr} {pos : Pos} (F : FunD K x qual params [.Return (some e) pos] scope [] [] f fd) (S : FnScope N ps scope) (hm : mg x = some (.ref f)) (hb : Binds K fd ps [])
    (h : ∀ {ι : Type} {X : ι → Cx} {W : WX}, Fam X P w K mg base k N scope.names (fun _ => true) W false → JN X K W e m) : Cal P w K mg base (k + 1) x (SpN K ps.length (runN m N.length)) := by
  refine ⟨f, fd, ps, FunD.okG F S (fun vs H Q E z => ?_) fun cdv A l s H vs Q E hr hg z => ?_, hm, F.kp, hb⟩
  · obtain ⟨F0, ds, _, _, r, hl, _⟩ := z
    rw [← r.length, hl]
  · obtain ⟨t, h1, h2⟩ := h (fam_def (P := P) (w := w) (K := K) (mg := mg) (base := base) (outer := l) (E := E) (H := H) S hr hg)
    obtain ⟨F0, ds, e, tb, r, hl, z⟩ := z
    refine ⟨tRet t, pss_one (ps_ret (h1 ())), h2 ⟨H, F0, none⟩ F0 H (L2.start N vs) (ent N.length (ds.map .dat)) _ (gud_ent e tb r) ?_⟩
    unfold runN at z
    cases q : m (ent N.length (ds.map .dat)) with
    | bad => rw [q] at z; exact z
    | exc n o ρ' => rw [q] at z; exact z.elim
    | ok es ρ' =>
      rw [q] at z
      exact fun F' H' e1 g1 p xs hp hz hr hF hB ho => z p F' H' xs ⟨e1, g1.ff, g1.bb, g1.new, g1.tab⟩ hB hp hz hr hF
end
end Pm

set_option Elab.async false
set_option linter.all false
set_option maxRecDepth 100000
set_option maxHeartbeats 2000000
/-! Pm14: the end of a law whose defs are told upon data. -/
namespace Pm
open PySem PySem.Spec PyProof.Rows L2
/-- the law's def called from outside -/
theorem law_G {P : Program} {w : World} {K : PySem.W.Frag} {mg mb : Str → Option Value} {k : Nat} {fa a : Addr} {ct : List (Addr × Addr)} {fd : FuncData} {x : Str} {sp : Sp} {s1 : Shared} {vs : List Value} {ns : List Int}
    (KX : K.In s1.heap) (hns : s1.heap.Ns mainGlobals mg) (hbn : s1.heap.Ns builtinsNs mb) (hbb : ∀ y : Str, y ≠ "__name__" → mb y = bootBuiltins y) (lim : s1.heap.NoLimit) (hge : s1.gens = #[])
    (hT : ∀ p ∈ ct, s1.heap.get? p.2 = some { cls := .none, data := .fields #[] }) (nT : ∀ p ∈ ct, K.lookup p.2 = none) (C : ∀ p ∈ ct, PySem.W.CodeHd s1.heap p.1 p.2)
    (hbm : ∃ (bm : Addr) (ob : Obj), mg "__builtins__" = some (.ref bm) ∧ bm ≠ builtinsNs ∧ s1.heap.get? bm = some ob ∧ ob.cls = .type "module" ∧ ob.dict = some builtinsNs ∧ ob.data = .plain)
    (ha : s1.heap.get? a = some { cls := .type "list", data := .seq vs.toArray }) (hi : IntsAre vs ns) (hl : ns.length ≤ sizeLine) (hr : Room k callerA)
    (F : ∀ base : Heap, K.In base → base.Ns mainGlobals mg → (∀ p ∈ ct, LamX.TabB base mg p.1 p.2) → FnG P w K mg base (L2.CX P w) k fa fd [x] sp) (hbd : ∀ (s : Shared) (u : Value), BindsTo s fd ⟨[u], []⟩ [(x, u)])
    (hsp : ∀ H : Hp, (∀ p ∈ ct, H p.2 = some (.tbl #[])) → SqL K H a (ns.map V.int) → sp [.ref a] H (fun v _ => v = .bl true) fun _ _ _ => False) :
    codeAny (model P w) callerA (.call (.ref fa) ⟨[.ref a], []⟩) (fun r s' => r = .ok (.ret (.bool true)) ∧ OldK s1.heap s'.heap ∧ s'.os = s1.os ∧ AllBare s'.gens) s1 := by
  have rv := vals_ints hi
  have lv := hi.length
  have tabAt : ∀ b ∈ ct.map (·.2), s1.heap.get? b = some { cls := .none, data := .fields #[] } := fun b hb => by
    obtain ⟨p, hp, rfl⟩ := List.mem_map.mp hb
    exact hT p hp
  have aT : a ∉ ct.map (·.2) := fun z => by
    have q := tabAt a z
    rw [ha] at q
    have y := congrArg Obj.data (Option.some.inj q)
    cases y
  -- what is tracked: the tables, the script where the ground does not tell it
  have tracked : ∃ H : Hp, (∀ b ∈ ct.map (·.2), H b = some (.tbl #[])) ∧ SqL K H a (ns.map V.int) ∧ HOk P w H s1.heap ∧ ∀ b, H b ≠ none → b ∈ ct.map (·.2) ∨ (b = a ∧ K.lookup a = none ∧ ∃ o, H a = some (.frz o (.lst (ns.map V.int)))) := by
    cases hk : K.lookup a with
    | some o =>
      have e := KX a o hk
      rw [ha] at e; cases e
      have hq : SqL K (fun b => if b ∈ ct.map (·.2) then some (HO.tbl #[]) else none) a (ns.map V.int) := .inr ⟨_, vs.toArray, _, hk, rfl, rfl, rfl, by rw [List.size_toArray, lv]; exact hl, by simpa using rv⟩
      refine ⟨_, fun b hb => if_pos hb, hq, fun b u z => ?_, fun b z => .inl (Classical.byContradiction fun y => z (if_neg y))⟩
      have z' : (if b ∈ ct.map (·.2) then some (HO.tbl #[]) else none) = some u := z
      split at z'
      · cases z'; exact tabAt b ‹_›
      · cases z'
    | none =>
      have hH : ∀ b u, (if b = a then some (HO.frz { cls := .type "list", data := .seq vs.toArray } (.lst (ns.map V.int))) else if b ∈ ct.map (·.2) then some (HO.tbl #[]) else none) = some u → (b = a ∧ u = .frz { cls := .type "list", data := .seq vs.toArray } (.lst (ns.map V.int))) ∨ (b ∈ ct.map (·.2) ∧ u = .tbl #[]) := fun b u z => by
        split at z
        · cases z; exact .inl ⟨‹_›, rfl⟩
        · split at z
          · cases z; exact .inr ⟨‹_›, rfl⟩
          · cases z
      refine ⟨fun b => if b = a then some (HO.frz { cls := .type "list", data := .seq vs.toArray } (.lst (ns.map V.int))) else if b ∈ ct.map (·.2) then some (HO.tbl #[]) else none, fun b hb => ?_, .inl (.inr ⟨_, if_pos rfl⟩), fun b u z => ?_, fun b z => ?_⟩
      · show (if b = a then _ else if b ∈ ct.map (·.2) then _ else _) = _
        rw [if_neg (fun y => aT (by rw [← y]; exact hb)), if_pos hb]
      · rcases hH b u z with ⟨rfl, rfl⟩ | ⟨hb, rfl⟩
        · exact ⟨ha, by rw [List.length_map]; exact hl, vs, _, rv, ha⟩
        · exact tabAt b hb
      · cases q : (if b = a then some (HO.frz { cls := .type "list", data := .seq vs.toArray } (.lst (ns.map V.int))) else if b ∈ ct.map (·.2) then some (HO.tbl #[]) else none) with
        | none => exact absurd q z
        | some u =>
          rcases hH b u q with ⟨y, _⟩ | ⟨hb, _⟩
          · exact .inr ⟨y, rfl, _, if_pos rfl⟩
          · exact .inl hb
  obtain ⟨H, hTab, hS, hok, only⟩ := tracked
  have off : ∀ {b : Addr} {o : Obj}, s1.heap.get? b = some o → (∀ v n, o.data ≠ .seq v n) → o.data ≠ .fields #[] → H b = none := fun {b o} e n1 n2 => by
    cases q : H b with
    | none => rfl
    | some u =>
      rcases only b (by rw [q]; simp) with hb | ⟨rfl, _⟩
      · rw [tabAt b hb] at e; cases e; exact (n2 rfl).elim
      · rw [ha] at e; cases e; exact (n1 _ _ rfl).elim
  have bas : ∀ {b : Addr} {o : Obj}, s1.heap.get? b = some o → H b = none → (hidT s1.heap H).get? b = some o := fun e n => hidT_get e n
  have nsB : ∀ {b : Addr} {m : Str → Option Value}, s1.heap.Ns b m → (hidT s1.heap H).Ns b m := by
    rintro b m ⟨o, es, ep, e, d, r⟩
    exact ⟨o, es, ep, bas e (off e (fun v n z => by rw [d] at z; cases z) (fun z => by rw [d] at z; cases z)), d, r⟩
  have kB : K.In (hidT s1.heap H) := fun b o e => bas (KX b o e) (by
    cases q : H b with
    | none => rfl
    | some u =>
      rcases only b (by rw [q]; simp) with hb | ⟨rfl, z, _⟩
      · obtain ⟨p, hp, rfl⟩ := List.mem_map.mp hb
        rw [nT p hp] at e; cases e
      · rw [z] at e; cases e)
  have md : L2.Mod K mg (hidT s1.heap H) := ⟨kB, nsB hns, ⟨mb, nsB hbn, hbb⟩, by obtain ⟨mc, h1, h2⟩ := lim; exact ⟨mc, nsB h1, h2⟩⟩
  have tb : ∀ p ∈ ct, LamX.TabB (hidT s1.heap H) mg p.1 p.2 := fun p hp => by
    have hp2 := hT p hp
    obtain ⟨og, esg, epg, eg, hdg, _⟩ := hns
    refine ⟨?_, ?_, fun z => by rw [z, hp2] at eg; cases eg; cases hdg⟩
    · obtain ⟨o, us, file, tf, flags, tg, inF, text, tt, e1, r1, r2, r3, r⟩ := C p hp
      exact ⟨o, us, file, tf, flags, tg, inF, text, tt, bas e1 (off e1 (fun v n z => by rw [r2] at z; cases z) fun z => by rw [r2] at z; cases z; simp at r3), r1, r2, r3, r⟩
    · obtain ⟨bm, ob, b1, b2, b3, b4, b5, b6⟩ := hbm
      refine ⟨bm, ob, b1, b2, fun q => ?_, fun q => ?_, bas b3 (off b3 (fun v n z => by rw [b6] at z; cases z) fun z => by rw [b6] at z; cases z), b4, b5, b6⟩
      · rw [q, eg] at b3; cases b3; rw [hdg] at b6; cases b6
      · rw [q, hp2] at b3; cases b3; cases b6
  have e0 : Env0 P w K mg (hidT s1.heap H) callerA [] s1 H := ⟨rfl, md, fun b o e => of_hidT e, Nat.le_of_eq (hidT_size _ _), trivial, fun b z => absurd z (by simp [frs]), hok, .of_eq hge⟩
  have hq := (F _ kB (nsB hns) tb).run callerA [] s1 H ⟨[.ref a], []⟩ [.ref a] [.ref a] _ _ hr rfl e0 (hbd s1 (.ref a)) (.cons rfl .nil) (hsp H (fun p hp => hTab _ (List.mem_map.mpr ⟨p, hp, rfl⟩)) hS)
  refine codeAny_mono hq fun r s' h => ?_
  match r, h with
  | .error e, h =>
    obtain ⟨_, _, _, _, _, _, _, _, _, _, _, _, z⟩ := h
    exact z.elim
  | .ok (.ret u), ⟨v, H', os, bare, un, hok', r', q⟩ =>
    obtain rfl : v = .bl true := q
    obtain rfl : u = Value.bool true := r'
    have grown : ∀ p ∈ ct, ∃ more : Array Value, s'.heap.get? p.2 = some { cls := .none, data := .fields more } := fun p hp => by
      obtain ⟨more, z⟩ := un.tbls p.2 #[] (hTab _ (List.mem_map.mpr ⟨p, hp, rfl⟩))
      exact ⟨_, hok' p.2 _ z⟩
    have key : ∀ b o, b ∉ ct.map (·.2) → s1.heap.get? b = some o → s'.heap.get? b = some o := fun b o nb e => by
      cases q : H b with
      | none => exact un.keep b o e q (fun z => nomatch (show b ∈ ([] : List Addr) from z)) (by simp)
      | some u =>
        rcases only b (by rw [q]; simp) with z | ⟨rfl, _, ob, z⟩
        · exact absurd z nb
        · have z1 := (hok b _ z).1
          have z2 := (hok' b _ (un.frzs b ob _ z)).1
          rw [e] at z1; cases z1
          exact z2
    refine ⟨rfl, ⟨fun b o e => ?_, fun b o e => ?_⟩, os, bare⟩
    · by_cases hb : b ∈ ct.map (·.2)
      · obtain ⟨p, hp, rfl⟩ := List.mem_map.mp hb
        obtain ⟨more, hm⟩ := grown p hp
        rw [hT p hp] at e; cases e
        exact .inr (.inl ⟨((C p hp).tab (hT p hp)).isCodeTable, rfl, #[], more, rfl, by rw [Array.empty_append]; exact hm⟩)
      · exact .inl (key b o hb e)
    · by_cases hb : b ∈ ct.map (·.2)
      · obtain ⟨p, hp, rfl⟩ := List.mem_map.mp hb
        obtain ⟨more, hm⟩ := grown p hp
        exact ⟨_, hm⟩
      · exact ⟨o, key b o hb e⟩
/-- the end -/
theorem walk_G {l : PySem.W.OpenLaw} {n k : Nat} {q : Program} {loose : List Str} {XP : (Str → Option Value) → Heap → Prop} {YP : World → Heap → Prop} {d : DefRec} {x : Str}
    (hn : l.most = some n) (hn2 : n ≤ sizeLine) (hdf : d.params.defaults = []) (hr : Room k callerA)
    (F : ∀ (w : World) (mg : Str → Option Value) (fa : Addr) (h : Heap), YP w h → h.Ns mainGlobals mg → mg d.name = some (.ref fa) → ∃ (K : PySem.W.Frag) (fd : FuncData) (ct : List (Addr × Addr)) (sp : Sp), K.In h ∧
      (∀ p ∈ ct, h.get? p.2 = some { cls := .none, data := .fields #[] }) ∧ (∀ p ∈ ct, K.lookup p.2 = none) ∧ (∀ p ∈ ct, PySem.W.CodeHd h p.1 p.2) ∧ (∀ (s : Shared) (u : Value), BindsTo s fd ⟨[u], []⟩ [(x, u)]) ∧
      (∀ (H : Hp) (a : Addr) (ns : List Int), ns.length ≤ n → (∀ z ∈ ns, Builtin.Int.intBits z ≤ 1048576) → (∀ p ∈ ct, H p.2 = some (.tbl #[])) → SqL K H a (ns.map V.int) → sp [.ref a] H (fun v _ => v = .bl true) fun _ _ _ => False) ∧
      ∀ base : Heap, K.In base → base.Ns mainGlobals mg → (∀ p ∈ ct, LamX.TabB base mg p.1 p.2) → FnG l.prog w K mg base (L2.CX l.prog w) k fa fd [x] sp) :
    PySem.W.WalkO q loose XP YP l.row.toRowW d [] (fun f vs => PySem.call f vs) := by
  refine Att.attach_callB hn hdf fun w s₀ s1 mg mb fa o pm cd doc a vs ns G Y ho hd hcd hmg hobj hints hlen hbits hge => ?_
  obtain ⟨K, fd, ct, sp, KX, hT, nT, C, hb, hs, hF⟩ := F w mg fa _ Y G.T.g hmg
  exact law_G KX G.T.g G.T.b G.T.builtins G.T.nolimit hge hT nT C G.T.bmain hobj hints (Nat.le_trans hlen hn2) hr hF hb (fun H h1 h2 => hs H a ns hlen hbits h1 h2)
end Pm

set_option Elab.async false
set_option linter.all false
set_option maxRecDepth 100000
set_option maxHeartbeats 2000000
/-! Pm15: from the head's facts to the promises. -/
namespace Pm
open PySem PySem.Spec PyProof.Rows L2
/-! ### exceptions by the head's facts -/
def excTB (cs : List Str) (K : PySem.W.Frag) (n : Str) : Bool :=
  He.eqO (PySem.W.findIn K (.ref (He.ga K n)) "__getattribute__") (some (some (.builtin "BaseException.__getattribute__"))) && (He.eqO (PySem.W.findIn K (.ref (He.ga K n)) "__getattr__") (some none) && (decide (PySem.W.subIn K (.ref (He.ga K n)) (.type "BaseException") = some true) && (PySem.W.hasDictIn K (He.ga K n) &&
  (He.eqO (PySem.W.findIn K (.ref (He.ga K n)) "__class__") (some (some (.builtin "object.__class__"))) && (He.eqO (PySem.W.specialIn K (.builtin "object.__class__") "__get__") (some (some (.builtin "getset_descriptor.__get__"))) && (decide (PySem.W.takesIn K (.builtin "object.__class__") = some true) && (decide (PySem.W.mroIn K (He.ga K n) (.type "object") = some true) &&
  ((cs.all fun m => decide (PySem.W.kitOne K (.ref (He.ga K n)) (.ref (He.ga K m)) = some (n == m))) && decide (PySem.W.kitOne K (.ref (He.ga K n)) (.type "ValueError") = some true)))))))))
theorem excT_of {cs : List Str} {K : PySem.W.Frag} {n : Str} (h : excTB cs K n = true) : ExcT K cs n := by
  unfold excTB at h
  simp only [Bool.and_eq_true, decide_eq_true_eq, List.all_eq_true] at h
  obtain ⟨h1, h2, h3, h4, h5, h6, h7, h8, h9, h10⟩ := h
  exact ⟨⟨He.eqO_ok h1, He.eqO_ok h2, h3, h4, He.eqO_ok h5, He.eqO_ok h6, h7, h8⟩, h9, h10⟩
theorem ExcT.inj {cs : List Str} {K : PySem.W.Frag} {n n' : Str} (T : ExcT K cs n) (hn : n ∈ cs) (hn' : n' ∈ cs) (e : He.ga K n = He.ga K n') : n = n' := by
  have h1 := T.own n hn
  have h2 := T.own n' hn'
  rw [← e, h1] at h2
  have h3 : (n == n) = (n == n') := Option.some.inj h2
  have h4 : (n == n') = true := by rw [← h3]; exact beq_self_eq_true n
  exact eq_of_beq h4
/-! ### the law's def -/
section
variable {P : Program} {w : World} {K : PySem.W.Frag} [Tb K] {mg : Str → Option Value} {base : Heap} {x qual : Str} {params : Arguments} {body : List Stmt} {scope : Scope} {fd : FuncData}
/-- a def that makes lambdas: its code object is known -/
theorem fn_FL {N ps : List Str} {k : Nat} {m : SM} {p : Str × Option Str} (F : FunD K x qual params body scope [] [] (He.fAd K p) fd) (S : FnScope N ps scope)
    (h : ∀ {ι : Type} {X : ι → Cx} {W : WX}, Fam X P w K mg base k N scope.names (fun _ => true) W false → (∀ i, (X i).env.code = .ref (He.codeOf K p)) → (∀ i, (X i).env.qual = qual ++ ".<locals>.") → JB X K W body m) :
    FnG P w K mg base (L2.CX P w) (k + 1) (He.fAd K p) fd ps (SpF K ps.length (runF m N.length)) := by
  have len : ∀ vs H Q E, SpF K ps.length (runF m N.length) vs H Q E → vs.length = ps.length := fun vs H Q E z => by
    obtain ⟨F0, ds, _, _, r, hl, _⟩ := z
    rw [← r.length, hl]
  obtain ⟨oc, od, dV, kV, doc, pm, an, cdv, ct, osl, rfl, lk, hcd, _, _⟩ := F.ex
  obtain ⟨c, rfl⟩ := He.codeIn_ref hcd
  have hc := He.codeOf_eq (c := c) lk rfl
  refine ⟨len, fun A l s H args us vs Q E hr hg e0 hbi r z => LamX.run_ofS lk hcd S hr e0 hbi r (len _ _ _ _ z) fun hr' => ?_⟩
  obtain ⟨t, h1, h2⟩ := h (fam_def (P := P) (w := w) (K := K) (mg := mg) (base := base) (outer := l) (E := E) (H := H) (cdv := .ref c) (qual := qual) (f := He.fAd K p) S hr' hg) (fun _ => by rw [hc]; rfl) (fun _ => rfl)
  exact ⟨t, h1 (), spf_to h2 z⟩
/-- .. called by other defs -/
theorem def_FL {N ps : List Str} {k : Nat} {m : SM} {p : Str × Option Str} (F : FunD K x qual params body scope [] [] (He.fAd K p) fd) (S : FnScope N ps scope) (hm : mg x = some (.ref (He.fAd K p))) (hb : Binds K fd ps [])
    (h : ∀ {ι : Type} {X : ι → Cx} {W : WX}, Fam X P w K mg base k N scope.names (fun _ => true) W false → (∀ i, (X i).env.code = .ref (He.codeOf K p)) → (∀ i, (X i).env.qual = qual ++ ".<locals>.") → JB X K W body m) :
    Cal P w K mg base (k + 1) x (SpF K ps.length (runF m N.length)) := ⟨_, fd, ps, fn_FL F S h, hm, F.kp, hb⟩
/-- the script as a datum -/
theorem spf_law {f : List D → Rf D} {H : Hp} {a : Addr} {ns : List Int} (hT : ∀ p ∈ Tb.T K, H p.1 = some (.tbl #[])) (hS : SqL K H a (ns.map V.int)) (hl : ns.length ≤ sizeLine) (hf : f [.scr ns] = .ok (.bl true)) : SpF K 1 f [.ref a] H (fun v _ => v = .bl true) fun _ _ _ => False := by
  refine ⟨fun b => if b = a then (match H a with
    | some (.tbl _) => none
    | o => o) else none, [.scr ns], fun b o z => ?_, ⟨fun p hp => LamX.TabS.nil (hT p hp), fun b ps z => ?_⟩, .cons ?_ .nil, rfl, ?_⟩
  · have z' : (if b = a then (match H a with
      | some (.tbl _) => none
      | o => o) else none) = some o := z
    split at z'
    · subst b
      split at z'
      · cases z'
      · exact z'
    · cases z'
  · have z' : (if b = a then (match H a with
      | some (.tbl _) => none
      | o => o) else none) = some (.tbl ps) := z
    split at z'
    · split at z'
      · cases z'
      · rename_i hne
        exact hne ps z'
    · cases z'
  · refine .scr ?_ hl
    rcases hS with (h | ⟨o, h⟩) | h
    · refine .inl (.inl ?_)
      show (if a = a then _ else none) = _
      rw [if_pos rfl, h]
    · refine .inl (.inr ⟨o, ?_⟩)
      show (if a = a then _ else none) = _
      rw [if_pos rfl, h]
    · exact .inr h
  · rw [hf]
    intro v F' H' _ r
    cases r; rfl
end
end Pm

set_option Elab.async false
set_option linter.all false
set_option maxRecDepth 100000
set_option maxHeartbeats 2000000
/-! Pm16: evaluating the functions of data: expressions that leave the frame as it is; loops. -/
namespace Pm
open PySem PySem.Spec PyProof.Rows L2
abbrev Pu (m : EM) (ρ : DEnv) (d : D) : Prop := m ρ = .ok (.dat d) ρ
abbrev Pl (m : NM) (ρ : DEnv) (ds : List D) : Prop := m ρ = .ok ds ρ
abbrev Pa (m : AM) (ρ : DEnv) (ds : List D) : Prop := m ρ = .ok (ds.map Vl.dat) ρ
abbrev Pt (m : TM) (ρ : DEnv) (b : Bool) : Prop := m ρ = .ok b ρ
abbrev Pi (m : IM) (ρ : DEnv) (ds : List D) : Prop := m ρ = .ok ds ρ
section
variable {ρ ρ' : DEnv} {a b d z : D} {ds es : List D} {ma mb : EM} {mr : AM} {mn : NM} {f : D → D → Option D} {g : D → Option D} {h : List D → Option D} {F : List D → Rf D} {i n : Nat} {t u : TM}
theorem frzL_dat : ∀ ds : List D, frzL ρ (ds.map Vl.dat) = some (ds, ρ)
  | [] => rfl
  | d :: ds => by
    show (match frzL ρ (ds.map Vl.dat) with
      | some (es, ρ2) => some (d :: es, ρ2)
      | none => none) = _
    rw [frzL_dat ds]
theorem looks_dat : ∀ ds : List D, looks ρ (ds.map Vl.dat) = some ds
  | [] => rfl
  | d :: ds => by
    show (match some d, looks ρ (ds.map Vl.dat) with
      | some d, some ds => some (d :: ds)
      | _, _ => none) = _
    rw [looks_dat ds]
theorem pu_var (q : ρ[i]? = some (.dat d)) : Pu (mVar i) ρ d := by
  show (match ρ[i]? with
    | some (.dat d) => Rs.ok (Vl.dat d) ρ
    | some (.own _ _) => .ok (.own i) ρ
    | _ => .bad) = _
  rw [q]
theorem pu_c : Pu (mC d) ρ d := rfl
theorem pu_bin (pa : Pu ma ρ a) (pb : Pu mb ρ b) (q : f a b = some z) : Pu (mBin f ma mb) ρ z := by
  show (ma ρ).bind _ = _
  rw [pa]
  show (mb ρ).bind _ = _
  rw [pb]
  show (opt (f a b) ρ).bind _ = _
  rw [q]; rfl
theorem pu_un (pa : Pu ma ρ a) (q : g a = some z) : Pu (mUn g ma) ρ z := by
  show (ma ρ).bind _ = _
  rw [pa]
  show (opt (g a) ρ).bind _ = _
  rw [q]; rfl
theorem pa_nil' : Pa mNil ρ [] := rfl
theorem pa_cons' (pa : Pu ma ρ a) (pr : Pa mr ρ ds) : Pa (mCons ma mr) ρ (a :: ds) := by
  show (ma ρ).bind _ = _
  rw [pa]
  show (mr ρ).bind _ = _
  rw [pr]; rfl
theorem pu_cal (pr : Pa mr ρ ds) (q : h ds = some z) : Pu (mCal h mr) ρ z := by
  show (mr ρ).bind _ = _
  rw [pr]
  show (opt (looks ρ (ds.map Vl.dat)) ρ).bind _ = _
  rw [looks_dat]
  show (opt (h ds) ρ).bind _ = _
  rw [q]; rfl
theorem pu_call (pr : Pa mr ρ ds) (hn : ds.length = n) (q : F ds = .ok z) : Pu (mCallF n F mr) ρ z := by
  show (mr ρ).bind _ = _
  rw [pr]
  show (opt (frzL ρ (ds.map Vl.dat)) ρ).bind _ = _
  rw [frzL_dat]
  show callF n F ds ρ = _
  unfold callF
  rw [if_pos hn, q]
theorem pu_callX {x : Str} {o : Option (List Str × List D)} (pr : Pa mr ρ ds) (hn : ds.length = n) (q : F ds = .exc x o) : mCallF n F mr ρ = .exc x o ρ := by
  show (mr ρ).bind _ = _
  rw [pr]
  show (opt (frzL ρ (ds.map Vl.dat)) ρ).bind _ = _
  rw [frzL_dat]
  show callF n F ds ρ = _
  unfold callF
  rw [if_pos hn, q]
theorem pu_tup (pr : Pa mr ρ ds) (hl : ds.length ≤ 1000) : Pu (mTup mr) ρ (.tup ds) := by
  show (mr ρ).bind _ = _
  rw [pr]
  show (opt (frzL ρ (ds.map Vl.dat)) ρ).bind _ = _
  rw [frzL_dat]
  show (if ds.length ≤ 1000 then _ else _) = _
  rw [if_pos hl]
theorem pl_lst (pr : Pa mr ρ ds) (hl : ds.length ≤ 1000) : Pl (nLst mr) ρ ds := by
  show (mr ρ).bind _ = _
  rw [pr]
  show (opt (frzL ρ (ds.map Vl.dat)) ρ).bind _ = _
  rw [frzL_dat]
  show (if ds.length ≤ 1000 then _ else _) = _
  rw [if_pos hl]
theorem pu_new (p : Pl mn ρ ds) : Pu (mNew mn) ρ (.lst ds) := by
  show (mn ρ).bind _ = _
  rw [p]; rfl
theorem pu_lst (pr : Pa mr ρ ds) (hl : ds.length ≤ 1000) : Pu (mNew (nLst mr)) ρ (.lst ds) := pu_new (pl_lst pr hl)
theorem pu_bm {T : D → Bool} {G : D → List D → Option D} (pa : Pu ma ρ a) (hT : T a = true) (pr : Pa mr ρ ds) (q : G a ds = some z) : Pu (mBm T G ma mr) ρ z := by
  show (ma ρ).bind _ = _
  rw [pa]
  show (if T a = true then _ else _) = _
  rw [if_pos hT]
  show (mr ρ).bind _ = _
  rw [pr]
  show (opt (looks ρ (ds.map Vl.dat)) ρ).bind _ = _
  rw [looks_dat]
  show (opt (G a ds) ρ).bind _ = _
  rw [q]; rfl
theorem pu_sl {ml mh : PM} {lo hi : Option Int} (pa : Pu ma ρ a) (pl : ml ρ = .ok lo ρ) (ph : mh ρ = .ok hi ρ) (q : slD lo hi a = some z) : Pu (mSl ma ml mh) ρ z := by
  show (ma ρ).bind _ = _
  rw [pa]
  show (ml ρ).bind _ = _
  rw [pl]
  show (mh ρ).bind _ = _
  rw [ph]
  show (opt (slD lo hi a) ρ).bind _ = _
  rw [q]; rfl
theorem pu_st {kk : Int} {ml mh : PM} {lo hi : Option Int} (pa : Pu ma ρ a) (pl : ml ρ = .ok lo ρ) (ph : mh ρ = .ok hi ρ) (q : stepD kk lo hi a = some z) : Pu (mSt kk ma ml mh) ρ z := by
  show (ma ρ).bind _ = _
  rw [pa]
  show (ml ρ).bind _ = _
  rw [pl]
  show (mh ρ).bind _ = _
  rw [ph]
  show (opt (stepD kk lo hi a) ρ).bind _ = _
  rw [q]; rfl
theorem pp_no : pNo ρ = .ok none ρ := rfl
theorem pp_so {k : Int} (p : Pu ma ρ (.int k)) : pSo ma ρ = .ok (some k) ρ := by
  show (ma ρ).bind _ = _
  rw [p]; rfl
theorem pu_saidK {wd : Str → Option D} (p : Pu ma ρ a) : Pu (mSaid wd ma) ρ (.tup [.str "returned", a]) := by
  unfold Pu mSaid
  rw [p]; rfl
theorem pu_saidX {wd : Str → Option D} {x : Str} (p : ma ρ = .exc x none ρ) (q : wd x = some z) : Pu (mSaid wd ma) ρ z := by
  unfold Pu mSaid
  rw [p]
  show (opt (wd x) ρ).bind _ = _
  rw [q]; rfl
/-! tests -/
theorem pt_tst {k : Bool} (p : Pu ma ρ (.bl k)) : Pt (mTst ma) ρ k := by
  show (ma ρ).bind _ = _
  rw [p]; rfl
theorem pt_not' {k : Bool} (p : Pt t ρ k) : Pt (mNot t) ρ (!k) := by
  show (t ρ).bind _ = _
  rw [p]; rfl
theorem pt_orF {k : Bool} (p : Pt t ρ false) (q : Pt u ρ k) : Pt (mOr t u) ρ k := by
  show (t ρ).bind _ = _
  rw [p]; exact q
theorem pt_orT (p : Pt t ρ true) : Pt (mOr t u) ρ true := by
  show (t ρ).bind _ = _
  rw [p]; rfl
theorem pt_andT {k : Bool} (p : Pt t ρ true) (q : Pt u ρ k) : Pt (mAnd t u) ρ k := by
  show (t ρ).bind _ = _
  rw [p]; exact q
theorem pt_andF (p : Pt t ρ false) : Pt (mAnd t u) ρ false := by
  show (t ρ).bind _ = _
  rw [p]; rfl
/-! what is walked -/
theorem pi_it (p : Pu ma ρ a) (q : itm a = some ds) : Pi (mIt ma) ρ ds := by
  show (ma ρ).bind _ = _
  rw [p]
  show (opt (itm a) ρ).bind _ = _
  rw [q]; rfl
theorem pi_rng (pr : Pa mr ρ ds) (q : rngD ds = some es) : Pi (mRng mr) ρ es := by
  show (mr ρ).bind _ = _
  rw [pr]
  show (opt (looks ρ (ds.map Vl.dat)) ρ).bind _ = _
  rw [looks_dat]
  show (opt (rngD ds) ρ).bind _ = _
  rw [q]; rfl
theorem pi_enum' (p : Pu ma ρ (.lst ds)) : Pi (mEnum (mCons ma mNil)) ρ (enumFrom 0 ds) := by
  show ((ma ρ).bind fun x ρ1 => (mNil ρ1).bind fun xs ρ2 => Rs.ok (x :: xs) ρ2).bind _ = _
  rw [p]; rfl
/-! comprehensions that leave the frame -/
theorem lc_loop {me : EM} {j : Nat} {G : D → D} (hj : j < ρ.length) : ∀ (ds acc : List D) (ρ' : DEnv), (∀ x, ρ'.set j x = ρ.set j x) → ρ'.length = ρ.length → (∀ d ∈ ds, Pu me (ρ.set j (.dat d)) (G d)) →
    ∃ ρ'', loopC (gN j) mYes me [j] ds acc ρ' = .ok (acc ++ ds.map G) ρ'' ∧ ∀ x, ρ''.set j x = ρ.set j x
  | [], acc, ρ', hs, hl, _ => ⟨ρ', by simp [loopC], hs⟩
  | d :: ds, acc, ρ', hs, hl, he => by
    have e1 : wipeD ρ' [j] = ρ.set j .un := hs _
    have e2 : gN j d (ρ.set j .un) = .ok () (ρ.set j (.dat d)) := by
      unfold gN
      rw [if_pos (by rw [List.length_set]; exact hj), List.set_set]
    have e3 := he d List.mem_cons_self
    obtain ⟨ρ2, h1, h2⟩ := lc_loop (me := me) (G := G) hj ds (acc ++ [G d]) (ρ.set j (.dat d)) (fun x => List.set_set ..) (by rw [List.length_set]) fun e he' => he e (List.mem_cons_of_mem _ he')
    refine ⟨ρ2, ?_, h2⟩
    unfold loopC
    rw [e1, e2]
    show ((nox (me (ρ.set j (.dat d)))).bind fun x ρ3 => (opt (frz ρ3 x) ρ3).bind fun p _ => loopC (gN j) mYes me [j] ds (acc ++ [p.1]) p.2) = _
    rw [show me (ρ.set j (.dat d)) = _ from e3]
    show loopC (gN j) mYes me [j] ds (acc ++ [G d]) (ρ.set j (.dat d)) = _
    rw [h1, List.append_assoc]; rfl
theorem pl_lc {mi : IM} {me : EM} {j : Nat} {G : D → D} (hi : Pi mi ρ ds) (he : ∀ d ∈ ds, Pu me (ρ.set j (.dat d)) (G d)) (hj : j < ρ.length) (ho : noOwn ρ [j] = true) (hl : ds.length ≤ 16777216) : Pl (nLc mi (gN j) mYes me [j]) ρ (ds.map G) := by
  obtain ⟨ρ2, h1, h2⟩ := lc_loop (me := me) (G := G) hj ds [] ρ (fun _ => rfl) rfl he
  show (mi ρ).bind _ = _
  rw [hi]
  show (if (noOwn ρ [j] && decide (ds.length ≤ sizeLine)) = true then (nox (loopC (gN j) mYes me [j] ds [] ρ)).bind fun acc ρ2 => Rs.ok acc (backD ρ ρ2 [j]) else _) = _
  rw [if_pos (by rw [ho, decide_eq_true (by rw [sizeLine_eq]; exact hl)]; rfl), h1]
  show Rs.ok ([] ++ ds.map G) (ρ2.set j (ρ[j]?.getD .un)) = _
  rw [h2, List.nil_append]
  congr 1
  apply List.ext_getElem?
  intro k
  by_cases e : j = k
  · subst e
    rw [List.getElem?_set_self hj, List.getElem?_eq_getElem hj]; rfl
  · rw [List.getElem?_set_ne e]
/-! statements -/
theorem s_asg (p : Pu ma ρ a) (hi : i < ρ.length) : sAsg ma (gN i) ρ = .ok .nx (ρ.set i (.dat a)) := by
  show (ma ρ).bind _ = _
  rw [p]
  show (gN i a ρ).bind _ = _
  unfold gN
  rw [if_pos hi]; rfl
theorem s_seq {x y : SM} {r : Rs Flo} (p : x ρ = .ok .nx ρ') (q : y ρ' = r) : sSeq x y ρ = r := by
  show (x ρ).bind _ = _
  rw [p]; exact q
theorem s_ifT {x y : SM} {r : Rs Flo} (p : Pt t ρ true) (q : x ρ = r) : sIf t x y ρ = r := by
  show (t ρ).bind _ = _
  rw [p]; exact q
theorem s_ifF {x y : SM} {r : Rs Flo} (p : Pt t ρ false) (q : y ρ = r) : sIf t x y ρ = r := by
  show (t ρ).bind _ = _
  rw [p]; exact q
theorem s_ret (p : Pu ma ρ a) : sRet ma ρ = .ok (.rt a) ρ := by
  show (ma ρ).bind _ = _
  rw [p]; rfl
theorem s_par {k : Nat} (pr : Pa mr ρ [a, b]) (hi : i < ρ.length) (hk : k < ρ.length) : sPar i k mr ρ = .ok .nx ((ρ.set i (.dat a)).set k (.dat b)) := by
  show (mr ρ).bind _ = _
  rw [pr]
  simp only [Rs.bind, frzL_dat, opt]
  rw [if_pos ⟨hi, hk⟩]
theorem s_for1 {mi : IM} {mg : GM} {mb : SM} {r : Rs Flo} (p : Pi mi ρ ds) (q : loopF mg mb ds ρ = r) : sFor mi mg mb ρ = r := by
  show (mi ρ).bind _ = _
  rw [p]; exact q
theorem runF_ok {m : SM} {N : Nat} (q : m (ent N (ds.map .dat)) = .ok (.rt d) ρ) : runF m N ds = .ok d := by
  unfold runF
  rw [q]
theorem s_new (p : mn ρ = .ok ds ρ') (hi : i < ρ'.length) : sNew mn i ρ = .ok .nx (ρ'.set i (.own false ds)) := by
  show (mn ρ).bind _ = _
  rw [p]
  show (if i < ρ'.length then _ else _) = _
  rw [if_pos hi]
theorem pl_call {n : Nat} {G : List D → Rf (List D)} (pr : Pa mr ρ ds) (hn : ds.length = n) (q : G ds = .ok es) : Pl (nCall n G mr) ρ es := by
  show (mr ρ).bind _ = _
  rw [pr]
  show (opt (frzL ρ (ds.map Vl.dat)) ρ).bind _ = _
  rw [frzL_dat]
  show callN n G ds ρ = _
  unfold callN
  rw [if_pos hn, q]
/-- a loop with an invariant -/
theorem loop_inv {mg : GM} {mb : SM} (I : DEnv → Prop) : ∀ ds : List D, (∀ d ∈ ds, ∀ ρ, I ρ → ∃ ρ1 ρ2, mg d ρ = .ok () ρ1 ∧ mb ρ1 = .ok .nx ρ2 ∧ I ρ2) → ∀ ρ, I ρ → ∃ ρ', loopF mg mb ds ρ = .ok .nx ρ' ∧ I ρ'
  | [], _, ρ, h => ⟨ρ, rfl, h⟩
  | d :: ds, st, ρ, h => by
    obtain ⟨ρ1, ρ2, e1, e2, h2⟩ := st d List.mem_cons_self ρ h
    obtain ⟨ρ3, e3, h3⟩ := loop_inv I ds (fun e he => st e (List.mem_cons_of_mem _ he)) ρ2 h2
    refine ⟨ρ3, ?_, h3⟩
    unfold loopF
    rw [e1]
    show (mb ρ1).bind _ = _
    rw [e2]
    exact e3
theorem s_for {mi : IM} {mg : GM} {mb : SM} (p : Pi mi ρ ds) (I : DEnv → Prop) (h0 : I ρ) (st : ∀ d ∈ ds, ∀ ρ, I ρ → ∃ ρ1 ρ2, mg d ρ = .ok () ρ1 ∧ mb ρ1 = .ok .nx ρ2 ∧ I ρ2) : ∃ ρ', sFor mi mg mb ρ = .ok .nx ρ' ∧ I ρ' := by
  obtain ⟨ρ2, e, h⟩ := loop_inv I ds st ρ h0
  refine ⟨ρ2, ?_, h⟩
  show (mi ρ).bind _ = _
  rw [p]; exact e
end
theorem enum_mem : ∀ (i : Nat) (ds : List D) (d : D), d ∈ enumFrom i ds → ∃ (j : Nat) (e : D), d = .tup [.int ((i + j : Nat) : Int), e] ∧ ds[j]? = some e
  | _, [], _, h => by cases h
  | i, x :: ds, d, h => by
    rcases List.mem_cons.mp h with rfl | h
    · exact ⟨0, x, rfl, rfl⟩
    · obtain ⟨j, e, rfl, he⟩ := enum_mem (i + 1) ds d h
      exact ⟨j + 1, e, by rw [show i + 1 + j = i + (j + 1) by omega], by simpa using he⟩
theorem ix_at {ds : List D} {j : Nat} {e : D} (h : ds[j]? = some e) : ixD (.lst ds) (.int (j : Nat)) = some e := by
  have hj : j < ds.length := (List.getElem?_eq_some_iff.mp h).1
  show atI ds (j : Nat) = _
  unfold atI ixN
  rw [if_pos (by omega), if_pos (by omega)]
  simpa using h
end Pm

set_option Elab.async false
set_option linter.all false
set_option maxRecDepth 100000
set_option maxHeartbeats 4000000
namespace Pm
open PySem PySem.Spec PyProof.Rows L2
def retOf (st : Stmt) : Expr := match defBody st with
  | [.Return (some e) _] => e
  | _ => .Tuple [] 0 ⟨0, 0, 0, 0⟩
def saidSuite (st : Stmt) : List Stmt := match defBody st with
  | [.Try _ [.ExceptHandler _ _ l _] _ _ _] => l
  | _ => []
/-! printed by gen.py for law_k92_keys_as_bytes -/
def top (i : Nat) : Stmt := PySem.Challenge.pw_rowclash_k92_keys_as_bytes.main.body.getD i (.Pass ⟨0, 0, 0, 0⟩)
abbrev s_is_integer : Stmt := top 29
abbrev n_is_integer : List Str := ["thing"]
theorem sc_is_integer : FnScope n_is_integer ["thing"] (defScope s_is_integer) := C8.fnScope_by (by kernel_rfl)
def m_is_integer : SM := (sRet (mAndV (mCal isiD (mCons (mVar 0) (mCons (mC (.ty "int")) mNil))) (mNotV (mCal isiD (mCons (mVar 0) (mCons (mC (.ty "bool")) mNil))))))
def f_is_integer := runF (m_is_integer) 1
theorem b_is_integer {P : Program} {w : World} {K : PySem.W.Frag} [Tb K] {mg : Str → Option Value} {base : Heap} (g_bool : mg "bool" = none) (g_isinstance : mg "isinstance" = none) (g_int : mg "int" = none) {ι : Type} {X : ι → Cx} {W : WX} (c : Fam X P w K mg base 0 n_is_integer (defScope s_is_integer).names (fun _ => true) W false) : JB X K W (defBody s_is_integer) (m_is_integer) :=
    (jOne (jRet (jVAnd (jBlt c (bIsi c) g_isinstance (jCons (jVar c 0) (jCons (jTy c g_int) jNil))) (jVOne (jVNot (jBlt c (bIsi c) g_isinstance (jCons (jVar c 0) (jCons (jTy c g_bool) jNil))))))))
abbrev s_is_key : Stmt := top 30
abbrev n_is_key : List Str := ["thing"]
theorem sc_is_key : FnScope n_is_key ["thing"] (defScope s_is_key) := C8.fnScope_by (by kernel_rfl)
def m_is_key : SM := (sRet (mAndV (mCallF 1 f_is_integer (mCons (mVar 0) mNil)) (mChain ltA ltA (mUn negD (mC (.int 1000000000000000000000000000000))) (mVar 0) (mC (.int 1000000000000000000000000000000)))))
def f_is_key := runF (m_is_key) 1
theorem b_is_key {P : Program} {w : World} {K : PySem.W.Frag} [Tb K] {mg : Str → Option Value} {base : Heap} (i_KEY_BOUND : ∃ t, mg "KEY_BOUND" = some (.int 1000000000000000000000000000000 t)) (C_is_integer : Cal P w K mg base 1 "is_integer" (SpF K 1 f_is_integer)) {ι : Type} {X : ι → Cx} {W : WX} (c : Fam X P w K mg base 1 n_is_key (defScope s_is_key).names (fun _ => true) W false) : JB X K W (defBody s_is_key) (m_is_key) :=
    (jOne (jRet (jVAnd (jCall c C_is_integer (jCons (jVar c 0) jNil)) (jVOne (jC2 cLtA cLtA (jNeg c (jGI c i_KEY_BOUND)) (jVar c 0) (jGI c i_KEY_BOUND))))))
abbrev s_key_bytes : Stmt := top 33
abbrev n_key_bytes : List Str := ["key"]
theorem sc_key_bytes : FnScope n_key_bytes ["key"] (defScope s_key_bytes) := C8.fnScope_by (by kernel_rfl)
def m_key_bytes : SM := (sSeq (sIf (mNot (mTst (mCallF 1 f_is_key (mCons (mVar 0) mNil)))) (sRz "NotKey") sNx)
  (sRet (mBm isInt tbD (mBin addD (mVar 0) (mC (.int 1000000000000000000000000000000))) (mCons (mC (.int 13)) (mCons (mC (.str "big")) mNil)))))
def f_key_bytes := runF (m_key_bytes) 1
theorem b_key_bytes {P : Program} {w : World} {K : PySem.W.Frag} [Tb K] {mg : Str → Option Value} {base : Heap} (i_KEY_BOUND : ∃ t, mg "KEY_BOUND" = some (.int 1000000000000000000000000000000 t)) (C_is_key : Cal P w K mg base 2 "is_key" (SpF K 1 f_is_key)) (x_NotKey : ExcF K mg "NotKey") {ι : Type} {X : ι → Cx} {W : WX} (c : Fam X P w K mg base 2 n_key_bytes (defScope s_key_bytes).names (fun _ => true) W false) : JB X K W (defBody s_key_bytes) (m_key_bytes) :=
    (jSeq (jIf (jNot (jTst (jCall c C_is_key (jCons (jVar c 0) jNil)))) (jOne (jRz c x_NotKey)) jEnd)
      (jOne (jRet (jBm c bmTb (jAdd c (jVar c 0) (jGI c i_KEY_BOUND)) (jCons (jInt c) (jCons (jStr c) jNil))))))
abbrev s_bytes_key : Stmt := top 34
abbrev n_bytes_key : List Str := ["data", "key"]
theorem sc_bytes_key : FnScope n_bytes_key ["data"] (defScope s_bytes_key) := C8.fnScope_by (by kernel_rfl)
def m_bytes_key : SM := (sSeq (sIf (mOr (mNot (mTst (mCal isiD (mCons (mVar 0) (mCons (mC (.ty "bytes")) mNil))))) (mTst (mBin neD (mCal lenD (mCons (mVar 0) mNil)) (mC (.int 13))))) (sRz "NotBytes") sNx)
  (sSeq (sAsg (mBin subD (mFb (mCons (mVar 0) (mCons (mC (.str "big")) mNil))) (mC (.int 1000000000000000000000000000000))) (gN 1))
  (sSeq (sIf (mNot (mTst (mCallF 1 f_is_key (mCons (mVar 1) mNil)))) (sRz "NotBytes") sNx)
  (sRet (mVar 1)))))
def f_bytes_key := runF (m_bytes_key) 2
theorem b_bytes_key {P : Program} {w : World} {K : PySem.W.Frag} [Tb K] {mg : Str → Option Value} {base : Heap} (C_is_key : Cal P w K mg base 2 "is_key" (SpF K 1 f_is_key)) (x_NotBytes : ExcF K mg "NotBytes") (g_int : mg "int" = none) (i_KEY_BOUND : ∃ t, mg "KEY_BOUND" = some (.int 1000000000000000000000000000000 t)) (g_len : mg "len" = none) (i_KEY_SIZE : ∃ t, mg "KEY_SIZE" = some (.int 13 t)) (g_bytes : mg "bytes" = none) (g_isinstance : mg "isinstance" = none) {ι : Type} {X : ι → Cx} {W : WX} (c : Fam X P w K mg base 2 n_bytes_key (defScope s_bytes_key).names (fun _ => true) W false) : JB X K W (defBody s_bytes_key) (m_bytes_key) :=
    (jSeq (jIf (jW (jOr (jNot (jTst (jBlt c (bIsi c) g_isinstance (jCons (jVar c 0) (jCons (jTy c g_bytes) jNil))))) (jOr1 (jCT (cNe c) (jBlt c (bLen c) g_len (jCons (jVar c 0) jNil)) (jGI c i_KEY_SIZE))))) (jOne (jRz c x_NotBytes)) jEnd)
      (jSeq (jSet c 1 (jSub c (jFb c g_int (jCons (jVar c 0) (jCons (jStr c) jNil))) (jGI c i_KEY_BOUND)))
      (jSeq (jIf (jNot (jTst (jCall c C_is_key (jCons (jVar c 1) jNil)))) (jOne (jRz c x_NotBytes)) jEnd)
      (jOne (jRet (jVar c 1))))))
abbrev s_law_cell_at : Stmt := top 36
abbrev n_law_cell_at : List Str := ["_law_script", "_law_k"]
theorem sc_law_cell_at : FnScope n_law_cell_at ["_law_script", "_law_k"] (defScope s_law_cell_at) := C8.fnScope_by (by kernel_rfl)
def m_law_cell_at : SM := (sSeq (sIf (mTst (mBin ltA (mVar 1) (mCal lenD (mCons (mVar 0) mNil)))) (sRet (mBin ixD (mVar 0) (mVar 1))) sNx)
  (sRet (mC (.int 0))))
def f_law_cell_at := runF (m_law_cell_at) 2
theorem b_law_cell_at {P : Program} {w : World} {K : PySem.W.Frag} [Tb K] {mg : Str → Option Value} {base : Heap} (g_len : mg "len" = none) {ι : Type} {X : ι → Cx} {W : WX} (c : Fam X P w K mg base 0 n_law_cell_at (defScope s_law_cell_at).names (fun _ => true) W false) : JB X K W (defBody s_law_cell_at) (m_law_cell_at) :=
    (jSeq (jIf (jCT cLtA (jVar c 1) (jBlt c (bLen c) g_len (jCons (jVar c 0) jNil))) (jOne (jRet (jIx c (jVar c 0) (jVar c 1)))) jEnd)
      (jOne (jRet (jInt c))))
abbrev s_law_pen : Stmt := top 37
abbrev n_law_pen : List Str := ["_law_cell"]
theorem sc_law_pen : FnScope n_law_pen ["_law_cell"] (defScope s_law_pen) := C8.fnScope_by (by kernel_rfl)
def m_law_pen : NM := (nLst (mCons (mCal maxD (mCons (mC (.int 0)) (mCons (mBin subD (mVar 0) (mBin powD (mC (.int 10)) (mC (.int 18)))) mNil))) (mCons (mBin modD (mCal int1D (mCons (mVar 0) mNil)) (mC (.int 2147483629))) (mCons (mC (.int 1)) mNil))))
def f_law_pen := runN (m_law_pen) 1
theorem b_law_pen {P : Program} {w : World} {K : PySem.W.Frag} [Tb K] {mg : Str → Option Value} {base : Heap} (g_int : mg "int" = none) (g_max : mg "max" = none) {ι : Type} {X : ι → Cx} {W : WX} (c : Fam X P w K mg base 0 n_law_pen (defScope s_law_pen).names (fun _ => true) W false) : JN X K W (retOf s_law_pen) m_law_pen :=
    (jLst (jCons (jBlt c (bMax c) g_max (jCons (jInt c) (jCons (jSub c (jVar c 0) (jPow c (jInt c) (jInt c))) jNil))) (jCons (jMod c (jTyC c (bInt1 c) g_int (jCons (jVar c 0) jNil)) (jInt c)) (jCons (jInt c) jNil))))
abbrev s_law_draw : Stmt := top 38
abbrev n_law_draw : List Str := ["_law_pen_here", "_law_many", "_law_stirred", "_law_digit"]
theorem sc_law_draw : FnScope n_law_draw ["_law_pen_here", "_law_many"] (defScope s_law_draw) := C8.fnScope_by (by kernel_rfl)
def m_law_draw : SM := (sSeq (sIf (mTst (mBin gtD (mBin ixD (mVar 0) (mC (.int 0))) (mC (.int 0)))) (sSeq (sAsg (mBin modD (mCal int1D (mCons (mBin ixD (mVar 0) (mC (.int 0))) mNil)) (mVar 1)) (gN 3))
  (sSeq (sSetI 0 (mC (.int 0)) (mBin fdivD (mBin ixD (mVar 0) (mC (.int 0))) (mVar 1)))
  (sRet (mVar 3)))) sNx)
  (sSeq (sSetI 0 (mC (.int 2)) (mBin addD (mBin ixD (mVar 0) (mC (.int 2))) (mC (.int 1))))
  (sSeq (sSetI 0 (mC (.int 1)) (mBin modD (mCal int1D (mCons (mBin addD (mBin addD (mBin mulD (mBin ixD (mVar 0) (mC (.int 1))) (mC (.int 48271))) (mBin mulD (mC (.int 7919)) (mBin ixD (mVar 0) (mC (.int 2))))) (mC (.int 11))) mNil)) (mC (.int 2147483647))))
  (sSeq (sAsg (mBin modD (mCal int1D (mCons (mBin addD (mBin addD (mBin mulD (mBin ixD (mVar 0) (mC (.int 1))) (mBin ixD (mVar 0) (mC (.int 1)))) (mBin mulD (mC (.int 40014)) (mBin ixD (mVar 0) (mC (.int 1))))) (mBin ixD (mVar 0) (mC (.int 2)))) mNil)) (mC (.int 2147483563))) (gN 2))
  (sRet (mBin modD (mCal int1D (mCons (mBin fdivD (mBin modD (mCal int1D (mCons (mBin mulD (mVar 2) (mC (.int 16807))) mNil)) (mC (.int 2147483647))) (mC (.int 64))) mNil)) (mVar 1)))))))
def f_law_draw := runO (m_law_draw) 4
theorem b_law_draw {P : Program} {w : World} {K : PySem.W.Frag} [Tb K] {mg : Str → Option Value} {base : Heap} (g_int : mg "int" = none) {ι : Type} {X : ι → Cx} {W : WX} (c : Fam X P w K mg base 0 n_law_draw (defScope s_law_draw).names (fun _ => true) W false) : JB X K W (defBody s_law_draw) (m_law_draw) :=
    (jSeq (jIf (jCT cGt (jIx c (jVar c 0) (jInt c)) (jInt c)) (jSeq (jSet c 3 (jMod c (jTyC c (bInt1 c) g_int (jCons (jIx c (jVar c 0) (jInt c)) jNil)) (jVar c 1)))
      (jSeq (jSetI c 0 (jInt c) (jFdiv c (jIx c (jVar c 0) (jInt c)) (jVar c 1)))
      (jOne (jRet (jVar c 3))))) jEnd)
      (jSeq (jSetI c 0 (jInt c) (jAdd c (jIx c (jVar c 0) (jInt c)) (jInt c)))
      (jSeq (jSetI c 0 (jInt c) (jMod c (jTyC c (bInt1 c) g_int (jCons (jAdd c (jAdd c (jMul c (jIx c (jVar c 0) (jInt c)) (jInt c)) (jMul c (jInt c) (jIx c (jVar c 0) (jInt c)))) (jInt c)) jNil)) (jInt c)))
      (jSeq (jSet c 2 (jMod c (jTyC c (bInt1 c) g_int (jCons (jAdd c (jAdd c (jMul c (jIx c (jVar c 0) (jInt c)) (jIx c (jVar c 0) (jInt c))) (jMul c (jInt c) (jIx c (jVar c 0) (jInt c)))) (jIx c (jVar c 0) (jInt c))) jNil)) (jInt c)))
      (jOne (jRet (jMod c (jTyC c (bInt1 c) g_int (jCons (jFdiv c (jMod c (jTyC c (bInt1 c) g_int (jCons (jMul c (jVar c 2) (jInt c)) jNil)) (jInt c)) (jInt c)) jNil)) (jVar c 1))))))))
abbrev s_law_pick : Stmt := top 39
abbrev n_law_pick : List Str := ["_law_pen_here", "_law_things_here"]
theorem sc_law_pick : FnScope n_law_pick ["_law_pen_here", "_law_things_here"] (defScope s_law_pick) := C8.fnScope_by (by kernel_rfl)
def m_law_pick : SM := (sRet (mBin ixD (mVar 1) (mCallO 2 f_law_draw (mCons (mVar 0) (mCons (mCal lenD (mCons (mVar 1) mNil)) mNil)))))
def f_law_pick := runO (m_law_pick) 2
theorem b_law_pick {P : Program} {w : World} {K : PySem.W.Frag} [Tb K] {mg : Str → Option Value} {base : Heap} (C_law_draw : Cal P w K mg base 1 "_law_draw" (SpO K 2 f_law_draw)) (g_len : mg "len" = none) {ι : Type} {X : ι → Cx} {W : WX} (c : Fam X P w K mg base 1 n_law_pick (defScope s_law_pick).names (fun _ => true) W false) : JB X K W (defBody s_law_pick) (m_law_pick) :=
    (jOne (jRet (jIx c (jVar c 1) (jCallO c C_law_draw (jCons (jVar c 0) (jCons (jBlt c (bLen c) g_len (jCons (jVar c 1) jNil)) jNil))))))
abbrev s_law_things : Stmt := top 40
abbrev n_law_things : List Str := ["_law_found"]
theorem sc_law_things : FnScope n_law_things [] (defScope s_law_things) := C8.fnScope_by (by kernel_rfl)
def m_law_things : SM := (sSeq (sAsg (mNew (nLst (mCons (mC .non) (mCons (mC (.bl true)) (mCons (mC (.bl false)) (mCons (mC (.str "")) (mCons (mC (.str "1")) (mCons (mC (.str "none")) (mCons (mTup mNil) (mCons (mNew (nLst mNil)) (mCons mDic0 (mCons (mTup (mCons (mC (.int 1)) mNil)) (mCons (mNew (nLst (mCons (mC (.int 1)) mNil))) (mCons (mDic1 (.inl 1) (.int 1)) (mCons (mTup (mCons (mC .non) mNil)) (mCons (mTup (mCons (mTup (mCons (mC (.int 1)) (mCons (mC (.int 2)) mNil))) mNil)) (mCons (mNew (nLst (mCons (mTup (mCons (mC (.int 1)) (mCons (mC (.int 2)) mNil))) mNil))) (mCons (mTup (mCons (mC (.str "1")) mNil)) mNil)))))))))))))))))) (gN 0))
  (sRet (mBin addD (mVar 0) (mNew (nLst (mCons (mTup (mCons (mC (.int 1)) (mCons (mC (.bl true)) mNil))) (mCons (mTup (mCons (mC (.bl true)) mNil)) (mCons (mTup (mCons (mNew (nLst (mCons (mC (.int 1)) mNil))) mNil)) (mCons (mC (.str "1>2")) mNil)))))))))
def f_law_things := runF (m_law_things) 1
theorem b_law_things {P : Program} {w : World} {K : PySem.W.Frag} [Tb K] {mg : Str → Option Value} {base : Heap}  {ι : Type} {X : ι → Cx} {W : WX} (c : Fam X P w K mg base 0 n_law_things (defScope s_law_things).names (fun _ => true) W false) : JB X K W (defBody s_law_things) (m_law_things) :=
    (jSeq (jSet c 0 (jNew (jLst (jCons (jNon c) (jCons (jBl c) (jCons (jBl c) (jCons (jStr c) (jCons (jStr c) (jCons (jStr c) (jCons (jTup jNil) (jCons (jNew (jLst jNil)) (jCons (jDic0) (jCons (jTup (jCons (jInt c) jNil)) (jCons (jNew (jLst (jCons (jInt c) jNil))) (jCons (jDic1 (.inl 1) jcInt jcInt) (jCons (jTup (jCons (jNon c) jNil)) (jCons (jTup (jCons (jTup (jCons (jInt c) (jCons (jInt c) jNil))) jNil)) (jCons (jNew (jLst (jCons (jTup (jCons (jInt c) (jCons (jInt c) jNil))) jNil))) (jCons (jTup (jCons (jStr c) jNil)) jNil)))))))))))))))))))
      (jOne (jRet (jAdd c (jVar c 0) (jNew (jLst (jCons (jTup (jCons (jInt c) (jCons (jBl c) jNil))) (jCons (jTup (jCons (jBl c) jNil)) (jCons (jTup (jCons (jNew (jLst (jCons (jInt c) jNil))) jNil)) (jCons (jStr c) jNil))))))))))
abbrev s_law_word : Stmt := top 41
abbrev n_law_word : List Str := ["_law_e", "_law_some", "_law_words"]
theorem sc_law_word : FnScope n_law_word ["_law_e"] (defScope s_law_word) := C8.fnScope_by (by kernel_rfl)
def ecls : List Str := ["NotRow", "NotTable", "NotKey", "NotKeys", "NotRows", "NotOrder", "NotRule", "NotInteger", "NotScan", "NotBound", "NotFormula", "NotDeed", "NotText", "NotBytes", "NotLine", "Missing", "Impossible", "TooLarge", "NothingDone", "Twice", "Held", "TooMany", "Competing", "Ringed", "Collision"]
def m_law_word (ax : Addr) (nx : Str) : SM := (sSeq (sAsg (mNew (nLst (mCons (mCal (isEDc ecls ax nx) (mCons (mVar 0) (mCons (mC (.cls "NotRow")) mNil))) (mCons (mCal (isEDc ecls ax nx) (mCons (mVar 0) (mCons (mC (.cls "NotTable")) mNil))) (mCons (mCal (isEDc ecls ax nx) (mCons (mVar 0) (mCons (mC (.cls "NotKey")) mNil))) (mCons (mCal (isEDc ecls ax nx) (mCons (mVar 0) (mCons (mC (.cls "NotKeys")) mNil))) (mCons (mCal (isEDc ecls ax nx) (mCons (mVar 0) (mCons (mC (.cls "NotRows")) mNil))) (mCons (mCal (isEDc ecls ax nx) (mCons (mVar 0) (mCons (mC (.cls "NotOrder")) mNil))) mNil)))))))) (gN 1))
  (sSeq (sAsg (mBin addD (mVar 1) (mNew (nLst (mCons (mCal (isEDc ecls ax nx) (mCons (mVar 0) (mCons (mC (.cls "NotRule")) mNil))) (mCons (mCal (isEDc ecls ax nx) (mCons (mVar 0) (mCons (mC (.cls "NotInteger")) mNil))) (mCons (mCal (isEDc ecls ax nx) (mCons (mVar 0) (mCons (mC (.cls "NotScan")) mNil))) (mCons (mCal (isEDc ecls ax nx) (mCons (mVar 0) (mCons (mC (.cls "NotBound")) mNil))) (mCons (mCal (isEDc ecls ax nx) (mCons (mVar 0) (mCons (mC (.cls "NotFormula")) mNil))) (mCons (mCal (isEDc ecls ax nx) (mCons (mVar 0) (mCons (mC (.cls "NotDeed")) mNil))) mNil))))))))) (gN 1))
  (sSeq (sAsg (mBin addD (mVar 1) (mNew (nLst (mCons (mCal (isEDc ecls ax nx) (mCons (mVar 0) (mCons (mC (.cls "NotText")) mNil))) (mCons (mCal (isEDc ecls ax nx) (mCons (mVar 0) (mCons (mC (.cls "NotBytes")) mNil))) (mCons (mCal (isEDc ecls ax nx) (mCons (mVar 0) (mCons (mC (.cls "NotLine")) mNil))) (mCons (mCal (isEDc ecls ax nx) (mCons (mVar 0) (mCons (mC (.cls "Missing")) mNil))) (mCons (mCal (isEDc ecls ax nx) (mCons (mVar 0) (mCons (mC (.cls "Impossible")) mNil))) (mCons (mCal (isEDc ecls ax nx) (mCons (mVar 0) (mCons (mC (.cls "TooLarge")) mNil))) mNil))))))))) (gN 1))
  (sSeq (sAsg (mBin addD (mVar 1) (mNew (nLst (mCons (mCal (isEDc ecls ax nx) (mCons (mVar 0) (mCons (mC (.cls "NothingDone")) mNil))) (mCons (mCal (isEDc ecls ax nx) (mCons (mVar 0) (mCons (mC (.cls "Twice")) mNil))) (mCons (mCal (isEDc ecls ax nx) (mCons (mVar 0) (mCons (mC (.cls "Held")) mNil))) (mCons (mCal (isEDc ecls ax nx) (mCons (mVar 0) (mCons (mC (.cls "TooMany")) mNil))) (mCons (mCal (isEDc ecls ax nx) (mCons (mVar 0) (mCons (mC (.cls "Competing")) mNil))) (mCons (mCal (isEDc ecls ax nx) (mCons (mVar 0) (mCons (mC (.cls "Ringed")) mNil))) (mCons (mCal (isEDc ecls ax nx) (mCons (mVar 0) (mCons (mC (.cls "Collision")) mNil))) mNil)))))))))) (gN 1))
  (sSeq (sAsg (mNew (nLst (mCons (mC (.str "row")) (mCons (mC (.str "table")) (mCons (mC (.str "key")) (mCons (mC (.str "keys")) (mCons (mC (.str "rows")) (mCons (mC (.str "order")) (mCons (mC (.str "rule")) (mCons (mC (.str "integer")) (mCons (mC (.str "scan")) (mCons (mC (.str "bound")) (mCons (mC (.str "formula")) (mCons (mC (.str "deed")) (mCons (mC (.str "text")) mNil))))))))))))))) (gN 2))
  (sSeq (sAsg (mBin addD (mVar 2) (mNew (nLst (mCons (mC (.str "bytes")) (mCons (mC (.str "line")) (mCons (mC (.str "missing")) (mCons (mC (.str "impossible")) (mCons (mC (.str "large")) (mCons (mC (.str "nothing")) (mCons (mC (.str "twice")) (mCons (mC (.str "held")) (mCons (mC (.str "many")) (mCons (mC (.str "competing")) (mCons (mC (.str "ringed")) (mCons (mC (.str "collision")) mNil))))))))))))))) (gN 2))
  (sSeq (sIf (mOr (mTst (mBin neD (mBm isLst countD (mVar 1) (mCons (mC (.bl true)) mNil)) (mC (.int 1)))) (mNot (mTst (mCal (isEDc ecls ax nx) (mCons (mVar 0) (mCons (mC (.ty "ValueError")) mNil)))))) (sRet (mC (.str "other"))) sNx)
  (sRet (mBin ixD (mVar 2) (mBm isLst indexD (mVar 1) (mCons (mC (.bl true)) mNil)))))))))))
theorem b_law_word {P : Program} {w : World} {K : PySem.W.Frag} [Tb K] {mg : Str → Option Value} {base : Heap} {ax : Addr} {nx : Str} {oe : Obj} {ι : Type} {X : ι → Cx} {W : WX} (c : Fam X P w K mg base 0 n_law_word (defScope s_law_word).names (fun _ => true) W true) (T : ExcT K ecls nx) (hz : Zc (.ref (He.ga K nx)) none oe) (hf : ∃ vs, oe.data = .fields vs) (hp : ∀ i, (ax, oe) ∈ (X i).pn) (g_ValueError : mg "ValueError" = none) (g_isinstance : mg "isinstance" = none) (k_Collision : mg "Collision" = some (.ref (He.ga K "Collision"))) (k_Ringed : mg "Ringed" = some (.ref (He.ga K "Ringed"))) (k_Competing : mg "Competing" = some (.ref (He.ga K "Competing"))) (k_TooMany : mg "TooMany" = some (.ref (He.ga K "TooMany"))) (k_Held : mg "Held" = some (.ref (He.ga K "Held"))) (k_Twice : mg "Twice" = some (.ref (He.ga K "Twice"))) (k_NothingDone : mg "NothingDone" = some (.ref (He.ga K "NothingDone"))) (k_TooLarge : mg "TooLarge" = some (.ref (He.ga K "TooLarge"))) (k_Impossible : mg "Impossible" = some (.ref (He.ga K "Impossible"))) (k_Missing : mg "Missing" = some (.ref (He.ga K "Missing"))) (k_NotLine : mg "NotLine" = some (.ref (He.ga K "NotLine"))) (k_NotBytes : mg "NotBytes" = some (.ref (He.ga K "NotBytes"))) (k_NotText : mg "NotText" = some (.ref (He.ga K "NotText"))) (k_NotDeed : mg "NotDeed" = some (.ref (He.ga K "NotDeed"))) (k_NotFormula : mg "NotFormula" = some (.ref (He.ga K "NotFormula"))) (k_NotBound : mg "NotBound" = some (.ref (He.ga K "NotBound"))) (k_NotScan : mg "NotScan" = some (.ref (He.ga K "NotScan"))) (k_NotInteger : mg "NotInteger" = some (.ref (He.ga K "NotInteger"))) (k_NotRule : mg "NotRule" = some (.ref (He.ga K "NotRule"))) (k_NotOrder : mg "NotOrder" = some (.ref (He.ga K "NotOrder"))) (k_NotRows : mg "NotRows" = some (.ref (He.ga K "NotRows"))) (k_NotKeys : mg "NotKeys" = some (.ref (He.ga K "NotKeys"))) (k_NotKey : mg "NotKey" = some (.ref (He.ga K "NotKey"))) (k_NotTable : mg "NotTable" = some (.ref (He.ga K "NotTable"))) (k_NotRow : mg "NotRow" = some (.ref (He.ga K "NotRow"))) :
    JB X K W (defBody s_law_word) (m_law_word ax nx) :=
    (jSeq (jSet c 1 (jNew (jLst (jCons (jBlt c (bExc c T hz hf hp) g_isinstance (jCons (jVar c 0) (jCons (jGC c k_NotRow) jNil))) (jCons (jBlt c (bExc c T hz hf hp) g_isinstance (jCons (jVar c 0) (jCons (jGC c k_NotTable) jNil))) (jCons (jBlt c (bExc c T hz hf hp) g_isinstance (jCons (jVar c 0) (jCons (jGC c k_NotKey) jNil))) (jCons (jBlt c (bExc c T hz hf hp) g_isinstance (jCons (jVar c 0) (jCons (jGC c k_NotKeys) jNil))) (jCons (jBlt c (bExc c T hz hf hp) g_isinstance (jCons (jVar c 0) (jCons (jGC c k_NotRows) jNil))) (jCons (jBlt c (bExc c T hz hf hp) g_isinstance (jCons (jVar c 0) (jCons (jGC c k_NotOrder) jNil))) jNil)))))))))
      (jSeq (jSet c 1 (jAdd c (jVar c 1) (jNew (jLst (jCons (jBlt c (bExc c T hz hf hp) g_isinstance (jCons (jVar c 0) (jCons (jGC c k_NotRule) jNil))) (jCons (jBlt c (bExc c T hz hf hp) g_isinstance (jCons (jVar c 0) (jCons (jGC c k_NotInteger) jNil))) (jCons (jBlt c (bExc c T hz hf hp) g_isinstance (jCons (jVar c 0) (jCons (jGC c k_NotScan) jNil))) (jCons (jBlt c (bExc c T hz hf hp) g_isinstance (jCons (jVar c 0) (jCons (jGC c k_NotBound) jNil))) (jCons (jBlt c (bExc c T hz hf hp) g_isinstance (jCons (jVar c 0) (jCons (jGC c k_NotFormula) jNil))) (jCons (jBlt c (bExc c T hz hf hp) g_isinstance (jCons (jVar c 0) (jCons (jGC c k_NotDeed) jNil))) jNil))))))))))
      (jSeq (jSet c 1 (jAdd c (jVar c 1) (jNew (jLst (jCons (jBlt c (bExc c T hz hf hp) g_isinstance (jCons (jVar c 0) (jCons (jGC c k_NotText) jNil))) (jCons (jBlt c (bExc c T hz hf hp) g_isinstance (jCons (jVar c 0) (jCons (jGC c k_NotBytes) jNil))) (jCons (jBlt c (bExc c T hz hf hp) g_isinstance (jCons (jVar c 0) (jCons (jGC c k_NotLine) jNil))) (jCons (jBlt c (bExc c T hz hf hp) g_isinstance (jCons (jVar c 0) (jCons (jGC c k_Missing) jNil))) (jCons (jBlt c (bExc c T hz hf hp) g_isinstance (jCons (jVar c 0) (jCons (jGC c k_Impossible) jNil))) (jCons (jBlt c (bExc c T hz hf hp) g_isinstance (jCons (jVar c 0) (jCons (jGC c k_TooLarge) jNil))) jNil))))))))))
      (jSeq (jSet c 1 (jAdd c (jVar c 1) (jNew (jLst (jCons (jBlt c (bExc c T hz hf hp) g_isinstance (jCons (jVar c 0) (jCons (jGC c k_NothingDone) jNil))) (jCons (jBlt c (bExc c T hz hf hp) g_isinstance (jCons (jVar c 0) (jCons (jGC c k_Twice) jNil))) (jCons (jBlt c (bExc c T hz hf hp) g_isinstance (jCons (jVar c 0) (jCons (jGC c k_Held) jNil))) (jCons (jBlt c (bExc c T hz hf hp) g_isinstance (jCons (jVar c 0) (jCons (jGC c k_TooMany) jNil))) (jCons (jBlt c (bExc c T hz hf hp) g_isinstance (jCons (jVar c 0) (jCons (jGC c k_Competing) jNil))) (jCons (jBlt c (bExc c T hz hf hp) g_isinstance (jCons (jVar c 0) (jCons (jGC c k_Ringed) jNil))) (jCons (jBlt c (bExc c T hz hf hp) g_isinstance (jCons (jVar c 0) (jCons (jGC c k_Collision) jNil))) jNil)))))))))))
      (jSeq (jSet c 2 (jNew (jLst (jCons (jStr c) (jCons (jStr c) (jCons (jStr c) (jCons (jStr c) (jCons (jStr c) (jCons (jStr c) (jCons (jStr c) (jCons (jStr c) (jCons (jStr c) (jCons (jStr c) (jCons (jStr c) (jCons (jStr c) (jCons (jStr c) jNil))))))))))))))))
      (jSeq (jSet c 2 (jAdd c (jVar c 2) (jNew (jLst (jCons (jStr c) (jCons (jStr c) (jCons (jStr c) (jCons (jStr c) (jCons (jStr c) (jCons (jStr c) (jCons (jStr c) (jCons (jStr c) (jCons (jStr c) (jCons (jStr c) (jCons (jStr c) (jCons (jStr c) jNil))))))))))))))))
      (jSeq (jIf (jW (jOr (jCT (cNe c) (jBm c (bmCount c) (jVar c 1) (jCons (jBl c) jNil)) (jInt c)) (jOr1 (jNot (jTst (jBlt c (bExc c T hz hf hp) g_isinstance (jCons (jVar c 0) (jCons (jTy c g_ValueError) jNil)))))))) (jOne (jRet (jStr c))) jEnd)
      (jOne (jRet (jIx c (jVar c 2) (jBm c (bmIndex c) (jVar c 1) (jCons (jBl c) jNil))))))))))))
abbrev s_law_said : Stmt := top 42
abbrev n_law_said : List Str := ["_law_call", "_law_e", "_law_word_here"]
theorem sc_law_said : FnScope n_law_said ["_law_call"] (defScope s_law_said) := C8.fnScope_by (by kernel_rfl)
def m_law_said (ax : Addr) (nx : Str) : SM := (sSeq (sAsg (mCallF 1 (runF (m_law_word ax nx) 3) (mCons (mVar 1) mNil)) (gN 2))
  (sSeq (sIf (mOr (mTst (mBin eqD (mVar 2) (mC (.str "twice")))) (mTst (mBin eqD (mVar 2) (mC (.str "held"))))) (sRet (mTup (mCons (mVar 2) (mCons mBad mNil)))) sNx)
  (sSeq (sIf (mTst (mBin eqD (mVar 2) (mC (.str "many")))) (sRet (mTup (mCons (mVar 2) (mCons mBad (mCons mBad mNil))))) sNx)
  (sSeq (sIf (mTst (mBin eqD (mVar 2) (mC (.str "competing")))) (sRet (mTup (mCons (mVar 2) (mCons mBad mNil)))) sNx)
  (sSeq (sIf (mTst (mBin eqD (mVar 2) (mC (.str "ringed")))) (sRet (mTup (mCons (mVar 2) (mCons mBad mNil)))) sNx)
  (sRet (mIfE (mTst (mBin eqD (mVar 2) (mC (.str "collision")))) (mTup (mCons (mVar 2) (mCons mBad (mCons mBad mNil)))) (mTup (mCons (mVar 2) mNil)))))))))
theorem b_law_said {P : Program} {w : World} {K : PySem.W.Frag} [Tb K] {mg : Str → Option Value} {base : Heap} {ax : Addr} {nx : Str} {fW : Addr} {fdW : FuncData} (g_ValueError : mg "ValueError" = none) (g_isinstance : mg "isinstance" = none) (k_Collision : mg "Collision" = some (.ref (He.ga K "Collision"))) (k_Ringed : mg "Ringed" = some (.ref (He.ga K "Ringed"))) (k_Competing : mg "Competing" = some (.ref (He.ga K "Competing"))) (k_TooMany : mg "TooMany" = some (.ref (He.ga K "TooMany"))) (k_Held : mg "Held" = some (.ref (He.ga K "Held"))) (k_Twice : mg "Twice" = some (.ref (He.ga K "Twice"))) (k_NothingDone : mg "NothingDone" = some (.ref (He.ga K "NothingDone"))) (k_TooLarge : mg "TooLarge" = some (.ref (He.ga K "TooLarge"))) (k_Impossible : mg "Impossible" = some (.ref (He.ga K "Impossible"))) (k_Missing : mg "Missing" = some (.ref (He.ga K "Missing"))) (k_NotLine : mg "NotLine" = some (.ref (He.ga K "NotLine"))) (k_NotBytes : mg "NotBytes" = some (.ref (He.ga K "NotBytes"))) (k_NotText : mg "NotText" = some (.ref (He.ga K "NotText"))) (k_NotDeed : mg "NotDeed" = some (.ref (He.ga K "NotDeed"))) (k_NotFormula : mg "NotFormula" = some (.ref (He.ga K "NotFormula"))) (k_NotBound : mg "NotBound" = some (.ref (He.ga K "NotBound"))) (k_NotScan : mg "NotScan" = some (.ref (He.ga K "NotScan"))) (k_NotInteger : mg "NotInteger" = some (.ref (He.ga K "NotInteger"))) (k_NotRule : mg "NotRule" = some (.ref (He.ga K "NotRule"))) (k_NotOrder : mg "NotOrder" = some (.ref (He.ga K "NotOrder"))) (k_NotRows : mg "NotRows" = some (.ref (He.ga K "NotRows"))) (k_NotKeys : mg "NotKeys" = some (.ref (He.ga K "NotKeys"))) (k_NotKey : mg "NotKey" = some (.ref (He.ga K "NotKey"))) (k_NotTable : mg "NotTable" = some (.ref (He.ga K "NotTable"))) (k_NotRow : mg "NotRow" = some (.ref (He.ga K "NotRow"))) (TX : ExcT K ecls nx) (FW : FunD K "_law_word" "_law_word" (defArgs s_law_word) (defBody s_law_word) (defScope s_law_word) [] [] fW fdW) (kW : mg "_law_word" = some (.ref fW)) (bW : L2.Binds K fdW ["_law_e"] [])
    {κ : Type} {X : κ → Cx} {oe : κ → Obj} (c : Fam X P w K mg base 0 n_law_said (defScope s_law_said).names (fun _ => true) W0 true) (hp : ∀ i, (ax, oe i) ∈ (X i).pn) (hz : ∀ i, Zc (.ref (He.ga K nx)) none (oe i)) (hf : ∀ i, ∃ vs, (oe i).data = .fields vs) (hun : ∀ i, (X i).A.units + 100 < cLine) (hdp : ∀ i, (X i).A.depth + 1 < recursionLimit) :
    JB X K W0 (saidSuite s_law_said) (m_law_said ax nx) :=
    (jSeq (jSet c 2 (jHot c FW sc_law_word kW bW hp hun hdp (fun i {κ} {Y} {W2} d hp2 => b_law_word d TX (hz i) (hf i) hp2 g_ValueError g_isinstance k_Collision k_Ringed k_Competing k_TooMany k_Held k_Twice k_NothingDone k_TooLarge k_Impossible k_Missing k_NotLine k_NotBytes k_NotText k_NotDeed k_NotFormula k_NotBound k_NotScan k_NotInteger k_NotRule k_NotOrder k_NotRows k_NotKeys k_NotKey k_NotTable k_NotRow) (jCons (jVar c 1) jNil)))
      (jSeq (jIf (jW (jOr (jCT (cEq c) (jVar c 2) (jStr c)) (jOr1 (jCT (cEq c) (jVar c 2) (jStr c))))) (jOne (jRet (jTup (jCons (jVar c 2) (jCons (jBad) jNil))))) jEnd)
      (jSeq (jIf (jCT (cEq c) (jVar c 2) (jStr c)) (jOne (jRet (jTup (jCons (jVar c 2) (jCons (jBad) (jCons (jBad) jNil)))))) jEnd)
      (jSeq (jIf (jCT (cEq c) (jVar c 2) (jStr c)) (jOne (jRet (jTup (jCons (jVar c 2) (jCons (jBad) jNil))))) jEnd)
      (jSeq (jIf (jCT (cEq c) (jVar c 2) (jStr c)) (jOne (jRet (jTup (jCons (jVar c 2) (jCons (jBad) jNil))))) jEnd)
      (jOne (jRet (jIfE (jCT (cEq c) (jVar c 2) (jStr c)) (jTup (jCons (jVar c 2) (jCons (jBad) (jCons (jBad) jNil)))) (jTup (jCons (jVar c 2) jNil))))))))))
abbrev s_law_same : Stmt := top 43
abbrev n_law_same : List Str := ["_law_found", "_law_due_here"]
theorem sc_law_same : FnScope n_law_same ["_law_found", "_law_due_here"] (defScope s_law_same) := C8.fnScope_by (by kernel_rfl)
def m_law_same : SM := (sRet (mBin eqD (mCal repD (mCons (mVar 0) mNil)) (mCal repD (mCons (mVar 1) mNil))))
def f_law_same := runF (m_law_same) 2
theorem b_law_same {P : Program} {w : World} {K : PySem.W.Frag} [Tb K] {mg : Str → Option Value} {base : Heap} (g_repr : mg "repr" = none) {ι : Type} {X : ι → Cx} {W : WX} (c : Fam X P w K mg base 0 n_law_same (defScope s_law_same).names (fun _ => true) W false) : JB X K W (defBody s_law_same) (m_law_same) :=
    (jOne (jRet (jC (cEq c) (jBlt c (bRep c) g_repr (jCons (jVar c 0) jNil)) (jBlt c (bRep c) g_repr (jCons (jVar c 1) jNil)))))
abbrev s_law_drawn : Stmt := top 44
abbrev n_law_drawn : List Str := ["_law_pen_here", "_law_size", "_law_number", "_law_turn", "_law_some"]
theorem sc_law_drawn : FnScope n_law_drawn ["_law_pen_here"] (defScope s_law_drawn) := C8.fnScope_by (by kernel_rfl)
def m_law_drawn_b1 : SM := (sAsg (mBin addD (mBin mulD (mVar 2) (mC (.int 10))) (mCallO 2 f_law_draw (mCons (mVar 0) (mCons (mC (.int 10)) mNil)))) (gN 2))
def m_law_drawn : SM := (sSeq (sAsg (mCallO 2 f_law_draw (mCons (mVar 0) (mCons (mC (.int 31)) mNil))) (gN 1))
  (sSeq (sAsg (mC (.int 0)) (gN 2))
  (sSeq (sFor (mRng (mCons (mVar 1) mNil)) (gN 3) m_law_drawn_b1)
  (sSeq (sAsg (mNew (nLst (mCons (mVar 2) (mCons (mBin subD (mC (.int 0)) (mVar 2)) (mCons (mBin subD (mCallO 2 f_law_draw (mCons (mVar 0) (mCons (mC (.int 600)) mNil))) (mC (.int 300))) (mCons (mBin subD (mBin powD (mC (.int 10)) (mC (.int 30))) (mC (.int 1))) (mCons (mBin subD (mC (.int 1)) (mBin powD (mC (.int 10)) (mC (.int 30)))) mNil))))))) (gN 4))
  (sRet (mCallO 2 f_law_pick (mCons (mVar 0) (mCons (mBin addD (mVar 4) (mNew (nLst (mCons (mBin subD (mBin powD (mC (.int 256)) (mC (.int 12))) (mVar 2)) mNil)))) mNil))))))))
def f_law_drawn := runO (m_law_drawn) 5
theorem b_law_drawn {P : Program} {w : World} {K : PySem.W.Frag} [Tb K] {mg : Str → Option Value} {base : Heap} (C_law_pick : Cal P w K mg base 2 "_law_pick" (SpO K 2 f_law_pick)) (C_law_draw : Cal P w K mg base 1 "_law_draw" (SpO K 2 f_law_draw)) (g_range : mg "range" = none) {ι : Type} {X : ι → Cx} {W : WX} (c : Fam X P w K mg base 2 n_law_drawn (defScope s_law_drawn).names (fun _ => true) W false) : JB X K W (defBody s_law_drawn) (m_law_drawn) :=
    (jSeq (jSet c 1 (jCallO c C_law_draw (jCons (jVar c 0) (jCons (jInt c) jNil))))
      (jSeq (jSet c 2 (jInt c))
      (jSeq (jFor c (jRng1 c (jVar c 1) g_range) (jgN c 3) (jOne (jSet c 2 (jAdd c (jMul c (jVar c 2) (jInt c)) (jCallO c C_law_draw (jCons (jVar c 0) (jCons (jInt c) jNil)))))))
      (jSeq (jSet c 4 (jNew (jLst (jCons (jVar c 2) (jCons (jSub c (jInt c) (jVar c 2)) (jCons (jSub c (jCallO c C_law_draw (jCons (jVar c 0) (jCons (jInt c) jNil))) (jInt c)) (jCons (jSub c (jPow c (jInt c) (jInt c)) (jInt c)) (jCons (jSub c (jInt c) (jPow c (jInt c) (jInt c))) jNil))))))))
      (jOne (jRet (jCallO c C_law_pick (jCons (jVar c 0) (jCons (jAdd c (jVar c 4) (jNew (jLst (jCons (jSub c (jPow c (jInt c) (jInt c)) (jVar c 2)) jNil)))) jNil)))))))))
abbrev s_law_due : Stmt := top 45
abbrev n_law_due : List Str := ["_law_key", "_law_number", "_law_found", "_law_turn"]
theorem sc_law_due : FnScope n_law_due ["_law_key"] (defScope s_law_due) := C8.fnScope_by (by kernel_rfl)
def m_law_due_b1 : SM := (sSeq (sAsg (mBin addD (mNew (nLst (mCons (mBin modD (mCal int1D (mCons (mVar 1) mNil)) (mC (.int 256))) mNil))) (mVar 2)) (gN 2))
  (sAsg (mBin fdivD (mVar 1) (mC (.int 256))) (gN 1)))
def m_law_due : SM := (sSeq (sPar 1 2 (mCons (mBin addD (mVar 0) (mBin powD (mC (.int 10)) (mC (.int 30)))) (mCons (mNew (nLst mNil)) mNil)))
  (sSeq (sFor (mRng (mCons (mC (.int 13)) mNil)) (gN 3) m_law_due_b1)
  (sRet (mVar 2))))
def f_law_due := runF (m_law_due) 4
theorem b_law_due {P : Program} {w : World} {K : PySem.W.Frag} [Tb K] {mg : Str → Option Value} {base : Heap} (g_range : mg "range" = none) (g_int : mg "int" = none) {ι : Type} {X : ι → Cx} {W : WX} (c : Fam X P w K mg base 0 n_law_due (defScope s_law_due).names (fun _ => true) W false) : JB X K W (defBody s_law_due) (m_law_due) :=
    (jSeq (jPar2 c 1 2 (jCons (jAdd c (jVar c 0) (jPow c (jInt c) (jInt c))) (jCons (jNew (jLst jNil)) jNil)))
      (jSeq (jFor c (jRng1 c (jInt c) g_range) (jgN c 3) (jSeq (jSet c 2 (jAdd c (jNew (jLst (jCons (jMod c (jTyC c (bInt1 c) g_int (jCons (jVar c 1) jNil)) (jInt c)) jNil))) (jVar c 2)))
      (jOne (jSet c 1 (jFdiv c (jVar c 1) (jInt c))))))
      (jOne (jRet (jVar c 2)))))
abbrev s_law_bad_data : Stmt := top 46
abbrev n_law_bad_data : List Str := ["_law_data", "_law_least", "_law_most", "_law_found", "_law_one"]
theorem sc_law_bad_data : FnScope n_law_bad_data ["_law_data"] (defScope s_law_bad_data) := C8.fnScope_by (by kernel_rfl)
def m_law_bad_data : SM := (sSeq (sPar 1 2 (mCons (mCallF 1 f_key_bytes (mCons (mBin subD (mC (.int 1)) (mBin powD (mC (.int 10)) (mC (.int 30)))) mNil)) (mCons (mCallF 1 f_key_bytes (mCons (mBin subD (mBin powD (mC (.int 10)) (mC (.int 30))) (mC (.int 1))) mNil)) mNil)))
  (sSeq (sAsg (mNew (nLst (mCons (mSl (mVar 0) (pSo (mC (.int 1))) pNo) (mCons (mSl (mVar 0) pNo (pSo (mC (.int 12)))) (mCons (mBin addD (mVar 0) (mSl (mVar 0) pNo (pSo (mC (.int 1))))) (mCons (mBin addD (mVar 0) (mVar 0)) (mCons (mSl (mVar 0) pNo (pSo (mC (.int 0)))) (mCons (mSt 2 (mVar 0) pNo pNo) (mCons (mBin addD (mSl (mVar 1) pNo (pSo (mC (.int 12)))) (mSl (mVar 1) pNo (pSo (mC (.int 1))))) mNil))))))))) (gN 3))
  (sRet (mBin addD (mVar 3) (mNew (nLst (mCons (mBin mulD (mSl (mVar 2) (pSo (mC (.int 12))) pNo) (mC (.int 13))) (mCons (mBin addD (mSl (mVar 2) (pSo (mC (.int 12))) pNo) (mSl (mVar 0) (pSo (mC (.int 1))) pNo)) (mCons (mNew (nLc (mIt (mVar 0)) (gN 4) mYes (mVar 4) [4])) (mCons (mCal repD (mCons (mNew (nLc (mIt (mVar 0)) (gN 4) mYes (mVar 4) [4])) mNil)) mNil))))))))))
def f_law_bad_data := runF (m_law_bad_data) 5
theorem b_law_bad_data {P : Program} {w : World} {K : PySem.W.Frag} [Tb K] {mg : Str → Option Value} {base : Heap} (g_repr : mg "repr" = none) (C_key_bytes : Cal P w K mg base 3 "key_bytes" (SpF K 1 f_key_bytes)) {ι : Type} {X : ι → Cx} {W : WX} (c : Fam X P w K mg base 3 n_law_bad_data (defScope s_law_bad_data).names (fun _ => true) W false) : JB X K W (defBody s_law_bad_data) (m_law_bad_data) :=
    (jSeq (jPar2 c 1 2 (jCons (jCall c C_key_bytes (jCons (jSub c (jInt c) (jPow c (jInt c) (jInt c))) jNil)) (jCons (jCall c C_key_bytes (jCons (jSub c (jPow c (jInt c) (jInt c)) (jInt c)) jNil)) jNil)))
      (jSeq (jSet c 3 (jNew (jLst (jCons (jSl c (jVar c 0) (jpSo (jInt c)) jpNo) (jCons (jSl c (jVar c 0) jpNo (jpSo (jInt c))) (jCons (jAdd c (jVar c 0) (jSl c (jVar c 0) jpNo (jpSo (jInt c)))) (jCons (jAdd c (jVar c 0) (jVar c 0)) (jCons (jSl c (jVar c 0) jpNo (jpSo (jInt c))) (jCons (jSt c (jVar c 0) jpNo jpNo) (jCons (jAdd c (jSl c (jVar c 1) jpNo (jpSo (jInt c))) (jSl c (jVar c 1) jpNo (jpSo (jInt c)))) jNil))))))))))
      (jOne (jRet (jAdd c (jVar c 3) (jNew (jLst (jCons (jMul c (jSl c (jVar c 2) (jpSo (jInt c)) jpNo) (jInt c)) (jCons (jAdd c (jSl c (jVar c 2) (jpSo (jInt c)) jpNo) (jSl c (jVar c 0) (jpSo (jInt c)) jpNo)) (jCons (jNew (jLc c [("_law_one", 4)] (jIt c (jVar c 0)) (jgN (c.blk (by kernel_rfl)) 4) jIf0 (jVar (c.blk (by kernel_rfl)) 4))) (jCons (jBlt c (bRep c) g_repr (jCons (jNew (jLc c [("_law_one", 4)] (jIt c (jVar c 0)) (jgN (c.blk (by kernel_rfl)) 4) jIf0 (jVar (c.blk (by kernel_rfl)) 4))) jNil)) jNil)))))))))))
abbrev s_law : Stmt := top 47
abbrev n_law : List Str := ["_law_script", "_law_cell", "_law_pen_here", "_law_keys", "_law_lots", "_law_at", "_law_key", "_law_bad", "_law_to", "_law_other", "_law_found", "_law_turn", "_law_one"]
theorem sc_law : FnScope n_law ["_law_script"] (defScope s_law) := C8.fnScope_by (by kernel_rfl)
def m_law_b1 (wd : Str → Option D) : SM := (sIf (mTst (mBin neD (mSaid wd (mCallF 1 f_bytes_key (mCons (mVar 7) mNil))) (mTup (mCons (mC (.str "bytes")) mNil)))) (sRet (mC (.bl false))) sNx)
def m_law_b2 (wd : Str → Option D) : SM := (sIf (mTst (mBin neD (mSaid wd (mCallF 1 f_key_bytes (mCons (mVar 7) mNil))) (mTup (mCons (mC (.str "key")) mNil)))) (sRet (mC (.bl false))) sNx)
def m_law_b3 : SM := (sSeq (sAsg (mNew (nLst (mCons (mBin ltA (mBin ixD (mVar 4) (mVar 5)) (mBin ixD (mVar 4) (mVar 8))) (mCons (mBin eqD (mBin ixD (mVar 4) (mVar 5)) (mBin ixD (mVar 4) (mVar 8))) (mCons (mBin leA (mBin ixD (mVar 4) (mVar 5)) (mBin ixD (mVar 4) (mVar 8))) mNil))))) (gN 10))
  (sIf (mNot (mTst (mCallF 2 f_law_same (mCons (mVar 10) (mCons (mNew (nLst (mCons (mBin ltA (mVar 6) (mVar 9)) (mCons (mBin eqD (mVar 6) (mVar 9)) (mCons (mBin leA (mVar 6) (mVar 9)) mNil))))) mNil))))) (sRet (mC (.bl false))) sNx))
def m_law_b4 (wd : Str → Option D) : SM := (sSeq (sIf (mNot (mTst (mCallF 2 f_law_same (mCons (mNew (nLst (mCons (mNew (nLc (mIt (mBin ixD (mVar 4) (mVar 5))) (gN 12) mYes (mVar 12) [12])) (mCons (mCal lenD (mCons (mBin ixD (mVar 4) (mVar 5)) mNil)) mNil)))) (mCons (mNew (nLst (mCons (mCallF 1 f_law_due (mCons (mVar 6) mNil)) (mCons (mC (.int 13)) mNil)))) mNil))))) (sRet (mC (.bl false))) sNx)
  (sSeq (sIf (mOr (mNot (mTst (mCallF 2 f_law_same (mCons (mSaid wd (mCallF 1 f_bytes_key (mCons (mBin ixD (mVar 4) (mVar 5)) mNil))) (mCons (mTup (mCons (mC (.str "returned")) (mCons (mVar 6) mNil))) mNil))))) (mTst (mBin neD (mCallF 1 f_key_bytes (mCons (mVar 6) mNil)) (mBin ixD (mVar 4) (mVar 5))))) (sRet (mC (.bl false))) sNx)
  (sFor (mEnum (mCons (mVar 3) mNil)) (gT (gsCons (gN 8) (gsCons (gN 9) gsNil))) m_law_b3)))
def m_law_b5 (wd : Str → Option D) : SM := (sSeq (sNew (nCall 1 f_law_pen (mCons (mVar 1) mNil)) 2)
  (sSeq (sNew (nLc (mRng (mCons (mC (.int 6)) mNil)) (gN 11) mYes (mCallO 1 f_law_drawn (mCons (mVar 2) mNil)) [11]) 3)
  (sSeq (sAsg (mBin addD (mVar 3) (mNew (nLst (mCons (mCal maxD (mCons (mBin subD (mC (.int 1)) (mBin powD (mC (.int 10)) (mC (.int 30)))) (mCons (mBin subD (mBin ixD (mVar 3) (mC (.int 0))) (mC (.int 1))) mNil))) (mCons (mCal minD (mCons (mBin subD (mBin powD (mC (.int 10)) (mC (.int 30))) (mC (.int 1))) (mCons (mBin addD (mBin ixD (mVar 3) (mC (.int 1))) (mC (.int 256))) mNil))) mNil))))) (gN 3))
  (sSeq (sAsg (mNew (nLc (mIt (mVar 3)) (gN 6) mYes (mCallF 1 f_key_bytes (mCons (mVar 6) mNil)) [6])) (gN 4))
  (sSeq (sFor (mEnum (mCons (mVar 3) mNil)) (gT (gsCons (gN 5) (gsCons (gN 6) gsNil))) (m_law_b4 wd))
  (sSeq (sFor (mIt (mBin addD (mCallF 0 f_law_things mNil) (mNew (nLst (mCons (mBin powD (mC (.int 10)) (mC (.int 30))) (mCons (mUn negD (mBin powD (mC (.int 10)) (mC (.int 30)))) (mCons (mBin ixD (mVar 4) (mC (.int 0))) mNil))))))) (gN 7) (m_law_b2 wd))
  (sFor (mIt (mBin addD (mBin addD (mCallF 0 f_law_things mNil) (mNew (nLst (mCons (mC (.int 0)) (mCons (mBin ixD (mVar 3) (mC (.int 0))) mNil))))) (mCallF 1 f_law_bad_data (mCons (mBin ixD (mVar 4) (mC (.int 0))) mNil)))) (gN 7) (m_law_b1 wd))))))))
def m_law (wd : Str → Option D) : SM := (sSeq (sFor (mIt (mBin addD (mNew (nLst (mCons (mCallF 2 f_law_cell_at (mCons (mVar 0) (mCons (mC (.int 0)) mNil))) mNil))) (mSl (mVar 0) (pSo (mC (.int 1))) (pSo (mC (.int 3)))))) (gN 1) (m_law_b5 wd))
  (sRet (mC (.bl true))))
def f_law (wd : Str → Option D) := runF (m_law wd) 13
theorem b_law {P : Program} {w : World} {K : PySem.W.Frag} [Tb K] {mg : Str → Option Value} {base : Heap} {wd : Str → Option D} {c0 : Addr} (C_law_cell_at : Cal P w K mg base 1 "_law_cell_at" (SpF K 2 f_law_cell_at)) (C_law_things : Cal P w K mg base 1 "_law_things" (SpF K 0 f_law_things)) (C_law_bad_data : Cal P w K mg base 4 "_law_bad_data" (SpF K 1 f_law_bad_data)) (C_bytes_key : Cal P w K mg base 3 "bytes_key" (SpF K 1 f_bytes_key)) (SD : SaidT P w K mg base "_law_said" wd) (LT : LamT K mg base c0 "law.<locals>.") (C_key_bytes : Cal P w K mg base 3 "key_bytes" (SpF K 1 f_key_bytes)) (g_enumerate : mg "enumerate" = none) (C_law_same : Cal P w K mg base 1 "_law_same" (SpF K 2 f_law_same)) (C_law_due : Cal P w K mg base 1 "_law_due" (SpF K 1 f_law_due)) (g_len : mg "len" = none) (g_min : mg "min" = none) (g_max : mg "max" = none) (g_range : mg "range" = none) (C_law_drawn : Cal P w K mg base 3 "_law_drawn" (SpO K 1 f_law_drawn)) (C_law_pen : Cal P w K mg base 1 "_law_pen" (SpN K 1 f_law_pen)) {ι : Type} {X : ι → Cx} {W : WX} (c : Fam X P w K mg base 5 n_law (defScope s_law).names (fun _ => true) W false) (hcode : ∀ i, (X i).env.code = .ref c0) (hqual : ∀ i, (X i).env.qual = "law.<locals>.") : JB X K W (defBody s_law) (m_law wd) :=
    (jSeq (jFor c (jIt c (jAdd c (jNew (jLst (jCons (jCall c C_law_cell_at (jCons (jVar c 0) (jCons (jInt c) jNil))) jNil))) (jSl c (jVar c 0) (jpSo (jInt c)) (jpSo (jInt c))))) (jgN c 1) (jSeq (jOwn c 2 (jnCall c C_law_pen (jCons (jVar c 1) jNil)))
      (jSeq (jSetLc c 3 [("_law_turn", 11)] (jRng1 c (jInt c) g_range) (jgN (c.blk (by kernel_rfl)) 11) jIf0 (jCallO (c.blk (by kernel_rfl)) C_law_drawn (jCons (jVar (c.blk (by kernel_rfl)) 2) jNil)))
      (jSeq (jSet c 3 (jAdd c (jVar c 3) (jNew (jLst (jCons (jBlt c (bMax c) g_max (jCons (jSub c (jInt c) (jPow c (jInt c) (jInt c))) (jCons (jSub c (jIx c (jVar c 3) (jInt c)) (jInt c)) jNil))) (jCons (jBlt c (bMin c) g_min (jCons (jSub c (jPow c (jInt c) (jInt c)) (jInt c)) (jCons (jAdd c (jIx c (jVar c 3) (jInt c)) (jInt c)) jNil))) jNil))))))
      (jSeq (jSetC c 4 (jNew (jLc c [("_law_key", 6)] (jIt c (jVar c 3)) (jgN (c.blk (by kernel_rfl)) 6) jIf0 (jCall (c.blk (by kernel_rfl)) C_key_bytes (jCons (jVar (c.blk (by kernel_rfl)) 6) jNil)))))
      (jSeq (jFor c (jEnum c (jVar c 3) g_enumerate) (jgT c (jgCons (jgN c 5) (jgCons (jgN c 6) jgNil))) (jSeq (jIf (jNot (jTst (jCall c C_law_same (jCons (jNew (jLst (jCons (jNew (jLc c [("_law_one", 12)] (jIt c (jIx c (jVar c 4) (jVar c 5))) (jgN (c.blk (by kernel_rfl)) 12) jIf0 (jVar (c.blk (by kernel_rfl)) 12))) (jCons (jBlt c (bLen c) g_len (jCons (jIx c (jVar c 4) (jVar c 5)) jNil)) jNil)))) (jCons (jNew (jLst (jCons (jCall c C_law_due (jCons (jVar c 6) jNil)) (jCons (jInt c) jNil)))) jNil))))) (jOne (jRet (jBl c))) jEnd)
      (jSeq (jIf (jW (jOr (jNot (jTst (jCall c C_law_same (jCons (jSaid c SD LT hcode hqual (fun {κ} {Y} {W2} d => (jCall d C_bytes_key (jCons (jIx d (jVar d 4) (jVar d 5)) jNil)))) (jCons (jTup (jCons (jStr c) (jCons (jVar c 6) jNil))) jNil))))) (jOr1 (jCT (cNe c) (jCall c C_key_bytes (jCons (jVar c 6) jNil)) (jIx c (jVar c 4) (jVar c 5)))))) (jOne (jRet (jBl c))) jEnd)
      (jOne (jFor c (jEnum c (jVar c 3) g_enumerate) (jgT c (jgCons (jgN c 8) (jgCons (jgN c 9) jgNil))) (jSeq (jSet c 10 (jNew (jLst (jCons (jC cLtA (jIx c (jVar c 4) (jVar c 5)) (jIx c (jVar c 4) (jVar c 8))) (jCons (jC (cEq c) (jIx c (jVar c 4) (jVar c 5)) (jIx c (jVar c 4) (jVar c 8))) (jCons (jC cLeA (jIx c (jVar c 4) (jVar c 5)) (jIx c (jVar c 4) (jVar c 8))) jNil))))))
      (jOne (jIf (jNot (jTst (jCall c C_law_same (jCons (jVar c 10) (jCons (jNew (jLst (jCons (jC cLtA (jVar c 6) (jVar c 9)) (jCons (jC (cEq c) (jVar c 6) (jVar c 9)) (jCons (jC cLeA (jVar c 6) (jVar c 9)) jNil))))) jNil))))) (jOne (jRet (jBl c))) jEnd))))))))
      (jSeq (jFor c (jIt c (jAdd c (jCall0 c C_law_things) (jNew (jLst (jCons (jPow c (jInt c) (jInt c)) (jCons (jNeg c (jPow c (jInt c) (jInt c))) (jCons (jIx c (jVar c 4) (jInt c)) jNil))))))) (jgN c 7) (jOne (jIf (jCT (cNe c) (jSaid c SD LT hcode hqual (fun {κ} {Y} {W2} d => (jCall d C_key_bytes (jCons (jVar d 7) jNil)))) (jTup (jCons (jStr c) jNil))) (jOne (jRet (jBl c))) jEnd)))
      (jOne (jFor c (jIt c (jAdd c (jAdd c (jCall0 c C_law_things) (jNew (jLst (jCons (jInt c) (jCons (jIx c (jVar c 3) (jInt c)) jNil))))) (jCall c C_law_bad_data (jCons (jIx c (jVar c 4) (jInt c)) jNil)))) (jgN c 7) (jOne (jIf (jCT (cNe c) (jSaid c SD LT hcode hqual (fun {κ} {Y} {W2} d => (jCall d C_bytes_key (jCons (jVar d 7) jNil)))) (jTup (jCons (jStr c) jNil))) (jOne (jRet (jBl c))) jEnd)))))))))))
      (jOne (jRet (jBl c))))
end Pm

set_option Elab.async false
set_option linter.all false
set_option maxRecDepth 100000
set_option maxHeartbeats 40000000
namespace Pm
open PySem PySem.Spec PyProof.Rows L2
theorem e_word_NotKey (b : Addr) : m_law_word b "NotKey" [.dat (.ref b), .un, .un] = .ok (.rt (.str "key")) [.dat (.ref b), .dat (.lst [.bl false, .bl false, .bl true, .bl false, .bl false, .bl false, .bl false, .bl false, .bl false, .bl false, .bl false, .bl false, .bl false, .bl false, .bl false, .bl false, .bl false, .bl false, .bl false, .bl false, .bl false, .bl false, .bl false, .bl false, .bl false]), .dat (.lst [.str "row", .str "table", .str "key", .str "keys", .str "rows", .str "order", .str "rule", .str "integer", .str "scan", .str "bound", .str "formula", .str "deed", .str "text", .str "bytes", .str "line", .str "missing", .str "impossible", .str "large", .str "nothing", .str "twice", .str "held", .str "many", .str "competing", .str "ringed", .str "collision"])] := by
  have c0 : ecls.contains "NotRow" = true := by decide +kernel
  have c1 : ecls.contains "NotTable" = true := by decide +kernel
  have c2 : ecls.contains "NotKey" = true := by decide +kernel
  have c3 : ecls.contains "NotKeys" = true := by decide +kernel
  have c4 : ecls.contains "NotRows" = true := by decide +kernel
  have c5 : ecls.contains "NotOrder" = true := by decide +kernel
  have c6 : ecls.contains "NotRule" = true := by decide +kernel
  have c7 : ecls.contains "NotInteger" = true := by decide +kernel
  have c8 : ecls.contains "NotScan" = true := by decide +kernel
  have c9 : ecls.contains "NotBound" = true := by decide +kernel
  have c10 : ecls.contains "NotFormula" = true := by decide +kernel
  have c11 : ecls.contains "NotDeed" = true := by decide +kernel
  have c12 : ecls.contains "NotText" = true := by decide +kernel
  have c13 : ecls.contains "NotBytes" = true := by decide +kernel
  have c14 : ecls.contains "NotLine" = true := by decide +kernel
  have c15 : ecls.contains "Missing" = true := by decide +kernel
  have c16 : ecls.contains "Impossible" = true := by decide +kernel
  have c17 : ecls.contains "TooLarge" = true := by decide +kernel
  have c18 : ecls.contains "NothingDone" = true := by decide +kernel
  have c19 : ecls.contains "Twice" = true := by decide +kernel
  have c20 : ecls.contains "Held" = true := by decide +kernel
  have c21 : ecls.contains "TooMany" = true := by decide +kernel
  have c22 : ecls.contains "Competing" = true := by decide +kernel
  have c23 : ecls.contains "Ringed" = true := by decide +kernel
  have c24 : ecls.contains "Collision" = true := by decide +kernel
  have e0 : ((("NotKey" : Str)) == "NotRow") = false := by decide +kernel
  have e1 : ((("NotKey" : Str)) == "NotTable") = false := by decide +kernel
  have e2 : ((("NotKey" : Str)) == "NotKey") = true := by decide +kernel
  have e3 : ((("NotKey" : Str)) == "NotKeys") = false := by decide +kernel
  have e4 : ((("NotKey" : Str)) == "NotRows") = false := by decide +kernel
  have e5 : ((("NotKey" : Str)) == "NotOrder") = false := by decide +kernel
  have e6 : ((("NotKey" : Str)) == "NotRule") = false := by decide +kernel
  have e7 : ((("NotKey" : Str)) == "NotInteger") = false := by decide +kernel
  have e8 : ((("NotKey" : Str)) == "NotScan") = false := by decide +kernel
  have e9 : ((("NotKey" : Str)) == "NotBound") = false := by decide +kernel
  have e10 : ((("NotKey" : Str)) == "NotFormula") = false := by decide +kernel
  have e11 : ((("NotKey" : Str)) == "NotDeed") = false := by decide +kernel
  have e12 : ((("NotKey" : Str)) == "NotText") = false := by decide +kernel
  have e13 : ((("NotKey" : Str)) == "NotBytes") = false := by decide +kernel
  have e14 : ((("NotKey" : Str)) == "NotLine") = false := by decide +kernel
  have e15 : ((("NotKey" : Str)) == "Missing") = false := by decide +kernel
  have e16 : ((("NotKey" : Str)) == "Impossible") = false := by decide +kernel
  have e17 : ((("NotKey" : Str)) == "TooLarge") = false := by decide +kernel
  have e18 : ((("NotKey" : Str)) == "NothingDone") = false := by decide +kernel
  have e19 : ((("NotKey" : Str)) == "Twice") = false := by decide +kernel
  have e20 : ((("NotKey" : Str)) == "Held") = false := by decide +kernel
  have e21 : ((("NotKey" : Str)) == "TooMany") = false := by decide +kernel
  have e22 : ((("NotKey" : Str)) == "Competing") = false := by decide +kernel
  have e23 : ((("NotKey" : Str)) == "Ringed") = false := by decide +kernel
  have e24 : ((("NotKey" : Str)) == "Collision") = false := by decide +kernel
  have a1 : addD (.lst [.bl false, .bl false, .bl true, .bl false, .bl false, .bl false]) (.lst [.bl false, .bl false, .bl false, .bl false, .bl false, .bl false]) = some (.lst [.bl false, .bl false, .bl true, .bl false, .bl false, .bl false, .bl false, .bl false, .bl false, .bl false, .bl false, .bl false]) := by kernel_rfl
  have a2 : addD (.lst [.bl false, .bl false, .bl true, .bl false, .bl false, .bl false, .bl false, .bl false, .bl false, .bl false, .bl false, .bl false]) (.lst [.bl false, .bl false, .bl false, .bl false, .bl false, .bl false]) = some (.lst [.bl false, .bl false, .bl true, .bl false, .bl false, .bl false, .bl false, .bl false, .bl false, .bl false, .bl false, .bl false, .bl false, .bl false, .bl false, .bl false, .bl false, .bl false]) := by kernel_rfl
  have a3 : addD (.lst [.bl false, .bl false, .bl true, .bl false, .bl false, .bl false, .bl false, .bl false, .bl false, .bl false, .bl false, .bl false, .bl false, .bl false, .bl false, .bl false, .bl false, .bl false]) (.lst [.bl false, .bl false, .bl false, .bl false, .bl false, .bl false, .bl false]) = some (.lst [.bl false, .bl false, .bl true, .bl false, .bl false, .bl false, .bl false, .bl false, .bl false, .bl false, .bl false, .bl false, .bl false, .bl false, .bl false, .bl false, .bl false, .bl false, .bl false, .bl false, .bl false, .bl false, .bl false, .bl false, .bl false]) := by kernel_rfl
  have w1 : addD (.lst [.str "row", .str "table", .str "key", .str "keys", .str "rows", .str "order", .str "rule", .str "integer", .str "scan", .str "bound", .str "formula", .str "deed", .str "text"]) (.lst [.str "bytes", .str "line", .str "missing", .str "impossible", .str "large", .str "nothing", .str "twice", .str "held", .str "many", .str "competing", .str "ringed", .str "collision"]) = some (.lst [.str "row", .str "table", .str "key", .str "keys", .str "rows", .str "order", .str "rule", .str "integer", .str "scan", .str "bound", .str "formula", .str "deed", .str "text", .str "bytes", .str "line", .str "missing", .str "impossible", .str "large", .str "nothing", .str "twice", .str "held", .str "many", .str "competing", .str "ringed", .str "collision"]) := by kernel_rfl
  have k1 : countD (.lst [.bl false, .bl false, .bl true, .bl false, .bl false, .bl false, .bl false, .bl false, .bl false, .bl false, .bl false, .bl false, .bl false, .bl false, .bl false, .bl false, .bl false, .bl false, .bl false, .bl false, .bl false, .bl false, .bl false, .bl false, .bl false]) [.bl true] = some (.int 1) := by kernel_rfl
  have k2 : indexD (.lst [.bl false, .bl false, .bl true, .bl false, .bl false, .bl false, .bl false, .bl false, .bl false, .bl false, .bl false, .bl false, .bl false, .bl false, .bl false, .bl false, .bl false, .bl false, .bl false, .bl false, .bl false, .bl false, .bl false, .bl false, .bl false]) [.bl true] = some (.int 2) := by kernel_rfl
  have k3 : neD (.int 1) (.int 1) = some (.bl false) := by kernel_rfl
  have k4 : ixD (.lst [.str "row", .str "table", .str "key", .str "keys", .str "rows", .str "order", .str "rule", .str "integer", .str "scan", .str "bound", .str "formula", .str "deed", .str "text", .str "bytes", .str "line", .str "missing", .str "impossible", .str "large", .str "nothing", .str "twice", .str "held", .str "many", .str "competing", .str "ringed", .str "collision"]) (.int 2) = some (.str "key") := by kernel_rfl
  simp [m_law_word, ↓ev_isE c0, ↓ev_isE c1, ↓ev_isE c2, ↓ev_isE c3, ↓ev_isE c4, ↓ev_isE c5, ↓ev_isE c6, ↓ev_isE c7, ↓ev_isE c8, ↓ev_isE c9, ↓ev_isE c10, ↓ev_isE c11, ↓ev_isE c12, ↓ev_isE c13, ↓ev_isE c14, ↓ev_isE c15, ↓ev_isE c16, ↓ev_isE c17, ↓ev_isE c18, ↓ev_isE c19, ↓ev_isE c20, ↓ev_isE c21, ↓ev_isE c22, ↓ev_isE c23, ↓ev_isE c24, ↓ev_isV, sSeq, sAsg, sIf, sRet, sNx, gN, mNew, nLst, mCons, mNil, mC, mVar, mBin, mBm, mOr, mNot, mTst, Rs.bind, opt, look, looks, frz, frzL, bOf, isLst, e0, e1, e2, e3, e4, e5, e6, e7, e8, e9, e10, e11, e12, e13, e14, e15, e16, e17, e18, e19, e20, e21, e22, e23, e24, a1, a2, a3, w1, k1, k2, k3, k4]
theorem r_word_NotKey (b : Addr) : runF (m_law_word b "NotKey") 3 [.ref b] = .ok (.str "key") := by
  have e : m_law_word b "NotKey" (ent 3 (([.ref b] : List D).map .dat)) = _ := e_word_NotKey b
  unfold runF; rw [e]
theorem e_said_NotKey (f b : Addr) : ∃ ρ, m_law_said b "NotKey" [.dat (.ref f), .dat (.ref b), .un] = .ok (.rt (.tup [.str "key"])) ρ := by
  have q_twice : eqD (.str "key") (.str "twice") = some (.bl false) := by kernel_rfl
  have q_held : eqD (.str "key") (.str "held") = some (.bl false) := by kernel_rfl
  have q_many : eqD (.str "key") (.str "many") = some (.bl false) := by kernel_rfl
  have q_competing : eqD (.str "key") (.str "competing") = some (.bl false) := by kernel_rfl
  have q_ringed : eqD (.str "key") (.str "ringed") = some (.bl false) := by kernel_rfl
  have q_collision : eqD (.str "key") (.str "collision") = some (.bl false) := by kernel_rfl
  exact ⟨_, by simp [m_law_said, r_word_NotKey b, mCallF, callF, sSeq, sAsg, sIf, sRet, sNx, gN, mTup, mCons, mNil, mC, mVar, mBin, mOr, mTst, mIfE, Rs.bind, opt, look, looks, frz, frzL, bOf, q_twice, q_held, q_many, q_competing, q_ringed, q_collision]; rfl⟩
theorem e_word_NotBytes (b : Addr) : m_law_word b "NotBytes" [.dat (.ref b), .un, .un] = .ok (.rt (.str "bytes")) [.dat (.ref b), .dat (.lst [.bl false, .bl false, .bl false, .bl false, .bl false, .bl false, .bl false, .bl false, .bl false, .bl false, .bl false, .bl false, .bl false, .bl true, .bl false, .bl false, .bl false, .bl false, .bl false, .bl false, .bl false, .bl false, .bl false, .bl false, .bl false]), .dat (.lst [.str "row", .str "table", .str "key", .str "keys", .str "rows", .str "order", .str "rule", .str "integer", .str "scan", .str "bound", .str "formula", .str "deed", .str "text", .str "bytes", .str "line", .str "missing", .str "impossible", .str "large", .str "nothing", .str "twice", .str "held", .str "many", .str "competing", .str "ringed", .str "collision"])] := by
  have c0 : ecls.contains "NotRow" = true := by decide +kernel
  have c1 : ecls.contains "NotTable" = true := by decide +kernel
  have c2 : ecls.contains "NotKey" = true := by decide +kernel
  have c3 : ecls.contains "NotKeys" = true := by decide +kernel
  have c4 : ecls.contains "NotRows" = true := by decide +kernel
  have c5 : ecls.contains "NotOrder" = true := by decide +kernel
  have c6 : ecls.contains "NotRule" = true := by decide +kernel
  have c7 : ecls.contains "NotInteger" = true := by decide +kernel
  have c8 : ecls.contains "NotScan" = true := by decide +kernel
  have c9 : ecls.contains "NotBound" = true := by decide +kernel
  have c10 : ecls.contains "NotFormula" = true := by decide +kernel
  have c11 : ecls.contains "NotDeed" = true := by decide +kernel
  have c12 : ecls.contains "NotText" = true := by decide +kernel
  have c13 : ecls.contains "NotBytes" = true := by decide +kernel
  have c14 : ecls.contains "NotLine" = true := by decide +kernel
  have c15 : ecls.contains "Missing" = true := by decide +kernel
  have c16 : ecls.contains "Impossible" = true := by decide +kernel
  have c17 : ecls.contains "TooLarge" = true := by decide +kernel
  have c18 : ecls.contains "NothingDone" = true := by decide +kernel
  have c19 : ecls.contains "Twice" = true := by decide +kernel
  have c20 : ecls.contains "Held" = true := by decide +kernel
  have c21 : ecls.contains "TooMany" = true := by decide +kernel
  have c22 : ecls.contains "Competing" = true := by decide +kernel
  have c23 : ecls.contains "Ringed" = true := by decide +kernel
  have c24 : ecls.contains "Collision" = true := by decide +kernel
  have e0 : ((("NotBytes" : Str)) == "NotRow") = false := by decide +kernel
  have e1 : ((("NotBytes" : Str)) == "NotTable") = false := by decide +kernel
  have e2 : ((("NotBytes" : Str)) == "NotKey") = false := by decide +kernel
  have e3 : ((("NotBytes" : Str)) == "NotKeys") = false := by decide +kernel
  have e4 : ((("NotBytes" : Str)) == "NotRows") = false := by decide +kernel
  have e5 : ((("NotBytes" : Str)) == "NotOrder") = false := by decide +kernel
  have e6 : ((("NotBytes" : Str)) == "NotRule") = false := by decide +kernel
  have e7 : ((("NotBytes" : Str)) == "NotInteger") = false := by decide +kernel
  have e8 : ((("NotBytes" : Str)) == "NotScan") = false := by decide +kernel
  have e9 : ((("NotBytes" : Str)) == "NotBound") = false := by decide +kernel
  have e10 : ((("NotBytes" : Str)) == "NotFormula") = false := by decide +kernel
  have e11 : ((("NotBytes" : Str)) == "NotDeed") = false := by decide +kernel
  have e12 : ((("NotBytes" : Str)) == "NotText") = false := by decide +kernel
  have e13 : ((("NotBytes" : Str)) == "NotBytes") = true := by decide +kernel
  have e14 : ((("NotBytes" : Str)) == "NotLine") = false := by decide +kernel
  have e15 : ((("NotBytes" : Str)) == "Missing") = false := by decide +kernel
  have e16 : ((("NotBytes" : Str)) == "Impossible") = false := by decide +kernel
  have e17 : ((("NotBytes" : Str)) == "TooLarge") = false := by decide +kernel
  have e18 : ((("NotBytes" : Str)) == "NothingDone") = false := by decide +kernel
  have e19 : ((("NotBytes" : Str)) == "Twice") = false := by decide +kernel
  have e20 : ((("NotBytes" : Str)) == "Held") = false := by decide +kernel
  have e21 : ((("NotBytes" : Str)) == "TooMany") = false := by decide +kernel
  have e22 : ((("NotBytes" : Str)) == "Competing") = false := by decide +kernel
  have e23 : ((("NotBytes" : Str)) == "Ringed") = false := by decide +kernel
  have e24 : ((("NotBytes" : Str)) == "Collision") = false := by decide +kernel
  have a1 : addD (.lst [.bl false, .bl false, .bl false, .bl false, .bl false, .bl false]) (.lst [.bl false, .bl false, .bl false, .bl false, .bl false, .bl false]) = some (.lst [.bl false, .bl false, .bl false, .bl false, .bl false, .bl false, .bl false, .bl false, .bl false, .bl false, .bl false, .bl false]) := by kernel_rfl
  have a2 : addD (.lst [.bl false, .bl false, .bl false, .bl false, .bl false, .bl false, .bl false, .bl false, .bl false, .bl false, .bl false, .bl false]) (.lst [.bl false, .bl true, .bl false, .bl false, .bl false, .bl false]) = some (.lst [.bl false, .bl false, .bl false, .bl false, .bl false, .bl false, .bl false, .bl false, .bl false, .bl false, .bl false, .bl false, .bl false, .bl true, .bl false, .bl false, .bl false, .bl false]) := by kernel_rfl
  have a3 : addD (.lst [.bl false, .bl false, .bl false, .bl false, .bl false, .bl false, .bl false, .bl false, .bl false, .bl false, .bl false, .bl false, .bl false, .bl true, .bl false, .bl false, .bl false, .bl false]) (.lst [.bl false, .bl false, .bl false, .bl false, .bl false, .bl false, .bl false]) = some (.lst [.bl false, .bl false, .bl false, .bl false, .bl false, .bl false, .bl false, .bl false, .bl false, .bl false, .bl false, .bl false, .bl false, .bl true, .bl false, .bl false, .bl false, .bl false, .bl false, .bl false, .bl false, .bl false, .bl false, .bl false, .bl false]) := by kernel_rfl
  have w1 : addD (.lst [.str "row", .str "table", .str "key", .str "keys", .str "rows", .str "order", .str "rule", .str "integer", .str "scan", .str "bound", .str "formula", .str "deed", .str "text"]) (.lst [.str "bytes", .str "line", .str "missing", .str "impossible", .str "large", .str "nothing", .str "twice", .str "held", .str "many", .str "competing", .str "ringed", .str "collision"]) = some (.lst [.str "row", .str "table", .str "key", .str "keys", .str "rows", .str "order", .str "rule", .str "integer", .str "scan", .str "bound", .str "formula", .str "deed", .str "text", .str "bytes", .str "line", .str "missing", .str "impossible", .str "large", .str "nothing", .str "twice", .str "held", .str "many", .str "competing", .str "ringed", .str "collision"]) := by kernel_rfl
  have k1 : countD (.lst [.bl false, .bl false, .bl false, .bl false, .bl false, .bl false, .bl false, .bl false, .bl false, .bl false, .bl false, .bl false, .bl false, .bl true, .bl false, .bl false, .bl false, .bl false, .bl false, .bl false, .bl false, .bl false, .bl false, .bl false, .bl false]) [.bl true] = some (.int 1) := by kernel_rfl
  have k2 : indexD (.lst [.bl false, .bl false, .bl false, .bl false, .bl false, .bl false, .bl false, .bl false, .bl false, .bl false, .bl false, .bl false, .bl false, .bl true, .bl false, .bl false, .bl false, .bl false, .bl false, .bl false, .bl false, .bl false, .bl false, .bl false, .bl false]) [.bl true] = some (.int 13) := by kernel_rfl
  have k3 : neD (.int 1) (.int 1) = some (.bl false) := by kernel_rfl
  have k4 : ixD (.lst [.str "row", .str "table", .str "key", .str "keys", .str "rows", .str "order", .str "rule", .str "integer", .str "scan", .str "bound", .str "formula", .str "deed", .str "text", .str "bytes", .str "line", .str "missing", .str "impossible", .str "large", .str "nothing", .str "twice", .str "held", .str "many", .str "competing", .str "ringed", .str "collision"]) (.int 13) = some (.str "bytes") := by kernel_rfl
  simp [m_law_word, ↓ev_isE c0, ↓ev_isE c1, ↓ev_isE c2, ↓ev_isE c3, ↓ev_isE c4, ↓ev_isE c5, ↓ev_isE c6, ↓ev_isE c7, ↓ev_isE c8, ↓ev_isE c9, ↓ev_isE c10, ↓ev_isE c11, ↓ev_isE c12, ↓ev_isE c13, ↓ev_isE c14, ↓ev_isE c15, ↓ev_isE c16, ↓ev_isE c17, ↓ev_isE c18, ↓ev_isE c19, ↓ev_isE c20, ↓ev_isE c21, ↓ev_isE c22, ↓ev_isE c23, ↓ev_isE c24, ↓ev_isV, sSeq, sAsg, sIf, sRet, sNx, gN, mNew, nLst, mCons, mNil, mC, mVar, mBin, mBm, mOr, mNot, mTst, Rs.bind, opt, look, looks, frz, frzL, bOf, isLst, e0, e1, e2, e3, e4, e5, e6, e7, e8, e9, e10, e11, e12, e13, e14, e15, e16, e17, e18, e19, e20, e21, e22, e23, e24, a1, a2, a3, w1, k1, k2, k3, k4]
theorem r_word_NotBytes (b : Addr) : runF (m_law_word b "NotBytes") 3 [.ref b] = .ok (.str "bytes") := by
  have e : m_law_word b "NotBytes" (ent 3 (([.ref b] : List D).map .dat)) = _ := e_word_NotBytes b
  unfold runF; rw [e]
theorem e_said_NotBytes (f b : Addr) : ∃ ρ, m_law_said b "NotBytes" [.dat (.ref f), .dat (.ref b), .un] = .ok (.rt (.tup [.str "bytes"])) ρ := by
  have q_twice : eqD (.str "bytes") (.str "twice") = some (.bl false) := by kernel_rfl
  have q_held : eqD (.str "bytes") (.str "held") = some (.bl false) := by kernel_rfl
  have q_many : eqD (.str "bytes") (.str "many") = some (.bl false) := by kernel_rfl
  have q_competing : eqD (.str "bytes") (.str "competing") = some (.bl false) := by kernel_rfl
  have q_ringed : eqD (.str "bytes") (.str "ringed") = some (.bl false) := by kernel_rfl
  have q_collision : eqD (.str "bytes") (.str "collision") = some (.bl false) := by kernel_rfl
  exact ⟨_, by simp [m_law_said, r_word_NotBytes b, mCallF, callF, sSeq, sAsg, sIf, sRet, sNx, gN, mTup, mCons, mNil, mC, mVar, mBin, mOr, mTst, mIfE, Rs.bind, opt, look, looks, frz, frzL, bOf, q_twice, q_held, q_many, q_competing, q_ringed, q_collision]; rfl⟩
end Pm

set_option Elab.async false
set_option linter.all false
set_option maxRecDepth 100000
set_option maxHeartbeats 4000000
namespace Pm
open PySem PySem.Spec PyProof.Rows L2
abbrev B30 : Int := 1000000000000000000000000000000
def inK (i : Int) : Bool := decide (-B30 < i) && decide (i < B30)
theorem v_int (i : Int) : f_is_integer [.int i] = .ok (.bl true) := rfl
theorem v_key (i : Int) : f_is_key [.int i] = .ok (.bl (inK i)) := by
  have e : (-B30) = (-1000000000000000000000000000000 : Int) := rfl
  by_cases h : -B30 < i <;> simp [inK, f_is_key, m_is_key, runF, sRet, mAndV, mTst, mCallF, callF, mChain, mUn, mC, mVar, mCons, mNil, Rs.bind, opt, look, frz, frzL, ent, v_int, bOf, ltA, negD, h]
def KB (k : Int) : Array UInt8 := byteArr (PySem.W.KTBy.little 13 (k + B30)).reverse
theorem v_kb {k : Int} (h : inK k = true) : f_key_bytes [.int k] = .ok (.byt (KB k)) := by
  have h' := h
  simp only [inK, Bool.and_eq_true, decide_eq_true_eq] at h'
  have e : tbD (.int (k + B30)) [.int 13, .str "big"] = some (.byt (KB k)) := by
    have c : ("big" : Str) = "big" ∧ (0 : Int) ≤ 13 ∧ (13 : Int) ≤ 1000 ∧ 0 ≤ k + B30 ∧ k + B30 < 256 ^ (13 : Int).toNat := by
      refine ⟨rfl, by decide, by decide, by omega, ?_⟩
      have e2 : (256 : Int) ^ (13 : Int).toNat = 20282409603651670423947251286016 := by decide
      rw [e2]; have := h'.2; unfold B30 at this ⊢; omega
    exact if_pos c
  simp [f_key_bytes, m_key_bytes, runF, sSeq, sIf, sRet, sNx, mNot, mTst, mCallF, callF, mBm, mBin, mC, mVar, mCons, mNil, Rs.bind, opt, look, looks, frz, frzL, ent, v_key, h, bOf, addD, isInt, e]
theorem v_kb_no {k : Int} (h : inK k = false) : f_key_bytes [.int k] = .exc "NotKey" none := by
  simp [f_key_bytes, m_key_bytes, runF, sSeq, sIf, sRz, sNx, mNot, mTst, mCallF, callF, mC, mVar, mCons, mNil, Rs.bind, opt, look, frz, frzL, ent, v_key, h, bOf]
theorem v_bk_sz {b : Array UInt8} (h : b.size ≠ 13) (h2 : b.size ≤ 1000) : f_bytes_key [.byt b] = .exc "NotBytes" none := by
  have e1 : isiD [.byt b, .ty "bytes"] = some (.bl true) := rfl
  have e2 : lenD [.byt b] = some (.int b.size) := if_pos (by rw [sizeLine_eq]; omega)
  have e3 : neD (.int (b.size : Nat)) (.int 13) = some (.bl true) := by
    have q : eqB (.int (b.size : Nat)) (.int 13) = some (decide ((b.size : Int) = 13)) := rfl
    have z : decide ((b.size : Int) = 13) = false := decide_eq_false (by omega)
    rw [z] at q
    unfold neD; rw [q]; rfl
  simp [f_bytes_key, m_bytes_key, runF, sSeq, sIf, sRz, sNx, mNot, mOr, mTst, mCal, mBin, mC, mVar, mCons, mNil, Rs.bind, opt, look, looks, ent, bOf, e1, e2, e3]
def valB (b : Array UInt8) : Int := PySem.W.KFB.value (PySem.W.KBw.bInts b) - B30
theorem v_bk {b : Array UInt8} (h : b.size = 13) : f_bytes_key [.byt b] = if inK (valB b) then .ok (.int (valB b)) else .exc "NotBytes" none := by
  have e1 : isiD [.byt b, .ty "bytes"] = some (.bl true) := rfl
  have e2 : lenD [.byt b] = some (.int 13) := by
    have q : lenD [.byt b] = some (.int b.size) := if_pos (by rw [sizeLine_eq, h]; omega)
    rw [q, h]; rfl
  have e3 : neD (.int 13) (.int 13) = some (.bl false) := rfl
  have e4 : (("big" : Str) = "big" ∧ b.size ≤ 1000) := ⟨rfl, by omega⟩
  have e5 : subD (.int (PySem.W.KFB.value (PySem.W.KBw.bInts b))) (.int B30) = some (.int (valB b)) := rfl
  by_cases c : inK (valB b) = true
  · simp [f_bytes_key, m_bytes_key, runF, sSeq, sIf, sRz, sNx, sAsg, sRet, gN, mNot, mOr, mTst, mCal, mBin, mFb, mCallF, callF, mC, mVar, mCons, mNil, Rs.bind, opt, look, looks, frz, frzL, ent, bOf, e1, e2, e3, e4.2, e5, v_key, c]
  · have c' : inK (valB b) = false := Bool.eq_false_iff.mpr c
    simp [f_bytes_key, m_bytes_key, runF, sSeq, sIf, sRz, sNx, sAsg, sRet, gN, mNot, mOr, mTst, mCal, mBin, mFb, mCallF, callF, mC, mVar, mCons, mNil, Rs.bind, opt, look, looks, frz, frzL, ent, bOf, e1, e2, e3, e4.2, e5, v_key, c']
theorem v_draw {a b c n : Int} (hb : 0 ≤ b ∧ b < 2147483647) (hn : 0 < n) (hn2 : n < 18446744073709551616) : ∃ r a' b' c' : Int, f_law_draw [.int a, .int b, .int c] [.int n] = .ok (.int r, [.int a', .int b', .int c']) ∧ 0 ≤ r ∧ r < n ∧ 0 ≤ b' ∧ b' < 2147483647 := by
  have hd : ∀ x : Int, CDivW x n := fun x => ⟨hn, by
    have := (Nat.log2_lt (n := n.natAbs) (k := 64) (by omega)).mpr (by omega)
    omega⟩
  have h64 : ∀ x : Int, CDivW x 64 := fun x => ⟨by decide, by decide⟩
  by_cases h : 0 < a
  · refine ⟨a % n, a / n, b, c, ?_, Int.emod_nonneg _ (by omega), Int.emod_lt_of_pos _ hn, hb.1, hb.2⟩
    simp [f_law_draw, m_law_draw, runO, own0, sSeq, sIf, sAsg, sSetI, sRet, sNx, gN, mTst, mCal, mBin, mC, mVar, mCons, mNil, Rs.bind, opt, look, looks, frz, frzL, ent, bOf, ixD, atI, ixN, gtD, intOnly, int1D, modD, fdivD, intOf, h, hn, hd]
  · obtain ⟨u, hu⟩ : ∃ u, u = (b * 48271 + 7919 * (c + 1) + 11) % 2147483647 := ⟨_, rfl⟩
    have u0 : 0 ≤ u := by rw [hu]; exact Int.emod_nonneg _ (by decide)
    have u1 : u < 2147483647 := by rw [hu]; exact Int.emod_lt_of_pos _ (by decide)
    obtain ⟨t, ht⟩ : ∃ t, t = (u * u + 40014 * u + (c + 1)) % 2147483563 := ⟨_, rfl⟩
    have m1 : mulI b 48271 = some (.int (b * 48271)) := if_pos (.inl (.inr ⟨by decide, by decide⟩))
    have m2 : mulI 7919 (c + 1) = some (.int (7919 * (c + 1))) := if_pos (.inl (.inl ⟨by decide, by decide⟩))
    have m3 : mulI u u = some (.int (u * u)) := if_pos (.inl (.inl ⟨by omega, by omega⟩))
    have m4 : mulI 40014 u = some (.int (40014 * u)) := if_pos (.inl (.inl ⟨by decide, by decide⟩))
    have m5 : mulI t 16807 = some (.int (t * 16807)) := if_pos (.inl (.inr ⟨by decide, by decide⟩))
    refine ⟨(t * 16807) % 2147483647 / 64 % n, a, u, c + 1, ?_, Int.emod_nonneg _ (by omega), Int.emod_lt_of_pos _ hn, u0, u1⟩
    simp [f_law_draw, m_law_draw, runO, own0, sSeq, sIf, sAsg, sSetI, sRet, sNx, gN, mTst, mCal, mBin, mC, mVar, mCons, mNil, Rs.bind, opt, look, looks, frz, frzL, ent, bOf, ixD, atI, ixN, gtD, intOnly, int1D, modD, fdivD, addD, mulD, intOf, h, hn, hd, h64, m1, m2, ← hu, m3, m4, ← ht, m5]
theorem ix_ok {xs : List D} {r : Int} (h0 : 0 ≤ r) (h1 : r < xs.length) : ∃ x ∈ xs, ixD (.lst xs) (.int r) = some x := by
  have hl : r.toNat < xs.length := by omega
  refine ⟨xs[r.toNat], List.getElem_mem hl, ?_⟩
  show atI xs r = _
  unfold atI ixN
  rw [if_pos h0, if_pos h1]
  exact List.getElem?_eq_getElem hl
theorem v_pick {a b c : Int} (hb : 0 ≤ b ∧ b < 2147483647) {xs : List D} (h0 : xs ≠ []) (hl : xs.length < 1000000) : ∃ (x : D) (a' b' c' : Int), f_law_pick [.int a, .int b, .int c] [.lst xs] = .ok (x, [.int a', .int b', .int c']) ∧ x ∈ xs ∧ 0 ≤ b' ∧ b' < 2147483647 := by
  have hp : 0 < xs.length := List.length_pos_iff.mpr h0
  obtain ⟨r, a', b', c', e, r0, r1, b0, b1⟩ := v_draw (a := a) (c := c) (n := (xs.length : Int)) hb (by omega) (by omega)
  obtain ⟨x, hx, ex⟩ := ix_ok r0 r1
  refine ⟨x, a', b', c', ?_, hx, b0, b1⟩
  simp [f_law_pick, m_law_pick, runO, own0, sRet, mCal, mBin, mCallO, callO, mC, mVar, mCons, mNil, Rs.bind, opt, look, looks, frz, frzL, ent, lenD, e, ex]
theorem v_drawn_loop : ∀ (l : List D) (a b c s num : Int) (i : Nat) (x3 x4 : Sl), (0 ≤ b ∧ b < 2147483647) → 0 ≤ num → num < 10 ^ i →
    ∃ (a' b' c' num' : Int) (y3 : Sl), loopF (gN 3) m_law_drawn_b1 l [.own true [.int a, .int b, .int c], .dat (.int s), .dat (.int num), x3, x4] = .ok .nx [.own true [.int a', .int b', .int c'], .dat (.int s), .dat (.int num'), y3, x4] ∧ 0 ≤ num' ∧ num' < 10 ^ (i + l.length) ∧ 0 ≤ b' ∧ b' < 2147483647
  | [], a, b, c, s, num, i, x3, x4, hb, h0, h1 => ⟨a, b, c, num, x3, rfl, h0, h1, hb.1, hb.2⟩
  | d :: l, a, b, c, s, num, i, x3, x4, hb, h0, h1 => by
    obtain ⟨r, a', b', c', e, r0, r1, b0, b1⟩ := v_draw (a := a) (c := c) (n := 10) hb (by omega) (by omega)
    have m1 : mulI num 10 = some (.int (num * 10)) := if_pos (.inl (.inr ⟨by decide, by decide⟩))
    have hn : num * 10 + r < 10 ^ (i + 1) := by rw [Int.pow_succ]; omega
    obtain ⟨a2, b2, c2, n2, y3, e2, p1, p2, p3, p4⟩ := v_drawn_loop l a' b' c' s (num * 10 + r) (i + 1) (.dat d) x4 ⟨b0, b1⟩ (by omega) hn
    refine ⟨a2, b2, c2, n2, y3, ?_, p1, by rw [List.length_cons, show i + (l.length + 1) = i + 1 + l.length by omega]; exact p2, p3, p4⟩
    rw [← e2]
    simp [loopF, gN, m_law_drawn_b1, sAsg, mCal, mBin, mCallO, callO, mC, mVar, mCons, mNil, Rs.bind, opt, look, looks, frz, frzL, mulD, addD, m1, e]
theorem pow10_le {m n : Nat} (h : m ≤ n) : (10 : Int) ^ m ≤ 10 ^ n := by
  have e : ∀ k : Nat, (10 : Int) ^ k = ((10 ^ k : Nat) : Int) := fun k => by rw [Int.natCast_pow]; rfl
  rw [e, e]
  exact Int.ofNat_le.mpr (Nat.pow_le_pow_right (by decide) h)
theorem v_drawn {a b c : Int} (hb : 0 ≤ b ∧ b < 2147483647) : ∃ k a' b' c' : Int, f_law_drawn [.int a, .int b, .int c] [] = .ok (.int k, [.int a', .int b', .int c']) ∧ inK k = true ∧ 0 ≤ b' ∧ b' < 2147483647 := by
  obtain ⟨s, a1, b1, c1, e1, s0, s1, b10, b11⟩ := v_draw (a := a) (c := c) (n := 31) hb (by omega) (by omega)
  have hr : rngD [.int s] = some (rngL 0 s.toNat) := if_pos ⟨by omega, by omega⟩
  obtain ⟨a2, b2, c2, num, y3, e2, n0, n1, b20, b21⟩ := v_drawn_loop (rngL 0 s.toNat) a1 b1 c1 s 0 0 .un .un ⟨b10, b11⟩ (by omega) (by decide)
  obtain ⟨q, a3, b3, c3, e3, q0, q1, b30, b31⟩ := v_draw (a := a2) (c := c2) (n := 600) ⟨b20, b21⟩ (by omega) (by omega)
  have n2 : num < B30 := by
    have hlen : (rngL 0 s.toNat).length ≤ 30 := by simp [rngL]; omega
    have : (10 : Int) ^ (0 + (rngL 0 s.toNat).length) ≤ 10 ^ 30 := pow10_le (by omega)
    have e : (10 : Int) ^ 30 = B30 := by decide
    omega
  obtain ⟨x, a4, b4, c4, e4, hx, b40, b41⟩ := v_pick (a := a3) (c := c3) ⟨b30, b31⟩ (xs := [.int num, .int (0 - num), .int (q - 300), .int (B30 - 1), .int (1 - B30), .int (79228162514264337593543950336 - num)]) (by simp) (by simp)
  have hk : ∃ k, x = .int k ∧ inK k = true := by
    have ok : ∀ k, -B30 < k → k < B30 → inK k = true := fun k h1 h2 => by simp [inK, h1, h2]
    simp only [List.mem_cons, List.not_mem_nil, or_false] at hx
    unfold B30 at ok n2 hx
    rcases hx with rfl | rfl | rfl | rfl | rfl | rfl
    all_goals exact ⟨_, rfl, ok _ (by omega) (by omega)⟩
  obtain ⟨k, rfl, hk⟩ := hk
  rw [Int.zero_sub] at e4
  have p1 : powD (.int 10) (.int 30) = some (.int B30) := by kernel_rfl
  have p2 : powD (.int 256) (.int 12) = some (.int 79228162514264337593543950336) := by kernel_rfl
  have l6 : (5 + 1 ≤ sizeLine) = True := by rw [sizeLine_eq]; simp
  refine ⟨k, a4, b4, c4, ?_, hk, b40, b41⟩
  simp [f_law_drawn, m_law_drawn, runO, own0, sSeq, sAsg, sFor, sRet, gN, mRng, mNew, nLst, mCal, mBin, mCallO, callO, mC, mVar, mCons, mNil, Rs.bind, opt, look, looks, frz, frzL, ent, e1, hr, e2, e3, p1, p2, subD, intOnly, addD, sizeLine_eq, e4]
/-! ### digits -/
def nv : List UInt8 → Nat
  | [] => 0
  | x :: xs => x.toNat * 256 ^ xs.length + nv xs
theorem nv_lt : ∀ xs : List UInt8, nv xs < 256 ^ xs.length
  | [] => by decide
  | x :: xs => by
    have h := nv_lt xs
    have hx := x.toNat_lt
    rw [List.length_cons, Nat.pow_succ]
    have : x.toNat * 256 ^ xs.length ≤ 255 * 256 ^ xs.length := Nat.mul_le_mul_right _ (by omega)
    show x.toNat * 256 ^ xs.length + nv xs < _
    omega
theorem ord_nv : ∀ xs ys : List UInt8, xs.length = ys.length → Builtin.Bytes.order xs ys = if nv xs < nv ys then .lt else if nv xs = nv ys then .eq else .gt
  | [], [], _ => rfl
  | [], _ :: _, h => by cases h
  | _ :: _, [], h => by cases h
  | x :: xs, y :: ys, h => by
    have hl : xs.length = ys.length := Nat.succ.inj h
    have h1 := nv_lt xs
    have h2 := nv_lt ys
    have ih := ord_nv xs ys hl
    unfold Builtin.Bytes.order
    show _ = if x.toNat * 256 ^ xs.length + nv xs < y.toNat * 256 ^ ys.length + nv ys then _ else _
    rw [← hl] at h2 ⊢
    by_cases c : x < y
    · rw [if_pos c]
      have c' : x.toNat + 1 ≤ y.toNat := UInt8.lt_iff_toNat_lt.mp c
      have := Nat.mul_le_mul_right (256 ^ xs.length) c'
      rw [Nat.add_mul, Nat.one_mul] at this
      rw [if_pos (by omega)]
    · rw [if_neg c]
      by_cases c2 : x > y
      · rw [if_pos c2]
        have c' : y.toNat + 1 ≤ x.toNat := UInt8.lt_iff_toNat_lt.mp c2
        have := Nat.mul_le_mul_right (256 ^ xs.length) c'
        rw [Nat.add_mul, Nat.one_mul] at this
        rw [if_neg (by omega), if_neg (by simp [nv, ← hl]; omega)]
      · rw [if_neg c2, ih]
        have e : x.toNat = y.toNat := by
          have a := mt UInt8.lt_iff_toNat_lt.mpr c
          have b := mt UInt8.lt_iff_toNat_lt.mpr c2
          omega
        have e2 : (nv (x :: xs) = nv (y :: ys)) ↔ nv xs = nv ys := by
          show x.toNat * 256 ^ xs.length + nv xs = y.toNat * 256 ^ ys.length + nv ys ↔ _
          rw [e, hl]; omega
        by_cases d1 : nv xs < nv ys
        · rw [if_pos d1, if_pos (by rw [e]; omega)]
        · rw [if_neg d1, if_neg (show ¬ (x.toNat * 256 ^ xs.length + nv xs < y.toNat * 256 ^ xs.length + nv ys) by rw [e]; omega)]
          by_cases d2 : nv xs = nv ys
          · rw [if_pos d2, if_pos (e2.mpr d2)]
          · rw [if_neg d2, if_neg (fun z => d2 (e2.mp z))]
theorem val_fold : ∀ (xs : List UInt8) (a : Int), (xs.map fun c => ((c.toNat : Nat) : Int)).foldl (fun a k => a * 256 + k) a = a * 256 ^ xs.length + (nv xs : Nat)
  | [], a => by simp [nv]
  | x :: xs, a => by
    rw [List.map_cons, List.foldl_cons, val_fold xs]
    show _ = a * 256 ^ (xs.length + 1) + ((x.toNat * 256 ^ xs.length + nv xs : Nat) : Int)
    rw [Int.pow_succ, Int.add_mul, Int.natCast_add, Int.natCast_mul, Int.natCast_pow]
    have e : a * 256 * 256 ^ xs.length = a * (256 ^ xs.length * 256) := by rw [Int.mul_assoc, Int.mul_comm 256]
    rw [e]
    show _ = _ + ((x.toNat : Int) * (256 : Int) ^ xs.length + _)
    omega
theorem val_nv (b : Array UInt8) : PySem.W.KFB.value (PySem.W.KBw.bInts b) = (nv b.toList : Nat) := by
  have h := val_fold b.toList 0
  rw [Int.zero_mul, Int.zero_add] at h
  exact h
theorem val_little : ∀ (n : Nat) (x : Int), 0 ≤ x → x < 256 ^ n → PySem.W.KFB.value (PySem.W.KTBy.little n x).reverse = x
  | 0, x, h0, h1 => by
    have : x = 0 := by rw [Int.pow_zero] at h1; omega
    subst this; rfl
  | n + 1, x, h0, h1 => by
    have ih := val_little n (x / 256) (Int.ediv_nonneg h0 (by decide)) (by rw [Int.pow_succ] at h1; omega)
    show PySem.W.KFB.value (x % 256 :: PySem.W.KTBy.little n (x / 256)).reverse = x
    rw [List.reverse_cons]
    unfold PySem.W.KFB.value at ih ⊢
    rw [List.foldl_append, ih]
    show x / 256 * 256 + x % 256 = x
    omega
theorem p256_13 : (256 : Int) ^ 13 = 20282409603651670423947251286016 := by decide
theorem inK_iff {k : Int} : inK k = true ↔ -B30 < k ∧ k < B30 := by simp [inK]
theorem kb_ints (k : Int) : PySem.W.KBw.bInts (KB k) = (PySem.W.KTBy.little 13 (k + B30)).reverse := bInts_of (B8.rev (little_B8 _ _))
theorem kb_size (k : Int) : (KB k).size = 13 := by
  unfold KB
  rw [byteArr_size, List.length_reverse, PySem.W.KTBy.little_length]
theorem kb_val {k : Int} (h : inK k = true) : valB (KB k) = k := by
  obtain ⟨h1, h2⟩ := inK_iff.mp h
  unfold valB
  rw [kb_ints, val_little 13 _ (by omega) (by rw [p256_13]; unfold B30 at *; omega)]
  omega
theorem kb_nv {k : Int} (h : inK k = true) : ((nv (KB k).toList : Nat) : Int) = k + B30 := by
  have e := kb_val h
  unfold valB at e
  rw [val_nv] at e
  omega
theorem v_bk_kb {k : Int} (h : inK k = true) : f_bytes_key [.byt (KB k)] = .ok (.int k) := by
  rw [v_bk (kb_size k), kb_val h, if_pos h]
theorem kb_ord {a b : Int} (ha : inK a = true) (hb : inK b = true) : Builtin.Bytes.order (KB a).toList (KB b).toList = if a < b then .lt else if a = b then .eq else .gt := by
  rw [ord_nv _ _ (by rw [Array.length_toList, Array.length_toList, kb_size, kb_size])]
  have e1 := kb_nv ha
  have e2 := kb_nv hb
  by_cases c : a < b
  · rw [if_pos c, if_pos (by omega)]
  · rw [if_neg c, if_neg (by omega)]
    by_cases c2 : a = b
    · rw [if_pos c2, if_pos (by omega)]
    · rw [if_neg c2, if_neg (by omega)]
theorem kb_lt {a b : Int} (ha : inK a = true) (hb : inK b = true) : ltA (.byt (KB a)) (.byt (KB b)) = some (.bl (decide (a < b))) := by
  show some (D.bl (Builtin.Bytes.order (KB a).toList (KB b).toList == .lt)) = _
  rw [kb_ord ha hb]
  by_cases c : a < b
  · rw [if_pos c, decide_eq_true c]; rfl
  · rw [if_neg c, decide_eq_false c]
    split <;> rfl
theorem kb_le {a b : Int} (ha : inK a = true) (hb : inK b = true) : leA (.byt (KB a)) (.byt (KB b)) = some (.bl (decide (a ≤ b))) := by
  show some (D.bl (Builtin.Bytes.order (KB a).toList (KB b).toList != .gt)) = _
  rw [kb_ord ha hb]
  by_cases c : a < b
  · rw [if_pos c, decide_eq_true (by omega)]; rfl
  · rw [if_neg c]
    by_cases c2 : a = b
    · rw [if_pos c2, decide_eq_true (by omega)]; rfl
    · rw [if_neg c2, decide_eq_false (by omega)]; rfl
theorem kb_inj {a b : Int} (ha : inK a = true) (hb : inK b = true) (e : KB a = KB b) : a = b := by
  have h := kb_val ha
  rw [e, kb_val hb] at h
  exact h.symm
theorem kb_eq {a b : Int} (ha : inK a = true) (hb : inK b = true) : eqD (.byt (KB a)) (.byt (KB b)) = some (.bl (decide (a = b))) := by
  have q : eqD (.byt (KB a)) (.byt (KB b)) = some (.bl (decide (KB a = KB b))) := rfl
  rw [q]
  by_cases c : a = b
  · subst c; simp
  · rw [decide_eq_false c, decide_eq_false (fun z => c (kb_inj ha hb z))]
/-! ### data that repr shows -/
theorem py_ints : ∀ l : List Int, pyL (l.map D.int) = some (l.map PyData.int)
  | [] => rfl
  | x :: l => by
    simp only [List.map_cons, pyL, D.py, py_ints l]
theorem ok_ints : ∀ l : List Int, (∀ x ∈ l, x.natAbs < 10 ^ 60) → okRL (l.map PyData.int) = true
  | [], _ => rfl
  | x :: l, h => by
    simp only [List.map_cons, okRL, okR, Bool.and_eq_true, decide_eq_true_eq]
    exact ⟨h x List.mem_cons_self, ok_ints l fun y hy => h y (List.mem_cons_of_mem _ hy)⟩
theorem w_int {i : Int} (h : i.natAbs < 10 ^ 60) : PyData.weight (.int i) ≤ 200 := by
  simp only [PyData.weight]
  split
  · omega
  · rename_i c
    have hz : i.natAbs ≠ 0 := by simp at c; omega
    have := (Nat.log2_lt hz).mpr (Nat.lt_trans h (show 10 ^ 60 < 2 ^ 200 by decide))
    omega
theorem w_ints : ∀ l : List Int, (∀ x ∈ l, x.natAbs < 10 ^ 60) → PyData.weightAll (l.map PyData.int) ≤ 201 * l.length
  | [], _ => by simp [PyData.weightAll]
  | x :: l, h => by
    have h1 := w_int (h x List.mem_cons_self)
    have h2 := w_ints l fun y hy => h y (List.mem_cons_of_mem _ hy)
    simp only [List.map_cons, PyData.weightAll, List.length_cons]
    omega
theorem d_ints : ∀ l : List Int, PyData.depthAll (l.map PyData.int) = 0
  | [] => by simp [PyData.depthAll]
  | x :: l => by simp only [List.map_cons, PyData.depthAll, PyData.depth, d_ints l]; rfl
theorem v_same {d e : D} {p : PyData} (h1 : d.py = some p) (h2 : e.py = some p) (ok : repOk p = true) : f_law_same [d, e] = .ok (.bl true) := by
  have r1 : repD [d] = some (.str p.shown) := by simp only [repD, h1, ok, if_true]
  have r2 : repD [e] = some (.str p.shown) := by simp only [repD, h2, ok, if_true]
  have r3 : eqD (.str p.shown) (.str p.shown) = some (.bl true) := by
    have q : eqD (.str p.shown) (.str p.shown) = some (.bl (decide (p.shown = p.shown))) := rfl
    rw [q]; simp
  simp [f_law_same, m_law_same, runF, sRet, mBin, mCal, mVar, mCons, mNil, Rs.bind, opt, look, looks, frz, ent, r1, r2, r3]
/-! ### the law's own bytes -/
theorem v_due_loop : ∀ (l : List D) (k N : Int) (acc : List Int) (x3 : Sl), acc.length + l.length ≤ 1000 → ∃ (N' : Int) (y3 : Sl), loopF (gN 3) m_law_due_b1 l [.dat (.int k), .dat (.int N), .dat (.lst (acc.map D.int)), x3] = .ok .nx [.dat (.int k), .dat (.int N'), .dat (.lst (((PySem.W.KTBy.little l.length N).reverse ++ acc).map D.int)), y3]
  | [], k, N, acc, x3, _ => ⟨N, x3, rfl⟩
  | d :: l, k, N, acc, x3, h => by
    rw [List.length_cons] at h
    obtain ⟨N', y3, e⟩ := v_due_loop l k (N / 256) (N % 256 :: acc) (.dat d) (by rw [List.length_cons]; omega)
    refine ⟨N', y3, ?_⟩
    have e1 : addD (.lst [.int (N % 256)]) (.lst (acc.map D.int)) = some (.lst ((N % 256 :: acc).map D.int)) := if_pos (by rw [sizeLine_eq, List.length_map]; simp; omega)
    have e2 : fdivD (.int N) (.int 256) = some (.int (N / 256)) := by
      have c : CDivW N 256 := ⟨by decide, by decide⟩
      show (if CDivW N 256 then some (D.int (N / 256)) else none) = _
      rw [if_pos c]
    have e3 : modD (.int N) (.int 256) = some (.int (N % 256)) := by
      show (if (0 : Int) < 256 then some (D.int (N % 256)) else none) = _
      rw [if_pos (by decide)]
    have eb : m_law_due_b1 [.dat (.int k), .dat (.int N), .dat (.lst (acc.map D.int)), .dat d] = .ok .nx [.dat (.int k), .dat (.int (N / 256)), .dat (.lst ((N % 256 :: acc).map D.int)), .dat d] := by
      refine s_seq (s_asg (pu_bin (pu_lst (pa_cons' (pu_bin (pu_cal (pa_cons' (pu_var rfl) pa_nil') rfl) pu_c e3) pa_nil') (by simp)) (pu_var rfl) e1) (by simp)) ?_
      exact s_asg (pu_bin (pu_var rfl) pu_c e2) (by simp)
    show (gN 3 d _).bind _ = _
    show (m_law_due_b1 [.dat (.int k), .dat (.int N), .dat (.lst (acc.map D.int)), .dat d]).bind _ = _
    rw [eb]
    show loopF (gN 3) m_law_due_b1 l _ = _
    rw [e]
    congr 1
    simp [PySem.W.KTBy.little]
def bts (k : Int) : List Int := (PySem.W.KTBy.little 13 (k + B30)).reverse
theorem v_due {k : Int} : f_law_due [.int k] = .ok (.lst ((bts k).map D.int)) := by
  obtain ⟨N', y3, e⟩ := v_due_loop (rngL 0 13) k (k + B30) [] .un (by decide)
  have p1 : powD (.int 10) (.int 30) = some (.int B30) := by kernel_rfl
  have hs : m_law_due [.dat (.int k), .un, .un, .un] = .ok (.rt (.lst ((bts k).map D.int))) [.dat (.int k), .dat (.int N'), .dat (.lst ((bts k).map D.int)), y3] := by
    refine s_seq (ρ' := [.dat (.int k), .dat (.int (k + B30)), .dat (.lst []), .un]) ?_ (s_seq (ρ' := [.dat (.int k), .dat (.int N'), .dat (.lst ((bts k).map D.int)), y3]) ?_ (s_ret (pu_var rfl)))
    · exact s_par (pa_cons' (pu_bin (pu_var rfl) (pu_bin pu_c pu_c p1) rfl) (pa_cons' (pu_lst pa_nil' (by simp)) pa_nil')) (by simp) (by simp)
    · refine s_for1 (ds := rngL 0 13) (pi_rng (pa_cons' pu_c pa_nil') (by kernel_rfl)) ?_
      rw [List.append_nil] at e
      exact e
  exact runF_ok (N := 4) hs
theorem kb_itm (k : Int) : itm (.byt (KB k)) = some ((bts k).map D.int) := by
  have e : (KB k).toList.map (fun c => D.int ((c.toNat : Nat) : Int)) = (PySem.W.KBw.bInts (KB k)).map D.int := by
    unfold PySem.W.KBw.bInts
    rw [List.map_map]; rfl
  show some ((KB k).toList.map fun c => D.int ((c.toNat : Nat) : Int)) = _
  rw [e, kb_ints]; rfl
theorem bts_B8 (k : Int) : B8 (bts k) := B8.rev (little_B8 _ _)
theorem bts_len (k : Int) : (bts k).length = 13 := by unfold bts; rw [List.length_reverse, PySem.W.KTBy.little_length]
theorem bts_small (k : Int) : ∀ x ∈ bts k, x.natAbs < 10 ^ 60 := fun x hx => by
  have := bts_B8 k x hx
  have e : (10 : Nat) ^ 60 > 256 := by decide
  omega
theorem kb_arr (k : Int) : KB k = byteArr (bts k) := rfl
/-! bytes that are none of a key -/
theorem bk_bad {b : Array UInt8} (h : b.size ≤ 1000) (h2 : b.size ≠ 13) : f_bytes_key [.byt b] = .exc "NotBytes" none := v_bk_sz h2 h
theorem bk_arr {l : List Int} (h : l.length ≤ 1000) (h2 : l.length ≠ 13) : f_bytes_key [.byt (byteArr l)] = .exc "NotBytes" none := bk_bad (by rw [byteArr_size]; exact h) (by rw [byteArr_size]; exact h2)
theorem bk_val {b : Array UInt8} (h : b.size = 13) (h2 : inK (valB b) = false) : f_bytes_key [.byt b] = .exc "NotBytes" none := by
  rw [v_bk h, h2]; rfl
theorem sl_from {l : List Int} {k : Nat} (hk : k ≤ l.length) (hl : l.length ≤ 1000) : slD (some (k : Int)) none (.byt (byteArr l)) = some (.byt (byteArr (l.drop k))) := by
  have q : slD (some (k : Int)) none (.byt (byteArr l)) = some (.byt (PySem.W.KBy.picked (byteArr l) (some (k : Int)) none)) := if_pos (by rw [byteArr_size]; omega)
  rw [q, byteArr_from hk]
theorem sl_to {l : List Int} {k : Nat} (hk : k ≤ l.length) (hl : l.length ≤ 1000) : slD none (some (k : Int)) (.byt (byteArr l)) = some (.byt (byteArr (l.take k))) := by
  have q : slD none (some (k : Int)) (.byt (byteArr l)) = some (.byt (PySem.W.KBy.picked (byteArr l) none (some (k : Int)))) := if_pos (by rw [byteArr_size]; omega)
  rw [q, byteArr_upto hk]
theorem add_arr {a b : List Int} (h : a.length + b.length ≤ 1000) : addD (.byt (byteArr a)) (.byt (byteArr b)) = some (.byt (byteArr (a ++ b))) := by
  have q : addD (.byt (byteArr a)) (.byt (byteArr b)) = some (.byt (byteArr a ++ byteArr b)) := if_pos (by rw [byteArr_size, byteArr_size]; omega)
  rw [q, byteArr_app]
theorem step_size (b : Array UInt8) (h : b.size = 13) : (PySem.W.KBs.picked b none none (some 2)).size ≤ 7 := by
  rw [← PySem.W.KBw.ints_length, PySem.W.KBs.ints_picked rfl]
  have hl : (PySem.W.KBw.bInts b).length = 13 := by rw [PySem.W.KBw.ints_length, h]
  unfold PySem.W.KBs.cut
  rw [hl]
  exact Nat.le_trans (List.length_filterMap_le _ _) (by decide)
theorem val_app255 {l : List Int} (h8 : B8 l) (hl : l.length = 12) : inK (valB (byteArr (255 :: l))) = false := by
  have h9 : B8 (255 :: l) := fun n hn => by
    rcases List.mem_cons.mp hn with rfl | hn
    · exact ⟨by decide, by decide⟩
    · exact h8 n hn
  have ge : ∀ (m : List Int) (a : Int), B8 m → a * 256 ^ m.length ≤ m.foldl (fun a k => a * 256 + k) a := by
    intro m
    induction m with
    | nil => intro a _; simp
    | cons x m ih =>
      intro a hm
      have h0 := (hm x List.mem_cons_self).1
      have h1 := ih (a * 256 + x) fun n hn => hm n (List.mem_cons_of_mem _ hn)
      rw [List.foldl_cons, List.length_cons, Int.pow_succ]
      have e : a * (256 ^ m.length * 256) = (a * 256) * 256 ^ m.length := by rw [Int.mul_assoc, Int.mul_comm 256]
      rw [e]
      have h2 : (a * 256) * 256 ^ m.length ≤ (a * 256 + x) * 256 ^ m.length := Int.mul_le_mul_of_nonneg_right (by omega) (Int.pow_nonneg (by decide))
      omega
  have h1 := ge l 255 h8
  rw [hl] at h1
  have e : valB (byteArr (255 :: l)) = l.foldl (fun a k => a * 256 + k) 255 - B30 := by
    unfold valB
    rw [bInts_of h9]; rfl
  have e2 : (255 : Int) * 256 ^ 12 = 20203181441137406086353707335680 := by decide
  rw [e]
  cases q : inK (l.foldl (fun a k => a * 256 + k) 255 - B30) with
  | false => rfl
  | true =>
    have := (inK_iff.mp q).2
    rw [e2] at h1
    unfold B30 at this
    omega
end Pm

set_option Elab.async false
set_option linter.all false
set_option maxRecDepth 100000
set_option maxHeartbeats 1000000
namespace Pm
open PySem PySem.Spec PyProof.Rows L2
def bhi : List Int := bts (B30 - 1)
def blo : List Int := bts (1 - B30)
theorem bhi_drop : bhi.drop 12 = [255] := by decide +kernel
theorem blo_parts : blo.take 12 ++ blo.take 1 = [0, 0, 0, 0, 0, 0, 0, 0, 0, 0, 0, 0, 0] := by decide +kernel
theorem p30 : powD (.int 10) (.int 30) = some (.int B30) := by kernel_rfl
theorem bad_zero : inK (valB (byteArr [0, 0, 0, 0, 0, 0, 0, 0, 0, 0, 0, 0, 0])) = false := by decide +kernel
theorem bad_ff : inK (valB (repB (byteArr [255]) 13)) = false := by decide +kernel
theorem ff_size : (repB (byteArr [255]) 13).size = 13 := by decide +kernel
theorem mul_ff : mulD (.byt (byteArr [255])) (.int 13) = some (.byt (repB (byteArr [255]) 13)) := by
  show (if 0 < (byteArr [255]).size ∧ (byteArr [255]).size ≤ 16 ∧ -1048576 ≤ (13 : Int) ∧ (13 : Int) ≤ 1048576 then some (D.byt (repB (byteArr [255]) 13)) else none) = _
  exact if_pos ⟨by decide +kernel, by decide +kernel, by decide, by decide⟩
theorem inK_hi : inK (B30 - 1) = true := by decide
theorem inK_lo : inK (1 - B30) = true := by decide
theorem rep_ints {k : Int} : repD [.lst ((bts k).map D.int)] = some (.str (PyData.shown (.list ((bts k).map PyData.int)))) := by
  have hp : (D.lst ((bts k).map D.int)).py = some (.list ((bts k).map PyData.int)) := by
    show (pyL ((bts k).map D.int)).map PyData.list = _
    rw [py_ints]; rfl
  have ok : repOk (.list ((bts k).map PyData.int)) = true := by
    have h1 := ok_ints (bts k) (bts_small k)
    have h2 := w_ints (bts k) (bts_small k)
    have h3 := d_ints (bts k)
    rw [bts_len] at h2
    simp only [repOk, okR, PyData.weight, PyData.depth, h1, h3, Bool.true_and, Bool.and_eq_true, decide_eq_true_eq]
    exact ⟨decide_eq_true (by omega), by decide⟩
  simp only [repD, hp, ok, if_true]
theorem v_bad {k : Int} : ∃ xs : List D, f_law_bad_data [.byt (KB k)] = .ok (.lst xs) ∧ xs.length = 11 ∧ ∀ x ∈ xs, f_bytes_key [x] = .exc "NotBytes" none := by
  have hl := bts_len k
  have pk := kb_arr k
  have b8 := bts_B8 k
  have phi : KB (B30 - 1) = byteArr bhi := rfl
  have plo : KB (1 - B30) = byteArr blo := rfl
  have lhi : bhi.length = 13 := bts_len _
  have llo : blo.length = 13 := bts_len _
  have e1 : slD (some 1) none (.byt (KB k)) = some (.byt (byteArr ((bts k).drop 1))) := sl_from (l := bts k) (k := 1) (by omega) (by omega)
  have e2 : slD none (some 12) (.byt (KB k)) = some (.byt (byteArr ((bts k).take 12))) := sl_to (l := bts k) (k := 12) (by omega) (by omega)
  have e3 : slD none (some 1) (.byt (KB k)) = some (.byt (byteArr ((bts k).take 1))) := sl_to (l := bts k) (k := 1) (by omega) (by omega)
  have e4 : addD (.byt (KB k)) (.byt (byteArr ((bts k).take 1))) = some (.byt (byteArr (bts k ++ (bts k).take 1))) := add_arr (a := bts k) (b := (bts k).take 1) (by rw [List.length_take]; omega)
  have e5 : addD (.byt (KB k)) (.byt (KB k)) = some (.byt (byteArr (bts k ++ bts k))) := add_arr (a := bts k) (b := bts k) (by omega)
  have e6 : slD none (some 0) (.byt (KB k)) = some (.byt (byteArr ((bts k).take 0))) := sl_to (l := bts k) (k := 0) (by omega) (by omega)
  have e7 : stepD 2 none none (.byt (KB k)) = some (.byt (PySem.W.KBs.picked (KB k) none none (some 2))) := by
    show (if (KB k).size ≤ 1000 then some (D.byt (PySem.W.KBs.picked (KB k) none none (some 2))) else none) = _
    exact if_pos (by rw [kb_size]; decide)
  have e8 : slD none (some 12) (.byt (byteArr blo)) = some (.byt (byteArr (blo.take 12))) := sl_to (l := blo) (k := 12) (by omega) (by omega)
  have e9 : slD none (some 1) (.byt (byteArr blo)) = some (.byt (byteArr (blo.take 1))) := sl_to (l := blo) (k := 1) (by omega) (by omega)
  have e10 : addD (.byt (byteArr (blo.take 12))) (.byt (byteArr (blo.take 1))) = some (.byt (byteArr [0, 0, 0, 0, 0, 0, 0, 0, 0, 0, 0, 0, 0])) := by
    rw [add_arr (by rw [List.length_take, List.length_take]; omega), blo_parts]
  have e11 : slD (some 12) none (.byt (byteArr bhi)) = some (.byt (byteArr [255])) := by
    have q : slD (some 12) none (.byt (byteArr bhi)) = some (.byt (byteArr (bhi.drop 12))) := sl_from (l := bhi) (k := 12) (by omega) (by omega)
    rw [q, bhi_drop]
  have e12 : addD (.byt (byteArr [255])) (.byt (byteArr ((bts k).drop 1))) = some (.byt (byteArr (255 :: (bts k).drop 1))) := add_arr (a := [255]) (b := (bts k).drop 1) (by rw [List.length_drop]; simp; omega)
  have c1 : f_key_bytes [.int (1 - B30)] = .ok (.byt (byteArr blo)) := v_kb inK_lo
  have c2 : f_key_bytes [.int (B30 - 1)] = .ok (.byt (byteArr bhi)) := v_kb inK_hi
  let xs1 : List D := [.byt (byteArr ((bts k).drop 1)), .byt (byteArr ((bts k).take 12)), .byt (byteArr (bts k ++ (bts k).take 1)), .byt (byteArr (bts k ++ bts k)), .byt (byteArr ((bts k).take 0)), .byt (PySem.W.KBs.picked (KB k) none none (some 2)), .byt (byteArr [0, 0, 0, 0, 0, 0, 0, 0, 0, 0, 0, 0, 0])]
  let xs2 : List D := [.byt (repB (byteArr [255]) 13), .byt (byteArr (255 :: (bts k).drop 1)), .lst ((bts k).map D.int), .str (PyData.shown (.list ((bts k).map PyData.int)))]
  have ea : addD (.lst xs1) (.lst xs2) = some (.lst (xs1 ++ xs2)) := by
    show (if xs1.length + xs2.length ≤ sizeLine then some (D.lst (xs1 ++ xs2)) else none) = _
    exact if_pos (by rw [sizeLine_eq]; simp [xs1, xs2])
  have lc : ∀ ρ : DEnv, ρ[0]? = some (.dat (.byt (KB k))) → ρ.length = 5 → noOwn ρ [4] = true → Pl (nLc (mIt (mVar 0)) (gN 4) mYes (mVar 4) [4]) ρ ((bts k).map D.int) := fun ρ h0 h5 ho => by
    have h := pl_lc (me := mVar 4) (j := 4) (G := fun d => d) (pi_it (pu_var h0) (kb_itm k)) (fun d _ => pu_var (by rw [List.getElem?_set_self (by omega)])) (by omega) ho (by rw [List.length_map, bts_len]; decide)
    rw [List.map_id'] at h
    exact h
  refine ⟨xs1 ++ xs2, ?_, by simp [xs1, xs2], ?_⟩
  · have hs : m_law_bad_data [.dat (.byt (KB k)), .un, .un, .un, .un] = .ok (.rt (.lst (xs1 ++ xs2))) [.dat (.byt (KB k)), .dat (.byt (byteArr blo)), .dat (.byt (byteArr bhi)), .dat (.lst xs1), .un] := by
      refine s_seq (ρ' := [.dat (.byt (KB k)), .dat (.byt (byteArr blo)), .dat (.byt (byteArr bhi)), .un, .un]) ?_ (s_seq (ρ' := [.dat (.byt (KB k)), .dat (.byt (byteArr blo)), .dat (.byt (byteArr bhi)), .dat (.lst xs1), .un]) ?_ (s_ret ?_))
      · exact s_par (pa_cons' (pu_call (pa_cons' (pu_bin pu_c (pu_bin pu_c pu_c p30) rfl) pa_nil') rfl c1) (pa_cons' (pu_call (pa_cons' (pu_bin (pu_bin pu_c pu_c p30) pu_c rfl) pa_nil') rfl c2) pa_nil')) (by exact Nat.le_of_ble_eq_true rfl) (by exact Nat.le_of_ble_eq_true rfl)
      · refine s_asg (pu_lst (pa_cons' (pu_sl (pu_var rfl) (pp_so pu_c) pp_no e1) (pa_cons' (pu_sl (pu_var rfl) pp_no (pp_so pu_c) e2) (pa_cons' (pu_bin (pu_var rfl) (pu_sl (pu_var rfl) pp_no (pp_so pu_c) e3) e4) (pa_cons' (pu_bin (pu_var rfl) (pu_var rfl) e5) (pa_cons' (pu_sl (pu_var rfl) pp_no (pp_so pu_c) e6)
          (pa_cons' (pu_st (pu_var rfl) pp_no pp_no e7) (pa_cons' (pu_bin (pu_sl (pu_var rfl) pp_no (pp_so pu_c) e8) (pu_sl (pu_var rfl) pp_no (pp_so pu_c) e9) e10) pa_nil'))))))) (by exact Nat.le_of_ble_eq_true rfl)) (by exact Nat.le_of_ble_eq_true rfl)
      · exact pu_bin (pu_var rfl) (pu_lst (pa_cons' (pu_bin (pu_sl (pu_var rfl) (pp_so pu_c) pp_no e11) pu_c mul_ff) (pa_cons' (pu_bin (pu_sl (pu_var rfl) (pp_so pu_c) pp_no e11) (pu_sl (pu_var rfl) (pp_so pu_c) pp_no e1) e12)
          (pa_cons' (pu_new (lc _ rfl rfl rfl)) (pa_cons' (pu_cal (pa_cons' (pu_new (lc _ rfl rfl rfl)) pa_nil') rep_ints) pa_nil')))) (by exact Nat.le_of_ble_eq_true rfl)) ea
    exact runF_ok (N := 5) hs
  · intro x hx
    simp only [xs1, xs2, List.cons_append, List.nil_append, List.mem_cons, List.not_mem_nil, or_false] at hx
    rcases hx with rfl | rfl | rfl | rfl | rfl | rfl | rfl | rfl | rfl | rfl | rfl
    · exact bk_arr (by rw [List.length_drop]; omega) (by rw [List.length_drop]; omega)
    · exact bk_arr (by rw [List.length_take]; omega) (by rw [List.length_take]; omega)
    · exact bk_arr (by rw [List.length_append, List.length_take]; omega) (by rw [List.length_append, List.length_take]; omega)
    · exact bk_arr (by rw [List.length_append]; omega) (by rw [List.length_append]; omega)
    · exact bk_arr (by rw [List.length_take]; omega) (by rw [List.length_take]; omega)
    · have := step_size (KB k) (kb_size k)
      exact bk_bad (by omega) (by omega)
    · exact bk_val (by decide +kernel) bad_zero
    · exact bk_val ff_size bad_ff
    · exact bk_val (by rw [byteArr_size, List.length_cons, List.length_drop, hl]) (val_app255 (b8.drop 1) (by rw [List.length_drop]; omega))
    · rfl
    · rfl
def thingsL : List D := [.non, .bl true, .bl false, .str "", .str "1", .str "none", .tup [], .lst [], .dic [] [], .tup [.int 1], .lst [.int 1], .dic [.inl 1] [.int 1], .tup [.non], .tup [.tup [.int 1, .int 2]], .lst [.tup [.int 1, .int 2]], .tup [.str "1"], .tup [.int 1, .bl true], .tup [.bl true], .tup [.lst [.int 1]], .str "1>2"]
theorem v_things : f_law_things [] = .ok (.lst thingsL) := by kernel_rfl
theorem things_kb : ∀ x ∈ thingsL, f_key_bytes [x] = .exc "NotKey" none := by
  intro x hx
  simp only [thingsL, List.mem_cons, List.not_mem_nil, or_false] at hx
  rcases hx with rfl | rfl | rfl | rfl | rfl | rfl | rfl | rfl | rfl | rfl | rfl | rfl | rfl | rfl | rfl | rfl | rfl | rfl | rfl | rfl <;> kernel_rfl
theorem things_bk : ∀ x ∈ thingsL, f_bytes_key [x] = .exc "NotBytes" none := by
  intro x hx
  simp only [thingsL, List.mem_cons, List.not_mem_nil, or_false] at hx
  rcases hx with rfl | rfl | rfl | rfl | rfl | rfl | rfl | rfl | rfl | rfl | rfl | rfl | rfl | rfl | rfl | rfl | rfl | rfl | rfl | rfl <;> kernel_rfl
end Pm

set_option Elab.async false
set_option linter.all false
set_option maxRecDepth 100000
set_option maxHeartbeats 1000000
namespace Pm
open PySem PySem.Spec PyProof.Rows L2
/-! the law -/
abbrev Lot (k : Int) : D := .byt (KB k)
abbrev EvB (ns : List Int) (x1 x2 : Sl) (ks : List Int) (x5 x6 x7 x8 x9 x10 : Sl) : DEnv := [.dat (.scr ns), x1, x2, .dat (.lst (ks.map D.int)), .dat (.lst (ks.map Lot)), x5, x6, x7, x8, x9, x10, .un, .un]
theorem same_bools (a b c : Bool) : f_law_same [.lst [.bl a, .bl b, .bl c], .lst [.bl a, .bl b, .bl c]] = .ok (.bl true) := by
  cases a <;> cases b <;> cases c <;> exact v_same rfl rfl (by decide)
theorem at_int {ks : List Int} {i : Nat} {k : Int} (h : ks[i]? = some k) : ixD (.lst (ks.map D.int)) (.int (i : Nat)) = some (.int k) := ix_at (by rw [List.getElem?_map, h]; rfl)
theorem at_lot {ks : List Int} {i : Nat} {k : Int} (h : ks[i]? = some k) : ixD (.lst (ks.map Lot)) (.int (i : Nat)) = some (.byt (KB k)) := ix_at (by rw [List.getElem?_map, h]; rfl)
theorem b3_step {ns ks : List Int} {i j : Nat} {k o : Int} (hi : ks[i]? = some k) (hj : ks[j]? = some o) (hk : inK k = true) (ho : inK o = true) (x1 x2 x7 x10 : Sl) :
    m_law_b3 (EvB ns x1 x2 ks (.dat (.int (i : Nat))) (.dat (.int k)) x7 (.dat (.int (j : Nat))) (.dat (.int o)) x10) = .ok .nx (EvB ns x1 x2 ks (.dat (.int (i : Nat))) (.dat (.int k)) x7 (.dat (.int (j : Nat))) (.dat (.int o)) (.dat (.lst [.bl (decide (k < o)), .bl (decide (k = o)), .bl (decide (k ≤ o))]))) := by
  refine s_seq (ρ' := EvB ns x1 x2 ks (.dat (.int (i : Nat))) (.dat (.int k)) x7 (.dat (.int (j : Nat))) (.dat (.int o)) (.dat (.lst [.bl (decide (k < o)), .bl (decide (k = o)), .bl (decide (k ≤ o))]))) ?_ ?_
  · refine s_asg (pu_lst (pa_cons' (pu_bin (pu_bin (pu_var rfl) (pu_var rfl) (at_lot hi)) (pu_bin (pu_var rfl) (pu_var rfl) (at_lot hj)) (kb_lt hk ho)) (pa_cons' (pu_bin (pu_bin (pu_var rfl) (pu_var rfl) (at_lot hi)) (pu_bin (pu_var rfl) (pu_var rfl) (at_lot hj)) (kb_eq hk ho)) (pa_cons' (pu_bin (pu_bin (pu_var rfl) (pu_var rfl) (at_lot hi)) (pu_bin (pu_var rfl) (pu_var rfl) (at_lot hj)) (kb_le hk ho)) pa_nil'))) (by exact Nat.le_of_ble_eq_true rfl)) (by exact Nat.le_of_ble_eq_true rfl)
  · exact s_ifF (pt_not' (pt_tst (pu_call (pa_cons' (pu_var rfl) (pa_cons' (pu_lst (pa_cons' (pu_bin (pu_var rfl) (pu_var rfl) rfl) (pa_cons' (pu_bin (pu_var rfl) (pu_var rfl) rfl) (pa_cons' (pu_bin (pu_var rfl) (pu_var rfl) rfl) pa_nil'))) (by exact Nat.le_of_ble_eq_true rfl)) pa_nil')) rfl (same_bools _ _ _)))) rfl
theorem same_key {k : Int} (hk : inK k = true) : f_law_same [.tup [.str "returned", .int k], .tup [.str "returned", .int k]] = .ok (.bl true) := by
  have hs : k.natAbs < 10 ^ 60 := by
    have := inK_iff.mp hk
    unfold B30 at this
    have e : (10 : Nat) ^ 60 = 1000000000000000000000000000000000000000000000000000000000000 := by decide
    omega
  refine v_same (p := .tuple [.str "returned", .int k]) rfl rfl ?_
  have w := w_int hs
  have o1 : okR (.str "returned") = true := by decide
  have w1 : PyData.weight (.str "returned") ≤ 2000 := by decide
  have ew : PyData.weight (.tuple [.str "returned", .int k]) = PyData.weight (.str "returned") + 1 + (PyData.weight (.int k) + 1 + 0) := rfl
  have ok : okR (.tuple [.str "returned", .int k]) = (okR (.str "returned") && (decide (k.natAbs < 10 ^ 60) && true)) := rfl
  have dp : PyData.depth (.tuple [.str "returned", .int k]) ≤ 32 := by show max 0 (max 0 0) + 1 ≤ 32; decide
  unfold repOk
  rw [ok, o1, decide_eq_true hs, decide_eq_true dp, decide_eq_true (by omega)]; rfl
theorem same_due (k : Int) : f_law_same [.lst [.lst ((bts k).map D.int), .int 13], .lst [.lst ((bts k).map D.int), .int 13]] = .ok (.bl true) := by
  have hp : (D.lst [.lst ((bts k).map D.int), .int 13]).py = some (.list [.list ((bts k).map PyData.int), .int 13]) := by
    have hq : (D.lst ((bts k).map D.int)).py = some (.list ((bts k).map PyData.int)) := by
      show (pyL ((bts k).map D.int)).map PyData.list = _
      rw [py_ints]; rfl
    show (pyL [.lst ((bts k).map D.int), .int 13]).map PyData.list = _
    unfold pyL
    rw [hq]; rfl
  refine v_same hp hp ?_
  have h1 := ok_ints (bts k) (bts_small k)
  have h2 := w_ints (bts k) (bts_small k)
  have h3 := d_ints (bts k)
  rw [bts_len] at h2
  have w13 : PyData.weight (.int 13) ≤ 2000 := by decide
  have ew : PyData.weight (.list [.list ((bts k).map PyData.int), .int 13]) = PyData.weightAll ((bts k).map PyData.int) + 1 + (PyData.weight (.int 13) + 1 + 0) := rfl
  have ok : okR (.list [.list ((bts k).map PyData.int), .int 13]) = (okRL ((bts k).map PyData.int) && (okR (.int 13) && true)) := rfl
  have o13 : okR (.int 13) = true := by decide
  have dp : PyData.depth (.list [.list ((bts k).map PyData.int), .int 13]) ≤ 32 := by
    show max (PyData.depthAll ((bts k).map PyData.int) + 1) (max 0 0) + 1 ≤ 32
    rw [h3]; decide
  unfold repOk
  rw [ok, o13, h1, decide_eq_true dp, decide_eq_true (by omega)]; rfl
theorem ne_self (b : Array UInt8) : neD (.byt b) (.byt b) = some (.bl false) := by
  have q : eqB (.byt b) (.byt b) = some (decide (b = b)) := rfl
  rw [decide_eq_true rfl] at q
  unfold neD
  rw [q]; rfl
theorem len_kb (k : Int) : lenD [.byt (KB k)] = some (.int 13) := by
  have q : lenD [.byt (KB k)] = some (.int (KB k).size) := by
    show (if (KB k).size ≤ sizeLine then some (D.int ((KB k).size : Nat)) else none) = _
    exact if_pos (by rw [sizeLine_eq, kb_size]; omega)
  rw [q, kb_size]; rfl
theorem b4_step {wd : Str → Option D} {ns ks : List Int} {i : Nat} {k : Int} (hi : ks[i]? = some k) (hK : ∀ k ∈ ks, inK k = true) (x1 x2 x7 x8 x9 x10 : Sl) :
    ∃ y8 y9 y10, m_law_b4 wd (EvB ns x1 x2 ks (.dat (.int (i : Nat))) (.dat (.int k)) x7 x8 x9 x10) = .ok .nx (EvB ns x1 x2 ks (.dat (.int (i : Nat))) (.dat (.int k)) x7 y8 y9 y10) := by
  have hk : inK k = true := hK k (List.mem_of_getElem? hi)
  have lc : Pl (nLc (mIt (mBin ixD (mVar 4) (mVar 5))) (gN 12) mYes (mVar 12) [12]) (EvB ns x1 x2 ks (.dat (.int (i : Nat))) (.dat (.int k)) x7 x8 x9 x10) ((bts k).map D.int) := by
    have hx : Pu (mBin ixD (mVar 4) (mVar 5)) (EvB ns x1 x2 ks (.dat (.int (i : Nat))) (.dat (.int k)) x7 x8 x9 x10) (.byt (KB k)) := pu_bin (pu_var (i := 4) (d := .lst (ks.map Lot)) rfl) (pu_var (i := 5) (d := .int (i : Nat)) rfl) (at_lot hi)
    have h := pl_lc (me := mVar 12) (j := 12) (G := fun d => d) (ρ := EvB ns x1 x2 ks (.dat (.int (i : Nat))) (.dat (.int k)) x7 x8 x9 x10) (pi_it hx (kb_itm k)) (fun d _ => pu_var rfl) (by exact Nat.le_of_ble_eq_true rfl) rfl (by rw [List.length_map, bts_len]; decide)
    rw [List.map_id'] at h
    exact h
  have c : ∃ ρ', sFor (mEnum (mCons (mVar 3) mNil)) (gT (gsCons (gN 8) (gsCons (gN 9) gsNil))) m_law_b3 (EvB ns x1 x2 ks (.dat (.int (i : Nat))) (.dat (.int k)) x7 x8 x9 x10) = .ok .nx ρ' ∧ ∃ y8 y9 y10, ρ' = EvB ns x1 x2 ks (.dat (.int (i : Nat))) (.dat (.int k)) x7 y8 y9 y10 := by
    refine s_for (pi_enum' (pu_var rfl)) (fun ρ => ∃ y8 y9 y10, ρ = EvB ns x1 x2 ks (.dat (.int (i : Nat))) (.dat (.int k)) x7 y8 y9 y10) ⟨_, _, _, rfl⟩ ?_
    rintro d hd ρ ⟨y8, y9, y10, rfl⟩
    obtain ⟨j, e, rfl, hj⟩ := enum_mem 0 _ d hd
    rw [List.getElem?_map] at hj
    cases ho : ks[j]? with
    | none => rw [ho] at hj; cases hj
    | some o =>
      rw [ho] at hj
      cases hj
      rw [Nat.zero_add]
      exact ⟨EvB ns x1 x2 ks (.dat (.int (i : Nat))) (.dat (.int k)) x7 (.dat (.int (j : Nat))) (.dat (.int o)) y10, _, rfl, b3_step hi ho hk (hK o (List.mem_of_getElem? ho)) x1 x2 x7 y10, _, _, _, rfl⟩
  obtain ⟨ρ', hc, y8, y9, y10, rfl⟩ := c
  refine ⟨y8, y9, y10, s_seq (ρ' := EvB ns x1 x2 ks (.dat (.int (i : Nat))) (.dat (.int k)) x7 x8 x9 x10) ?_ (s_seq (ρ' := EvB ns x1 x2 ks (.dat (.int (i : Nat))) (.dat (.int k)) x7 x8 x9 x10) ?_ hc)⟩
  · exact s_ifF (pt_not' (pt_tst (pu_call (pa_cons' (pu_lst (pa_cons' (pu_new lc) (pa_cons' (pu_cal (pa_cons' (pu_bin (pu_var rfl) (pu_var rfl) (at_lot hi)) pa_nil') (len_kb k)) pa_nil')) (by exact Nat.le_of_ble_eq_true rfl)) (pa_cons' (pu_lst (pa_cons' (pu_call (pa_cons' (pu_var rfl) pa_nil') rfl v_due) (pa_cons' pu_c pa_nil')) (by exact Nat.le_of_ble_eq_true rfl)) pa_nil')) rfl (same_due k)))) rfl
  · exact s_ifF (pt_orF (pt_not' (pt_tst (pu_call (pa_cons' (pu_saidK (pu_call (pa_cons' (pu_bin (pu_var rfl) (pu_var rfl) (at_lot hi)) pa_nil') rfl (v_bk_kb hk))) (pa_cons' (pu_tup (pa_cons' pu_c (pa_cons' (pu_var rfl) pa_nil')) (by exact Nat.le_of_ble_eq_true rfl)) pa_nil')) rfl (same_key hk)))) (pt_tst (pu_bin (pu_call (pa_cons' (pu_var rfl) pa_nil') rfl (v_kb hk)) (pu_bin (pu_var rfl) (pu_var rfl) (at_lot hi)) (ne_self _)))) rfl
end Pm

set_option Elab.async false
set_option linter.all false
set_option maxRecDepth 100000
set_option maxHeartbeats 1000000
namespace Pm
open PySem PySem.Spec PyProof.Rows L2
theorem s_seq_rt {x y : SM} {ρ ρ' : DEnv} {d : D} (p : x ρ = .ok (.rt d) ρ') : sSeq x y ρ = .ok (.rt d) ρ' := by
  show (x ρ).bind _ = _
  rw [p]; rfl
theorem draw_loop (x0 x1 x3 x4 x5 x6 x7 x8 x9 x10 x12 : Sl) : ∀ (l : List D) (acc : List Int) (a b c : Int) (x11 : Sl), (0 ≤ b ∧ b < 2147483647) → ∃ (ks : List Int) (a' b' c' : Int) (y : Sl),
    loopC (gN 11) mYes (mCallO 1 f_law_drawn (mCons (mVar 2) mNil)) [11] l (acc.map D.int) [x0, x1, .own false [.int a, .int b, .int c], x3, x4, x5, x6, x7, x8, x9, x10, x11, x12] = .ok ((acc ++ ks).map D.int) [x0, x1, .own false [.int a', .int b', .int c'], x3, x4, x5, x6, x7, x8, x9, x10, y, x12] ∧ ks.length = l.length ∧ ∀ k ∈ ks, inK k = true
  | [], acc, a, b, c, x11, hb => ⟨[], a, b, c, x11, by rw [List.append_nil]; rfl, rfl, fun _ h => by cases h⟩
  | d :: l, acc, a, b, c, x11, hb => by
    obtain ⟨k, a1, b1, c1, e, hk, hb1⟩ := v_drawn (a := a) (c := c) hb
    obtain ⟨ks, a', b', c', y, h1, h2, h3⟩ := draw_loop x0 x1 x3 x4 x5 x6 x7 x8 x9 x10 x12 l (acc ++ [k]) a1 b1 c1 (.dat d) hb1
    refine ⟨k :: ks, a', b', c', y, ?_, by rw [List.length_cons, List.length_cons, h2], fun x hx => ?_⟩
    · have e2 : mCallO 1 f_law_drawn (mCons (mVar 2) mNil) [x0, x1, .own false [.int a, .int b, .int c], x3, x4, x5, x6, x7, x8, x9, x10, .dat d, x12] = .ok (.dat (.int k)) [x0, x1, .own false [.int a1, .int b1, .int c1], x3, x4, x5, x6, x7, x8, x9, x10, .dat d, x12] := by
        show (match f_law_drawn [.int a, .int b, .int c] [] with
          | .ok (d', es) => Rs.ok (Vl.dat d') ([x0, x1, .own false [.int a, .int b, .int c], x3, x4, x5, x6, x7, x8, x9, x10, .dat d, x12].set 2 (.own false es))
          | _ => .bad) = _
        rw [e]; rfl
      rw [List.map_append] at h1
      unfold loopC
      show ((nox (mCallO 1 f_law_drawn (mCons (mVar 2) mNil) [x0, x1, .own false [.int a, .int b, .int c], x3, x4, x5, x6, x7, x8, x9, x10, .dat d, x12])).bind fun x ρ3 => (opt (frz ρ3 x) ρ3).bind fun p _ => loopC (gN 11) mYes (mCallO 1 f_law_drawn (mCons (mVar 2) mNil)) [11] l (acc.map D.int ++ [p.1]) p.2) = _
      rw [e2]
      show loopC _ _ _ _ l (acc.map D.int ++ [D.int k]) _ = _
      rw [show acc ++ k :: ks = acc ++ [k] ++ ks by simp]
      exact h1
    · rcases List.mem_cons.mp hx with rfl | hx
      · exact hk
      · exact h3 x hx
theorem nLc_ok {mi : IM} {mg : GM} {mt : TM} {me : EM} {vs : List Nat} {ρ ρ' : DEnv} {ds acc : List D} (hi : mi ρ = .ok ds ρ) (ho : noOwn ρ vs = true) (hl : ds.length ≤ 16777216) (h : loopC mg mt me vs ds [] ρ = .ok acc ρ') : nLc mi mg mt me vs ρ = .ok acc (backD ρ ρ' vs) := by
  unfold nLc
  rw [hi]
  show (if (noOwn ρ vs && decide (ds.length ≤ sizeLine)) = true then (nox (loopC mg mt me vs ds [] ρ)).bind fun acc ρ2 => Rs.ok acc (backD ρ ρ2 vs) else .bad) = _
  rw [if_pos (by rw [ho, decide_eq_true (by rw [sizeLine_eq]; exact hl)]; rfl), h]; rfl
theorem v_pen (c : Int) : f_law_pen [.int c] = .ok [.int (if c - 1000000000000000000 > 0 then c - 1000000000000000000 else 0), .int (c % 2147483629), .int 1] := by
  have p : powD (.int 10) (.int 18) = some (.int 1000000000000000000) := by kernel_rfl
  have h : Pl m_law_pen [.dat (.int c)] [.int (if c - 1000000000000000000 > 0 then c - 1000000000000000000 else 0), .int (c % 2147483629), .int 1] :=
    pl_lst (pa_cons' (pu_cal (pa_cons' pu_c (pa_cons' (pu_bin (pu_var rfl) (pu_bin pu_c pu_c p) rfl) pa_nil')) rfl) (pa_cons' (pu_bin (pu_cal (pa_cons' (pu_var rfl) pa_nil') rfl) pu_c rfl) (pa_cons' pu_c pa_nil'))) (by exact Nat.le_of_ble_eq_true rfl)
  unfold f_law_pen runN
  rw [show ent 1 ([D.int c].map .dat) = [.dat (.int c)] from rfl, h]
theorem pu_bin_own {ρ : DEnv} {i : Nat} {b : Bool} {ds : List D} {f : D → D → Option D} {mb : EM} {y z : D} (h : ρ[i]? = some (.own b ds)) (pb : Pu mb ρ y) (q : f (.lst ds) y = some z) : Pu (mBin f (mVar i) mb) ρ z := by
  have e : mVar i ρ = .ok (.own i) ρ := by
    show (match ρ[i]? with
      | some (.dat d) => Rs.ok (Vl.dat d) ρ
      | some (.own _ _) => .ok (.own i) ρ
      | _ => .bad) = _
    rw [h]
  have el : look ρ (.own i) = some (.lst ds) := by
    show (match ρ[i]? with
      | some (.own _ ds) => some (D.lst ds)
      | some (.dat d) => some d
      | _ => none) = _
    rw [h]
  show (mVar i ρ).bind _ = _
  rw [e]
  show (mb ρ).bind _ = _
  rw [pb]
  show (opt (look ρ (.own i)) ρ).bind _ = _
  rw [el]
  show (opt (f (.lst ds) y) ρ).bind _ = _
  rw [q]; rfl
def okS (x : Sl) : Bool := match x with
  | .own _ _ => false
  | _ => true
theorem said_wrong {wd : Str → Option D} {f : List D → Rf D} {x : D} {n w : Str} (hw : wd n = some (.tup [.str w])) (hx : f [x] = .exc n none) {ρ : DEnv} {i : Nat} (hi : ρ[i]? = some (.dat x)) (hs : neD (.tup [.str w]) (.tup [.str w]) = some (.bl false)) :
    sIf (mTst (mBin neD (mSaid wd (mCallF 1 f (mCons (mVar i) mNil))) (mTup (mCons (mC (.str w)) mNil)))) (sRet (mC (.bl false))) sNx ρ = .ok .nx ρ :=
  s_ifF (pt_tst (pu_bin (pu_saidX (pu_callX (pa_cons' (pu_var hi) pa_nil') rfl hx) hw) (pu_tup (pa_cons' pu_c pa_nil') (by exact Nat.le_of_ble_eq_true rfl)) hs)) rfl
theorem things_ex : ∃ T : List D, f_law_things [] = .ok (.lst T) ∧ T.length = 20 ∧ (∀ x ∈ T, f_key_bytes [x] = .exc "NotKey" none) ∧ ∀ x ∈ T, f_bytes_key [x] = .exc "NotBytes" none := ⟨thingsL, v_things, rfl, things_kb, things_bk⟩
theorem ne_key : neD (.tup [.str "key"]) (.tup [.str "key"]) = some (.bl false) := by kernel_rfl
theorem ne_bytes : neD (.tup [.str "bytes"]) (.tup [.str "bytes"]) = some (.bl false) := by kernel_rfl
theorem p_lst {xs : List D} : itm (.lst xs) = some xs := rfl
theorem b2_loop {wd : Str → Option D} (h1 : wd "NotKey" = some (.tup [.str "key"])) (ns K : List Int) (x1 x2 x5 x6 x7 x8 x9 x10 : Sl) {k0 : Int} (hK0 : K[0]? = some k0) :
    ∃ y7, sFor (mIt (mBin addD (mCallF 0 f_law_things mNil) (mNew (nLst (mCons (mBin powD (mC (.int 10)) (mC (.int 30))) (mCons (mUn negD (mBin powD (mC (.int 10)) (mC (.int 30)))) (mCons (mBin ixD (mVar 4) (mC (.int 0))) mNil))))))) (gN 7) (m_law_b2 wd) (EvB ns x1 x2 K x5 x6 x7 x8 x9 x10) = .ok .nx (EvB ns x1 x2 K x5 x6 y7 x8 x9 x10) := by
  have lot0 : ixD (.lst (K.map Lot)) (.int 0) = some (.byt (KB k0)) := at_lot (i := 0) hK0
  obtain ⟨T, hT, lT, bad, _⟩ := things_ex
  have ad2 : addD (.lst T) (.lst [.int B30, .int (-B30), .byt (KB k0)]) = some (.lst (T ++ [.int B30, .int (-B30), .byt (KB k0)])) := by
    show (if T.length + 3 ≤ sizeLine then some (D.lst (T ++ [.int B30, .int (-B30), .byt (KB k0)])) else none) = _
    exact if_pos (by rw [sizeLine_eq, lT]; decide)
  have pl : Pu (mNew (nLst (mCons (mBin powD (mC (.int 10)) (mC (.int 30))) (mCons (mUn negD (mBin powD (mC (.int 10)) (mC (.int 30)))) (mCons (mBin ixD (mVar 4) (mC (.int 0))) mNil))))) (EvB ns x1 x2 K x5 x6 x7 x8 x9 x10) (.lst [.int B30, .int (-B30), .byt (KB k0)]) :=
    pu_lst (pa_cons' (pu_bin pu_c pu_c p30) (pa_cons' (pu_un (pu_bin pu_c pu_c p30) rfl) (pa_cons' (pu_bin (pu_var (d := .lst (K.map Lot)) rfl) pu_c lot0) pa_nil'))) (by exact Nat.le_of_ble_eq_true rfl)
  have pf : Pu (mCallF 0 f_law_things mNil) (EvB ns x1 x2 K x5 x6 x7 x8 x9 x10) (.lst T) := pu_call pa_nil' rfl hT
  have s6 := s_for (mg := gN 7) (mb := m_law_b2 wd) (pi_it (pu_bin pf pl ad2) p_lst) (fun ρ => ∃ y7, ρ = EvB ns x1 x2 K x5 x6 y7 x8 x9 x10) ⟨x7, rfl⟩ (by
    rintro d hd ρ ⟨y7, rfl⟩
    have hx : f_key_bytes [d] = .exc "NotKey" none := by
      rcases List.mem_append.mp hd with hd | hd
      · exact bad d hd
      · simp only [List.mem_cons, List.not_mem_nil, or_false] at hd
        rcases hd with rfl | rfl | rfl
        · exact v_kb_no (by decide)
        · exact v_kb_no (by decide)
        · rfl
    exact ⟨EvB ns x1 x2 K x5 x6 (.dat d) x8 x9 x10, EvB ns x1 x2 K x5 x6 (.dat d) x8 x9 x10, rfl, said_wrong h1 hx rfl ne_key, _, rfl⟩)
  obtain ⟨_, s6, y7, rfl⟩ := s6
  exact ⟨y7, s6⟩
theorem b1_loop {wd : Str → Option D} (h2 : wd "NotBytes" = some (.tup [.str "bytes"])) (ns K : List Int) (x1 x2 x5 x6 x7 x8 x9 x10 : Sl) {k0 : Int} (hK0 : K[0]? = some k0) :
    ∃ y7, sFor (mIt (mBin addD (mBin addD (mCallF 0 f_law_things mNil) (mNew (nLst (mCons (mC (.int 0)) (mCons (mBin ixD (mVar 3) (mC (.int 0))) mNil))))) (mCallF 1 f_law_bad_data (mCons (mBin ixD (mVar 4) (mC (.int 0))) mNil)))) (gN 7) (m_law_b1 wd) (EvB ns x1 x2 K x5 x6 x7 x8 x9 x10) = .ok .nx (EvB ns x1 x2 K x5 x6 y7 x8 x9 x10) := by
  have lot0 : ixD (.lst (K.map Lot)) (.int 0) = some (.byt (KB k0)) := at_lot (i := 0) hK0
  have int0 : ixD (.lst (K.map D.int)) (.int 0) = some (.int k0) := at_int (i := 0) hK0
  obtain ⟨T, hT, lT, _, bad⟩ := things_ex
  obtain ⟨xs, hxs, lxs, hbad⟩ := v_bad (k := k0)
  have ad3 : addD (.lst T) (.lst [.int 0, .int k0]) = some (.lst (T ++ [.int 0, .int k0])) := by
    show (if T.length + 2 ≤ sizeLine then some (D.lst (T ++ [.int 0, .int k0])) else none) = _
    exact if_pos (by rw [sizeLine_eq, lT]; decide)
  have ad4 : addD (.lst (T ++ [.int 0, .int k0])) (.lst xs) = some (.lst (T ++ [.int 0, .int k0] ++ xs)) := by
    show (if (T ++ [D.int 0, D.int k0]).length + xs.length ≤ sizeLine then some (D.lst (T ++ [.int 0, .int k0] ++ xs)) else none) = _
    exact if_pos (by rw [sizeLine_eq, lxs, List.length_append, lT]; exact Nat.le_of_ble_eq_true rfl)
  have pl : Pu (mNew (nLst (mCons (mC (.int 0)) (mCons (mBin ixD (mVar 3) (mC (.int 0))) mNil)))) (EvB ns x1 x2 K x5 x6 x7 x8 x9 x10) (.lst [.int 0, .int k0]) :=
    pu_lst (pa_cons' pu_c (pa_cons' (pu_bin (pu_var (d := .lst (K.map D.int)) rfl) pu_c int0) pa_nil')) (by exact Nat.le_of_ble_eq_true rfl)
  have pf : Pu (mCallF 0 f_law_things mNil) (EvB ns x1 x2 K x5 x6 x7 x8 x9 x10) (.lst T) := pu_call pa_nil' rfl hT
  have pb : Pu (mCallF 1 f_law_bad_data (mCons (mBin ixD (mVar 4) (mC (.int 0))) mNil)) (EvB ns x1 x2 K x5 x6 x7 x8 x9 x10) (.lst xs) := pu_call (pa_cons' (pu_bin (pu_var (d := .lst (K.map Lot)) rfl) pu_c lot0) pa_nil') rfl hxs
  have s7 := s_for (mg := gN 7) (mb := m_law_b1 wd) (pi_it (pu_bin (pu_bin pf pl ad3) pb ad4) p_lst) (fun ρ => ∃ y7, ρ = EvB ns x1 x2 K x5 x6 y7 x8 x9 x10) ⟨x7, rfl⟩ (by
    rintro d hd ρ ⟨y7, rfl⟩
    have hx : f_bytes_key [d] = .exc "NotBytes" none := by
      rcases List.mem_append.mp hd with hd | hd
      · rcases List.mem_append.mp hd with hd | hd
        · exact bad d hd
        · simp only [List.mem_cons, List.not_mem_nil, or_false] at hd
          rcases hd with rfl | rfl <;> rfl
      · exact hbad d hd
    exact ⟨EvB ns x1 x2 K x5 x6 (.dat d) x8 x9 x10, EvB ns x1 x2 K x5 x6 (.dat d) x8 x9 x10, rfl, said_wrong h2 hx rfl ne_bytes, _, rfl⟩)
  obtain ⟨_, s7, y7, rfl⟩ := s7
  exact ⟨y7, s7⟩
theorem b5_step {wd : Str → Option D} (h1 : wd "NotKey" = some (.tup [.str "key"])) (h2 : wd "NotBytes" = some (.tup [.str "bytes"])) (ns : List Int) (c : Int) (x2 x3 x4 x5 x6 x7 x8 x9 x10 : Sl) (h6 : okS x6 = true) :
    ∃ y2 y3 y4 y5 y6 y7 y8 y9 y10, okS y6 = true ∧ m_law_b5 wd [.dat (.scr ns), .dat (.int c), x2, x3, x4, x5, x6, x7, x8, x9, x10, .un, .un] = .ok .nx [.dat (.scr ns), .dat (.int c), y2, y3, y4, y5, y6, y7, y8, y9, y10, .un, .un] := by
  obtain ⟨a0, ha0⟩ : ∃ a0 : Int, a0 = if c - 1000000000000000000 > 0 then c - 1000000000000000000 else 0 := ⟨_, rfl⟩
  have hb0 : 0 ≤ c % 2147483629 ∧ c % 2147483629 < 2147483647 := ⟨Int.emod_nonneg _ (by decide), by have := Int.emod_lt_of_pos c (b := 2147483629) (by decide); omega⟩
  have s1 : sNew (nCall 1 f_law_pen (mCons (mVar 1) mNil)) 2 [.dat (.scr ns), .dat (.int c), x2, x3, x4, x5, x6, x7, x8, x9, x10, .un, .un] = .ok .nx [.dat (.scr ns), .dat (.int c), .own false [.int a0, .int (c % 2147483629), .int 1], x3, x4, x5, x6, x7, x8, x9, x10, .un, .un] :=
    s_new (pl_call (pa_cons' (pu_var rfl) pa_nil') rfl (by rw [ha0]; exact v_pen c)) (by exact Nat.le_of_ble_eq_true rfl)
  obtain ⟨ks, a', b', c', y, e1, e2, e3⟩ := draw_loop (.dat (.scr ns)) (.dat (.int c)) x3 x4 x5 x6 x7 x8 x9 x10 .un (rngL 0 6) [] a0 (c % 2147483629) 1 .un hb0
  have l6 : ks.length = 6 := e2
  have r6 : rngD [.int 6] = some (rngL 0 6) := by kernel_rfl
  have s2 : sNew (nLc (mRng (mCons (mC (.int 6)) mNil)) (gN 11) mYes (mCallO 1 f_law_drawn (mCons (mVar 2) mNil)) [11]) 3 [.dat (.scr ns), .dat (.int c), .own false [.int a0, .int (c % 2147483629), .int 1], x3, x4, x5, x6, x7, x8, x9, x10, .un, .un]
      = .ok .nx [.dat (.scr ns), .dat (.int c), .own false [.int a', .int b', .int c'], .own false (ks.map D.int), x4, x5, x6, x7, x8, x9, x10, .un, .un] := by
    refine s_new (ρ' := [.dat (.scr ns), .dat (.int c), .own false [.int a', .int b', .int c'], x3, x4, x5, x6, x7, x8, x9, x10, .un, .un]) ?_ (by exact Nat.le_of_ble_eq_true rfl)
    exact nLc_ok (pi_rng (pa_cons' pu_c pa_nil') r6) rfl (by decide) e1
  obtain ⟨k0, k1, kr, rfl⟩ : ∃ k0 k1 kr, ks = k0 :: k1 :: kr := by
    match ks, l6 with
    | k0 :: k1 :: kr, _ => exact ⟨k0, k1, kr, rfl⟩
  have hk0 := inK_iff.mp (e3 k0 List.mem_cons_self)
  have hk1 := inK_iff.mp (e3 k1 (List.mem_cons_of_mem _ List.mem_cons_self))
  obtain ⟨u, hu⟩ : ∃ u : Int, u = if k0 - 1 > 1 - B30 then k0 - 1 else 1 - B30 := ⟨_, rfl⟩
  obtain ⟨v, hv⟩ : ∃ v : Int, v = if k1 + 256 < B30 - 1 then k1 + 256 else B30 - 1 := ⟨_, rfl⟩
  have hu' : inK u = true := inK_iff.mpr (by unfold B30 at hk0 hu ⊢; split at hu <;> omega)
  have hv' : inK v = true := inK_iff.mpr (by unfold B30 at hk1 hv ⊢; split at hv <;> omega)
  obtain ⟨K, hKe⟩ : ∃ K, K = (k0 :: k1 :: kr) ++ [u, v] := ⟨_, rfl⟩
  have hK : ∀ k ∈ K, inK k = true := by
    intro k hk
    rw [hKe] at hk
    rcases List.mem_append.mp hk with hk | hk
    · exact e3 k hk
    · rcases List.mem_cons.mp hk with rfl | hk
      · exact hu'
      · rcases List.mem_singleton.mp hk with rfl
        exact hv'
  have hK0 : K[0]? = some k0 := by rw [hKe]; rfl
  have lK : K.length = 8 := by rw [hKe, List.length_append, l6]; rfl
  have cK : (k0 :: k1 :: kr).map D.int ++ [.int u, .int v] = K.map D.int := by rw [hKe, List.map_append]; rfl
  have ad : addD (.lst ((k0 :: k1 :: kr).map D.int)) (.lst [.int u, .int v]) = some (.lst (K.map D.int)) := by
    show (if ((k0 :: k1 :: kr).map D.int).length + 2 ≤ sizeLine then some (D.lst ((k0 :: k1 :: kr).map D.int ++ [.int u, .int v])) else none) = _
    rw [if_pos (by rw [sizeLine_eq, List.length_map, l6]; decide), cK]
  have i0 : ixD (.lst ((k0 :: k1 :: kr).map D.int)) (.int 0) = some (.int k0) := at_int (ks := k0 :: k1 :: kr) (i := 0) rfl
  have i1 : ixD (.lst ((k0 :: k1 :: kr).map D.int)) (.int 1) = some (.int k1) := at_int (ks := k0 :: k1 :: kr) (i := 1) rfl
  have s3 : sAsg (mBin addD (mVar 3) (mNew (nLst (mCons (mCal maxD (mCons (mBin subD (mC (.int 1)) (mBin powD (mC (.int 10)) (mC (.int 30)))) (mCons (mBin subD (mBin ixD (mVar 3) (mC (.int 0))) (mC (.int 1))) mNil))) (mCons (mCal minD (mCons (mBin subD (mBin powD (mC (.int 10)) (mC (.int 30))) (mC (.int 1))) (mCons (mBin addD (mBin ixD (mVar 3) (mC (.int 1))) (mC (.int 256))) mNil))) mNil))))) (gN 3)
      [.dat (.scr ns), .dat (.int c), .own false [.int a', .int b', .int c'], .own false ((k0 :: k1 :: kr).map D.int), x4, x5, x6, x7, x8, x9, x10, .un, .un] = .ok .nx [.dat (.scr ns), .dat (.int c), .own false [.int a', .int b', .int c'], .dat (.lst (K.map D.int)), x4, x5, x6, x7, x8, x9, x10, .un, .un] := by
    refine s_asg (pu_bin_own rfl (pu_lst (pa_cons' (pu_cal (z := .int u) (pa_cons' (pu_bin pu_c (pu_bin pu_c pu_c p30) rfl) (pa_cons' (pu_bin (pu_bin_own rfl pu_c i0) pu_c rfl) pa_nil')) (by rw [hu]; rfl)) (pa_cons' (pu_cal (z := .int v) (pa_cons' (pu_bin (pu_bin pu_c pu_c p30) pu_c rfl) (pa_cons' (pu_bin (pu_bin_own rfl pu_c i1) pu_c rfl) pa_nil')) (by rw [hv]; rfl)) pa_nil')) (by exact Nat.le_of_ble_eq_true rfl)) ad) (by exact Nat.le_of_ble_eq_true rfl)
  have no6 : noOwn [.dat (.scr ns), .dat (.int c), .own false [.int a', .int b', .int c'], .dat (.lst (K.map D.int)), x4, x5, x6, x7, x8, x9, x10, .un, .un] [6] = true := by
    cases x6 with
    | own b l => cases h6
    | dat d => rfl
    | un => rfl
  have s4 : sAsg (mNew (nLc (mIt (mVar 3)) (gN 6) mYes (mCallF 1 f_key_bytes (mCons (mVar 6) mNil)) [6])) (gN 4)
      [.dat (.scr ns), .dat (.int c), .own false [.int a', .int b', .int c'], .dat (.lst (K.map D.int)), x4, x5, x6, x7, x8, x9, x10, .un, .un] = .ok .nx (EvB ns (.dat (.int c)) (.own false [.int a', .int b', .int c']) K x5 x6 x7 x8 x9 x10) := by
    have lc : Pl (nLc (mIt (mVar 3)) (gN 6) mYes (mCallF 1 f_key_bytes (mCons (mVar 6) mNil)) [6]) [.dat (.scr ns), .dat (.int c), .own false [.int a', .int b', .int c'], .dat (.lst (K.map D.int)), x4, x5, x6, x7, x8, x9, x10, .un, .un] (K.map Lot) := by
      have h := pl_lc (me := mCallF 1 f_key_bytes (mCons (mVar 6) mNil)) (j := 6) (ds := K.map D.int) (G := fun d => match d with
        | .int k => Lot k
        | d => d) (ρ := [.dat (.scr ns), .dat (.int c), .own false [.int a', .int b', .int c'], .dat (.lst (K.map D.int)), x4, x5, x6, x7, x8, x9, x10, .un, .un]) (pi_it (a := .lst (K.map D.int)) (pu_var (i := 3) rfl) rfl) (fun d hd => by
          obtain ⟨k, hk, rfl⟩ := List.mem_map.mp hd
          exact pu_call (pa_cons' (pu_var rfl) pa_nil') rfl (v_kb (hK k hk))) (by exact Nat.le_of_ble_eq_true rfl) no6 (by rw [List.length_map, lK]; decide)
      rw [List.map_map] at h
      exact h
    exact s_asg (pu_new lc) (by exact Nat.le_of_ble_eq_true rfl)
  have s5 : ∃ ρ', sFor (mEnum (mCons (mVar 3) mNil)) (gT (gsCons (gN 5) (gsCons (gN 6) gsNil))) (m_law_b4 wd) (EvB ns (.dat (.int c)) (.own false [.int a', .int b', .int c']) K x5 x6 x7 x8 x9 x10) = .ok .nx ρ' ∧ ∃ y5 y6 y8 y9 y10, okS y6 = true ∧ ρ' = EvB ns (.dat (.int c)) (.own false [.int a', .int b', .int c']) K y5 y6 x7 y8 y9 y10 := by
    refine s_for (pi_enum' (pu_var rfl)) (fun ρ => ∃ y5 y6 y8 y9 y10, okS y6 = true ∧ ρ = EvB ns (.dat (.int c)) (.own false [.int a', .int b', .int c']) K y5 y6 x7 y8 y9 y10) ⟨_, _, _, _, _, h6, rfl⟩ ?_
    rintro d hd ρ ⟨y5, y6, y8, y9, y10, _, rfl⟩
    obtain ⟨j, e, rfl, hj⟩ := enum_mem 0 _ d hd
    rw [List.getElem?_map] at hj
    cases ho : K[j]? with
    | none => rw [ho] at hj; cases hj
    | some o =>
      rw [ho] at hj
      cases hj
      rw [Nat.zero_add]
      obtain ⟨z8, z9, z10, hb⟩ := b4_step (wd := wd) (ns := ns) ho hK (.dat (.int c)) (.own false [.int a', .int b', .int c']) x7 y8 y9 y10
      exact ⟨EvB ns (.dat (.int c)) (.own false [.int a', .int b', .int c']) K (.dat (.int (j : Nat))) (.dat (.int o)) x7 y8 y9 y10, _, rfl, hb, _, _, _, _, _, rfl, rfl⟩
  obtain ⟨_, s5, y5, y6, y8, y9, y10, hy6, rfl⟩ := s5
  obtain ⟨y7, s6⟩ := b2_loop h1 ns K (.dat (.int c)) (.own false [.int a', .int b', .int c']) y5 y6 x7 y8 y9 y10 hK0
  obtain ⟨z7, s7⟩ := b1_loop h2 ns K (.dat (.int c)) (.own false [.int a', .int b', .int c']) y5 y6 y7 y8 y9 y10 hK0
  exact ⟨_, _, _, y5, y6, z7, y8, y9, y10, hy6, s_seq s1 (s_seq s2 (s_seq s3 (s_seq s4 (s_seq s5 (s_seq s6 s7)))))⟩
theorem law_true {wd : Str → Option D} (h1 : wd "NotKey" = some (.tup [.str "key"])) (h2 : wd "NotBytes" = some (.tup [.str "bytes"])) (ns : List Int) (hl : ns.length ≤ 63) : f_law wd [.scr ns] = .ok (.bl true) := by
  obtain ⟨c0, hc⟩ : ∃ c0 : Int, f_law_cell_at [.scr ns, .int 0] = .ok (.int c0) := by
    cases ns with
    | nil => exact ⟨0, by kernel_rfl⟩
    | cons a r =>
      refine ⟨a, ?_⟩
      have e : ltA (.int 0) (.int ((a :: r).length : Nat)) = some (.bl true) := by
        show some (D.bl (decide ((0 : Int) < ((r.length + 1 : Nat) : Int)))) = _
        rw [decide_eq_true (by omega)]
      have hx : ixD (.scr (a :: r)) (.int 0) = some (.int a) := by
        have e0 : atI (a :: r) 0 = some a := by
          unfold atI ixN
          rw [if_pos (by omega), if_pos (by simp)]
          rfl
        show (atI (a :: r) 0).map D.int = some (D.int a)
        rw [e0]; rfl
      exact runF_ok (N := 2) (s_seq_rt (s_ifT (pt_tst (pu_bin (pu_var rfl) (pu_cal (pa_cons' (pu_var rfl) pa_nil') rfl) e)) (s_ret (pu_bin (pu_var rfl) (pu_var rfl) hx))))
  have hs : slD (some 1) (some 3) (.scr ns) = some (.lst (cutD (ns.map D.int) (some 1) (some 3))) := rfl
  have ad : addD (.lst [.int c0]) (.lst (cutD (ns.map D.int) (some 1) (some 3))) = some (.lst ([.int c0] ++ cutD (ns.map D.int) (some 1) (some 3))) := by
    show (if 1 + (cutD (ns.map D.int) (some 1) (some 3)).length ≤ sizeLine then some (D.lst ([.int c0] ++ cutD (ns.map D.int) (some 1) (some 3))) else none) = _
    have := cutD_len (ns.map D.int) (some 1) (some 3)
    rw [List.length_map] at this
    exact if_pos (by rw [sizeLine_eq]; omega)
  have hall : ∀ d ∈ [D.int c0] ++ cutD (ns.map D.int) (some 1) (some 3), ∃ c, d = .int c := by
    intro d hd
    rcases List.mem_append.mp hd with hd | hd
    · exact ⟨c0, List.mem_singleton.mp hd⟩
    · obtain ⟨c, _, rfl⟩ := List.mem_map.mp (List.mem_of_mem_drop (List.mem_of_mem_take hd))
      exact ⟨c, rfl⟩
  have s1 : ∃ ρ', sFor (mIt (mBin addD (mNew (nLst (mCons (mCallF 2 f_law_cell_at (mCons (mVar 0) (mCons (mC (.int 0)) mNil))) mNil))) (mSl (mVar 0) (pSo (mC (.int 1))) (pSo (mC (.int 3)))))) (gN 1) (m_law_b5 wd) [.dat (.scr ns), .un, .un, .un, .un, .un, .un, .un, .un, .un, .un, .un, .un] = .ok .nx ρ' ∧
      ∃ y1 y2 y3 y4 y5 y6 y7 y8 y9 y10, okS y6 = true ∧ ρ' = [.dat (.scr ns), y1, y2, y3, y4, y5, y6, y7, y8, y9, y10, .un, .un] := by
    refine s_for (pi_it (pu_bin (pu_lst (pa_cons' (pu_call (pa_cons' (pu_var rfl) (pa_cons' pu_c pa_nil')) rfl hc) pa_nil') (by exact Nat.le_of_ble_eq_true rfl)) (pu_sl (pu_var rfl) (pp_so pu_c) (pp_so pu_c) hs) ad) rfl) (fun ρ => ∃ y1 y2 y3 y4 y5 y6 y7 y8 y9 y10, okS y6 = true ∧ ρ = [.dat (.scr ns), y1, y2, y3, y4, y5, y6, y7, y8, y9, y10, .un, .un]) ⟨_, _, _, _, _, _, _, _, _, _, rfl, rfl⟩ ?_
    rintro d hd ρ ⟨y1, y2, y3, y4, y5, y6, y7, y8, y9, y10, h6, rfl⟩
    obtain ⟨c, rfl⟩ := hall d hd
    obtain ⟨z2, z3, z4, z5, z6, z7, z8, z9, z10, hz, e⟩ := b5_step h1 h2 ns c y2 y3 y4 y5 y6 y7 y8 y9 y10 h6
    exact ⟨[.dat (.scr ns), .dat (.int c), y2, y3, y4, y5, y6, y7, y8, y9, y10, .un, .un], _, rfl, e, _, _, _, _, _, _, _, _, _, _, hz, rfl⟩
  obtain ⟨_, s1, y1, y2, y3, y4, y5, y6, y7, y8, y9, y10, _, rfl⟩ := s1
  exact runF_ok (N := 13) (s_seq s1 (s_ret pu_c))
end Pm

set_option Elab.async false
set_option linter.all false
set_option maxRecDepth 100000
set_option maxHeartbeats 40000000
namespace Pm
open PySem PySem.Spec PyProof.Rows L2
/-! the head -/
def d_is_integer : He.DefD := ⟨("is_integer", none), "is_integer", "is_integer", defArgs s_is_integer, defBody s_is_integer, defScope s_is_integer, [], []⟩
def d_is_key : He.DefD := ⟨("is_key", none), "is_key", "is_key", defArgs s_is_key, defBody s_is_key, defScope s_is_key, [], []⟩
def d_key_bytes : He.DefD := ⟨("key_bytes", none), "key_bytes", "key_bytes", defArgs s_key_bytes, defBody s_key_bytes, defScope s_key_bytes, [], []⟩
def d_bytes_key : He.DefD := ⟨("bytes_key", none), "bytes_key", "bytes_key", defArgs s_bytes_key, defBody s_bytes_key, defScope s_bytes_key, [], []⟩
def d_law_cell_at : He.DefD := ⟨("_law_cell_at", none), "_law_cell_at", "_law_cell_at", defArgs s_law_cell_at, defBody s_law_cell_at, defScope s_law_cell_at, [], []⟩
def d_law_pen : He.DefD := ⟨("_law_pen", none), "_law_pen", "_law_pen", defArgs s_law_pen, defBody s_law_pen, defScope s_law_pen, [], []⟩
def d_law_draw : He.DefD := ⟨("_law_draw", none), "_law_draw", "_law_draw", defArgs s_law_draw, defBody s_law_draw, defScope s_law_draw, [], []⟩
def d_law_pick : He.DefD := ⟨("_law_pick", none), "_law_pick", "_law_pick", defArgs s_law_pick, defBody s_law_pick, defScope s_law_pick, [], []⟩
def d_law_things : He.DefD := ⟨("_law_things", none), "_law_things", "_law_things", defArgs s_law_things, defBody s_law_things, defScope s_law_things, [], []⟩
def d_law_word : He.DefD := ⟨("_law_word", none), "_law_word", "_law_word", defArgs s_law_word, defBody s_law_word, defScope s_law_word, [], []⟩
def d_law_said : He.DefD := ⟨("_law_said", none), "_law_said", "_law_said", defArgs s_law_said, defBody s_law_said, defScope s_law_said, [], []⟩
def d_law_same : He.DefD := ⟨("_law_same", none), "_law_same", "_law_same", defArgs s_law_same, defBody s_law_same, defScope s_law_same, [], []⟩
def d_law_drawn : He.DefD := ⟨("_law_drawn", none), "_law_drawn", "_law_drawn", defArgs s_law_drawn, defBody s_law_drawn, defScope s_law_drawn, [], []⟩
def d_law_due : He.DefD := ⟨("_law_due", none), "_law_due", "_law_due", defArgs s_law_due, defBody s_law_due, defScope s_law_due, [], []⟩
def d_law_bad_data : He.DefD := ⟨("_law_bad_data", none), "_law_bad_data", "_law_bad_data", defArgs s_law_bad_data, defBody s_law_bad_data, defScope s_law_bad_data, [], []⟩
def d_law : He.DefD := ⟨("law", none), "law", "law", defArgs s_law, defBody s_law, defScope s_law, [], []⟩
def fns : List He.DefD := [d_is_integer, d_is_key, d_key_bytes, d_bytes_key, d_law_cell_at, d_law_pen, d_law_draw, d_law_pick, d_law_things, d_law_word, d_law_said, d_law_same, d_law_drawn, d_law_due, d_law_bad_data, d_law]
def fas : List He.Fa := [.glo "is_integer", .glo "is_key", .glo "key_bytes", .glo "bytes_key", .glo "_law_cell_at", .glo "_law_pen", .glo "_law_draw", .glo "_law_pick", .glo "_law_things", .glo "_law_word", .glo "_law_said", .glo "_law_same", .glo "_law_drawn", .glo "_law_due", .glo "_law_bad_data", .glo "law", .free "bool", .free "isinstance", .free "int", .int "KEY_BOUND" 1000000000000000000000000000000, .glo "NotKey", .exc "NotKey", .glo "NotBytes", .exc "NotBytes", .free "len", .int "KEY_SIZE" 13, .free "bytes", .free "max", .free "ValueError", .glo "Collision", .glo "Ringed", .glo "Competing", .glo "TooMany", .glo "Held", .glo "Twice", .glo "NothingDone", .glo "TooLarge", .glo "Impossible", .glo "Missing", .glo "NotLine", .glo "NotText", .glo "NotDeed", .glo "NotFormula", .glo "NotBound", .glo "NotScan", .glo "NotInteger", .glo "NotRule", .glo "NotOrder", .glo "NotRows", .glo "NotKeys", .glo "NotTable", .glo "NotRow", .free "repr", .free "range", .free "enumerate", .free "min", .glo "RowError", .exm "NotKey" "RowError" true, .exm "NotBytes" "RowError" true]
def raised : List Str := ["NotKey", "NotBytes"]
def exs (K : PySem.W.Frag) : Bool := raised.all (excTB ecls K)
def tfs : List He.Defn := [("law", none)]
def nm0 : List Str := ["RowError", "NotRow", "NotTable", "NotKey", "NotKeys", "NotRows", "NotOrder", "NotRule", "NotInteger", "NotScan", "NotBound", "NotFormula", "NotDeed", "NotText", "NotBytes", "NotLine", "Missing", "Impossible", "TooLarge", "NothingDone", "Twice", "Held", "TooMany", "Competing", "Ringed", "Collision", "KEY_BOUND", "is_integer", "is_key", "KEY_SIZE"]
def nm1 : List Str := ["key_bytes", "bytes_key", "_law_cell_at", "_law_pen", "_law_draw", "_law_pick", "_law_things", "_law_word", "_law_said", "_law_same", "_law_drawn", "_law_due", "_law_bad_data"]
def nms : List Str := nm0 ++ nm1
abbrev Rw : PySem.W.OpenRow := PySem.W.OpenLaw.row PySem.Challenge.rw_rowclash_k92_keys_as_bytes
abbrev hk : PySem.W.Hook := He.hookX 5 fas fns [] tfs exs
def ob (s : PySem.W.SharedT) : He.AlX := He.obsX 5 fas fns [] tfs exs (HandSHeadRun.getT s)
theorem ob_eq (s : PySem.W.SharedT) : ob s = hk.obs s.abs := He.obsX_eq (HandSHeadRun.getT_eq s)
theorem run (w : World) : HandSHeadRun.RunEq Rw (PySem.W.view Rw.prog [47]) hk ob 20000 nms w := by
  intro os
  kernel_rfl
def wd (n : Str) : Option D := if n = "NotKey" then some (.tup [.str "key"]) else if n = "NotBytes" then some (.tup [.str "bytes"]) else none
theorem wd_in {n : Str} (h : (wd n).isSome = true) : n ∈ raised := by
  unfold wd at h
  unfold raised
  by_cases h_NotKey : n = "NotKey"
  · rw [h_NotKey]; simp
  rw [if_neg h_NotKey] at h
  by_cases h_NotBytes : n = "NotBytes"
  · rw [h_NotBytes]; simp
  rw [if_neg h_NotBytes] at h
  cases h
end Pm

set_option Elab.async false
set_option linter.all false
set_option maxRecDepth 100000
set_option maxHeartbeats 40000000
namespace Pm
open PySem PySem.Spec PyProof.Rows L2
theorem facts {P : Program} {w : World} {K : PySem.W.Frag} {h : Heap} {mg : Str → Option Value} {fa : Addr} (KX : K.In h) (G : h.Ns mainGlobals mg) (hfa : mg "law" = some (.ref fa)) (c : He.SaysX fas fns [] tfs exs w h K)
    (hf : ∀ ns : List Int, ns.length ≤ 63 → (∀ z ∈ ns, Builtin.Int.intBits z ≤ 1048576) → f_law wd [.scr ns] = .ok (.bl true)) :
    ∃ (fd : FuncData) (ct : List (Addr × Addr)) (sp : Sp), (∀ p ∈ ct, h.get? p.2 = some { cls := .none, data := .fields #[] }) ∧ (∀ p ∈ ct, K.lookup p.2 = none) ∧ (∀ p ∈ ct, PySem.W.CodeHd h p.1 p.2) ∧ (∀ (s : Shared) (u : Value), BindsTo s fd ⟨[u], []⟩ [("_law_script", u)]) ∧
      (∀ (H : Hp) (a : Addr) (ns : List Int), ns.length ≤ 63 → (∀ z ∈ ns, Builtin.Int.intBits z ≤ 1048576) → (∀ p ∈ ct, H p.2 = some (.tbl #[])) → SqL K H a (ns.map V.int) → sp [.ref a] H (fun v _ => v = .bl true) fun _ _ _ => False) ∧
      ∀ base : Heap, K.In base → base.Ns mainGlobals mg → (∀ p ∈ ct, LamX.TabB base mg p.1 p.2) → FnG P w K mg base (L2.CX P w) 6 fa fd ["_law_script"] sp := by
  letI : Tb K := ⟨[((He.cT K ("law", none)).2, "law.<locals>." ++ "<lambda>")]⟩
  obtain ⟨fd_is_integer, F_is_integer⟩ := c.t.d.def_ 0 (d := d_is_integer) rfl
  have B_is_integer : L2.Binds K fd_is_integer ["thing"] [] := FunD.bindsN F_is_integer fun _ _ _ _ _ _ us hl => match us, hl with | [_], _ => rfl
  have m_is_integer_ : mg "is_integer" = some (.ref (He.fAd K ("is_integer", none))) := He.glo_ok KX G (c.t.d.fact 0 (f := .glo "is_integer") rfl)
  obtain ⟨fd_is_key, F_is_key⟩ := c.t.d.def_ 1 (d := d_is_key) rfl
  have B_is_key : L2.Binds K fd_is_key ["thing"] [] := FunD.bindsN F_is_key fun _ _ _ _ _ _ us hl => match us, hl with | [_], _ => rfl
  have m_is_key_ : mg "is_key" = some (.ref (He.fAd K ("is_key", none))) := He.glo_ok KX G (c.t.d.fact 1 (f := .glo "is_key") rfl)
  obtain ⟨fd_key_bytes, F_key_bytes⟩ := c.t.d.def_ 2 (d := d_key_bytes) rfl
  have B_key_bytes : L2.Binds K fd_key_bytes ["key"] [] := FunD.bindsN F_key_bytes fun _ _ _ _ _ _ us hl => match us, hl with | [_], _ => rfl
  have m_key_bytes_ : mg "key_bytes" = some (.ref (He.fAd K ("key_bytes", none))) := He.glo_ok KX G (c.t.d.fact 2 (f := .glo "key_bytes") rfl)
  obtain ⟨fd_bytes_key, F_bytes_key⟩ := c.t.d.def_ 3 (d := d_bytes_key) rfl
  have B_bytes_key : L2.Binds K fd_bytes_key ["data"] [] := FunD.bindsN F_bytes_key fun _ _ _ _ _ _ us hl => match us, hl with | [_], _ => rfl
  have m_bytes_key_ : mg "bytes_key" = some (.ref (He.fAd K ("bytes_key", none))) := He.glo_ok KX G (c.t.d.fact 3 (f := .glo "bytes_key") rfl)
  obtain ⟨fd_law_cell_at, F_law_cell_at⟩ := c.t.d.def_ 4 (d := d_law_cell_at) rfl
  have B_law_cell_at : L2.Binds K fd_law_cell_at ["_law_script", "_law_k"] [] := FunD.bindsN F_law_cell_at fun _ _ _ _ _ _ us hl => match us, hl with | [_, _], _ => rfl
  have m_law_cell_at_ : mg "_law_cell_at" = some (.ref (He.fAd K ("_law_cell_at", none))) := He.glo_ok KX G (c.t.d.fact 4 (f := .glo "_law_cell_at") rfl)
  obtain ⟨fd_law_pen, F_law_pen⟩ := c.t.d.def_ 5 (d := d_law_pen) rfl
  have B_law_pen : L2.Binds K fd_law_pen ["_law_cell"] [] := FunD.bindsN F_law_pen fun _ _ _ _ _ _ us hl => match us, hl with | [_], _ => rfl
  have m_law_pen_ : mg "_law_pen" = some (.ref (He.fAd K ("_law_pen", none))) := He.glo_ok KX G (c.t.d.fact 5 (f := .glo "_law_pen") rfl)
  obtain ⟨fd_law_draw, F_law_draw⟩ := c.t.d.def_ 6 (d := d_law_draw) rfl
  have B_law_draw : L2.Binds K fd_law_draw ["_law_pen_here", "_law_many"] [] := FunD.bindsN F_law_draw fun _ _ _ _ _ _ us hl => match us, hl with | [_, _], _ => rfl
  have m_law_draw_ : mg "_law_draw" = some (.ref (He.fAd K ("_law_draw", none))) := He.glo_ok KX G (c.t.d.fact 6 (f := .glo "_law_draw") rfl)
  obtain ⟨fd_law_pick, F_law_pick⟩ := c.t.d.def_ 7 (d := d_law_pick) rfl
  have B_law_pick : L2.Binds K fd_law_pick ["_law_pen_here", "_law_things_here"] [] := FunD.bindsN F_law_pick fun _ _ _ _ _ _ us hl => match us, hl with | [_, _], _ => rfl
  have m_law_pick_ : mg "_law_pick" = some (.ref (He.fAd K ("_law_pick", none))) := He.glo_ok KX G (c.t.d.fact 7 (f := .glo "_law_pick") rfl)
  obtain ⟨fd_law_things, F_law_things⟩ := c.t.d.def_ 8 (d := d_law_things) rfl
  have B_law_things : L2.Binds K fd_law_things [] [] := FunD.bindsN F_law_things fun _ _ _ _ _ _ us hl => match us, hl with | [], _ => rfl
  have m_law_things_ : mg "_law_things" = some (.ref (He.fAd K ("_law_things", none))) := He.glo_ok KX G (c.t.d.fact 8 (f := .glo "_law_things") rfl)
  obtain ⟨fd_law_word, F_law_word⟩ := c.t.d.def_ 9 (d := d_law_word) rfl
  have B_law_word : L2.Binds K fd_law_word ["_law_e"] [] := FunD.bindsN F_law_word fun _ _ _ _ _ _ us hl => match us, hl with | [_], _ => rfl
  have m_law_word_ : mg "_law_word" = some (.ref (He.fAd K ("_law_word", none))) := He.glo_ok KX G (c.t.d.fact 9 (f := .glo "_law_word") rfl)
  obtain ⟨fd_law_said, F_law_said⟩ := c.t.d.def_ 10 (d := d_law_said) rfl
  have B_law_said : L2.Binds K fd_law_said ["_law_call"] [] := FunD.bindsN F_law_said fun _ _ _ _ _ _ us hl => match us, hl with | [_], _ => rfl
  have m_law_said_ : mg "_law_said" = some (.ref (He.fAd K ("_law_said", none))) := He.glo_ok KX G (c.t.d.fact 10 (f := .glo "_law_said") rfl)
  obtain ⟨fd_law_same, F_law_same⟩ := c.t.d.def_ 11 (d := d_law_same) rfl
  have B_law_same : L2.Binds K fd_law_same ["_law_found", "_law_due_here"] [] := FunD.bindsN F_law_same fun _ _ _ _ _ _ us hl => match us, hl with | [_, _], _ => rfl
  have m_law_same_ : mg "_law_same" = some (.ref (He.fAd K ("_law_same", none))) := He.glo_ok KX G (c.t.d.fact 11 (f := .glo "_law_same") rfl)
  obtain ⟨fd_law_drawn, F_law_drawn⟩ := c.t.d.def_ 12 (d := d_law_drawn) rfl
  have B_law_drawn : L2.Binds K fd_law_drawn ["_law_pen_here"] [] := FunD.bindsN F_law_drawn fun _ _ _ _ _ _ us hl => match us, hl with | [_], _ => rfl
  have m_law_drawn_ : mg "_law_drawn" = some (.ref (He.fAd K ("_law_drawn", none))) := He.glo_ok KX G (c.t.d.fact 12 (f := .glo "_law_drawn") rfl)
  obtain ⟨fd_law_due, F_law_due⟩ := c.t.d.def_ 13 (d := d_law_due) rfl
  have B_law_due : L2.Binds K fd_law_due ["_law_key"] [] := FunD.bindsN F_law_due fun _ _ _ _ _ _ us hl => match us, hl with | [_], _ => rfl
  have m_law_due_ : mg "_law_due" = some (.ref (He.fAd K ("_law_due", none))) := He.glo_ok KX G (c.t.d.fact 13 (f := .glo "_law_due") rfl)
  obtain ⟨fd_law_bad_data, F_law_bad_data⟩ := c.t.d.def_ 14 (d := d_law_bad_data) rfl
  have B_law_bad_data : L2.Binds K fd_law_bad_data ["_law_data"] [] := FunD.bindsN F_law_bad_data fun _ _ _ _ _ _ us hl => match us, hl with | [_], _ => rfl
  have m_law_bad_data_ : mg "_law_bad_data" = some (.ref (He.fAd K ("_law_bad_data", none))) := He.glo_ok KX G (c.t.d.fact 14 (f := .glo "_law_bad_data") rfl)
  obtain ⟨fd_law, F_law⟩ := c.t.d.def_ 15 (d := d_law) rfl
  have B_law : L2.Binds K fd_law ["_law_script"] [] := FunD.bindsN F_law fun _ _ _ _ _ _ us hl => match us, hl with | [_], _ => rfl
  have m_law_ : mg "law" = some (.ref (He.fAd K ("law", none))) := He.glo_ok KX G (c.t.d.fact 15 (f := .glo "law") rfl)
  have g_bool : mg "bool" = none := He.free_ok KX G (c.t.d.fact 16 (f := .free "bool") rfl)
  have g_isinstance : mg "isinstance" = none := He.free_ok KX G (c.t.d.fact 17 (f := .free "isinstance") rfl)
  have g_int : mg "int" = none := He.free_ok KX G (c.t.d.fact 18 (f := .free "int") rfl)
  have i_KEY_BOUND : ∃ t, mg "KEY_BOUND" = some (.int 1000000000000000000000000000000 t) := He.int_ok KX G (c.t.d.fact 19 (f := .int "KEY_BOUND" 1000000000000000000000000000000) rfl)
  have x_NotKey : ExcF K mg "NotKey" := ⟨He.glo_ok KX G (c.t.d.fact 20 (f := .glo "NotKey") rfl), c.t.d.fact 21 (f := .exc "NotKey") rfl⟩
  have x_NotBytes : ExcF K mg "NotBytes" := ⟨He.glo_ok KX G (c.t.d.fact 22 (f := .glo "NotBytes") rfl), c.t.d.fact 23 (f := .exc "NotBytes") rfl⟩
  have g_len : mg "len" = none := He.free_ok KX G (c.t.d.fact 24 (f := .free "len") rfl)
  have i_KEY_SIZE : ∃ t, mg "KEY_SIZE" = some (.int 13 t) := He.int_ok KX G (c.t.d.fact 25 (f := .int "KEY_SIZE" 13) rfl)
  have g_bytes : mg "bytes" = none := He.free_ok KX G (c.t.d.fact 26 (f := .free "bytes") rfl)
  have g_max : mg "max" = none := He.free_ok KX G (c.t.d.fact 27 (f := .free "max") rfl)
  have g_ValueError : mg "ValueError" = none := He.free_ok KX G (c.t.d.fact 28 (f := .free "ValueError") rfl)
  have k_Collision : mg "Collision" = some (.ref (He.ga K "Collision")) := He.glo_ok KX G (c.t.d.fact 29 (f := .glo "Collision") rfl)
  have k_Ringed : mg "Ringed" = some (.ref (He.ga K "Ringed")) := He.glo_ok KX G (c.t.d.fact 30 (f := .glo "Ringed") rfl)
  have k_Competing : mg "Competing" = some (.ref (He.ga K "Competing")) := He.glo_ok KX G (c.t.d.fact 31 (f := .glo "Competing") rfl)
  have k_TooMany : mg "TooMany" = some (.ref (He.ga K "TooMany")) := He.glo_ok KX G (c.t.d.fact 32 (f := .glo "TooMany") rfl)
  have k_Held : mg "Held" = some (.ref (He.ga K "Held")) := He.glo_ok KX G (c.t.d.fact 33 (f := .glo "Held") rfl)
  have k_Twice : mg "Twice" = some (.ref (He.ga K "Twice")) := He.glo_ok KX G (c.t.d.fact 34 (f := .glo "Twice") rfl)
  have k_NothingDone : mg "NothingDone" = some (.ref (He.ga K "NothingDone")) := He.glo_ok KX G (c.t.d.fact 35 (f := .glo "NothingDone") rfl)
  have k_TooLarge : mg "TooLarge" = some (.ref (He.ga K "TooLarge")) := He.glo_ok KX G (c.t.d.fact 36 (f := .glo "TooLarge") rfl)
  have k_Impossible : mg "Impossible" = some (.ref (He.ga K "Impossible")) := He.glo_ok KX G (c.t.d.fact 37 (f := .glo "Impossible") rfl)
  have k_Missing : mg "Missing" = some (.ref (He.ga K "Missing")) := He.glo_ok KX G (c.t.d.fact 38 (f := .glo "Missing") rfl)
  have k_NotLine : mg "NotLine" = some (.ref (He.ga K "NotLine")) := He.glo_ok KX G (c.t.d.fact 39 (f := .glo "NotLine") rfl)
  have k_NotBytes : mg "NotBytes" = some (.ref (He.ga K "NotBytes")) := He.glo_ok KX G (c.t.d.fact 22 (f := .glo "NotBytes") rfl)
  have k_NotText : mg "NotText" = some (.ref (He.ga K "NotText")) := He.glo_ok KX G (c.t.d.fact 40 (f := .glo "NotText") rfl)
  have k_NotDeed : mg "NotDeed" = some (.ref (He.ga K "NotDeed")) := He.glo_ok KX G (c.t.d.fact 41 (f := .glo "NotDeed") rfl)
  have k_NotFormula : mg "NotFormula" = some (.ref (He.ga K "NotFormula")) := He.glo_ok KX G (c.t.d.fact 42 (f := .glo "NotFormula") rfl)
  have k_NotBound : mg "NotBound" = some (.ref (He.ga K "NotBound")) := He.glo_ok KX G (c.t.d.fact 43 (f := .glo "NotBound") rfl)
  have k_NotScan : mg "NotScan" = some (.ref (He.ga K "NotScan")) := He.glo_ok KX G (c.t.d.fact 44 (f := .glo "NotScan") rfl)
  have k_NotInteger : mg "NotInteger" = some (.ref (He.ga K "NotInteger")) := He.glo_ok KX G (c.t.d.fact 45 (f := .glo "NotInteger") rfl)
  have k_NotRule : mg "NotRule" = some (.ref (He.ga K "NotRule")) := He.glo_ok KX G (c.t.d.fact 46 (f := .glo "NotRule") rfl)
  have k_NotOrder : mg "NotOrder" = some (.ref (He.ga K "NotOrder")) := He.glo_ok KX G (c.t.d.fact 47 (f := .glo "NotOrder") rfl)
  have k_NotRows : mg "NotRows" = some (.ref (He.ga K "NotRows")) := He.glo_ok KX G (c.t.d.fact 48 (f := .glo "NotRows") rfl)
  have k_NotKeys : mg "NotKeys" = some (.ref (He.ga K "NotKeys")) := He.glo_ok KX G (c.t.d.fact 49 (f := .glo "NotKeys") rfl)
  have k_NotKey : mg "NotKey" = some (.ref (He.ga K "NotKey")) := He.glo_ok KX G (c.t.d.fact 20 (f := .glo "NotKey") rfl)
  have k_NotTable : mg "NotTable" = some (.ref (He.ga K "NotTable")) := He.glo_ok KX G (c.t.d.fact 50 (f := .glo "NotTable") rfl)
  have k_NotRow : mg "NotRow" = some (.ref (He.ga K "NotRow")) := He.glo_ok KX G (c.t.d.fact 51 (f := .glo "NotRow") rfl)
  have g_repr : mg "repr" = none := He.free_ok KX G (c.t.d.fact 52 (f := .free "repr") rfl)
  have g_range : mg "range" = none := He.free_ok KX G (c.t.d.fact 53 (f := .free "range") rfl)
  have g_enumerate : mg "enumerate" = none := He.free_ok KX G (c.t.d.fact 54 (f := .free "enumerate") rfl)
  have g_min : mg "min" = none := He.free_ok KX G (c.t.d.fact 55 (f := .free "min") rfl)
  have e := hfa.symm.trans m_law_
  cases e
  refine ⟨fd_law, [He.cT K ("law", none)], SpF K 1 (f_law wd), fun p hp => ?_, fun p hp => ?_, fun p hp => ?_, fun s v => ?_, fun H a ns hl hbits hT hS => ?_, fun base hB hG hTB => ?_⟩
  · obtain ⟨q, hq, rfl⟩ := List.mem_map.mp (show p ∈ tfs.map (He.cT K) from hp)
    exact c.empty q hq
  · obtain ⟨q, hq, rfl⟩ := List.mem_map.mp (show p ∈ tfs.map (He.cT K) from hp)
    exact c.out q hq
  · obtain ⟨q, hq, rfl⟩ := List.mem_map.mp (show p ∈ tfs.map (He.cT K) from hp)
    exact PySem.W.codeHd_of_K KX (c.hd q hq)
  · have b := FunD.bindsA (ps := ["_law_script"]) F_law fun _ _ _ _ _ _ us hl => match us, hl with | [_], _ => rfl
    exact b s [v] rfl
  · refine spf_law (fun p hp => ?_) hS (Nat.le_trans hl (by rw [sizeLine_eq]; omega)) (hf ns hl hbits)
    obtain ⟨q, hq, rfl⟩ := List.mem_map.mp (show p ∈ tfs.map (fun q => ((He.cT K q).2, (q.1 ++ ".<locals>." ++ "<lambda>" : Str))) from hp)
    exact hT _ (List.mem_map.mpr ⟨q, hq, rfl⟩ : He.cT K q ∈ tfs.map (He.cT K))
  · have C_is_integer : Cal P w K mg base 1 "is_integer" (SpF K 1 f_is_integer) := def_F (N := n_is_integer) (k := 0) (m := m_is_integer) F_is_integer sc_is_integer m_is_integer_ B_is_integer (fun d => b_is_integer g_bool g_isinstance g_int d)
    have C_is_key : Cal P w K mg base 2 "is_key" (SpF K 1 f_is_key) := def_F (N := n_is_key) (k := 1) (m := m_is_key) F_is_key sc_is_key m_is_key_ B_is_key (fun d => b_is_key i_KEY_BOUND C_is_integer d)
    have C_key_bytes : Cal P w K mg base 3 "key_bytes" (SpF K 1 f_key_bytes) := def_F (N := n_key_bytes) (k := 2) (m := m_key_bytes) F_key_bytes sc_key_bytes m_key_bytes_ B_key_bytes (fun d => b_key_bytes i_KEY_BOUND C_is_key x_NotKey d)
    have C_bytes_key : Cal P w K mg base 3 "bytes_key" (SpF K 1 f_bytes_key) := def_F (N := n_bytes_key) (k := 2) (m := m_bytes_key) F_bytes_key sc_bytes_key m_bytes_key_ B_bytes_key (fun d => b_bytes_key C_is_key x_NotBytes g_int i_KEY_BOUND g_len i_KEY_SIZE g_bytes g_isinstance d)
    have C_law_cell_at : Cal P w K mg base 1 "_law_cell_at" (SpF K 2 f_law_cell_at) := def_F (N := n_law_cell_at) (k := 0) (m := m_law_cell_at) F_law_cell_at sc_law_cell_at m_law_cell_at_ B_law_cell_at (fun d => b_law_cell_at g_len d)
    have C_law_pen : Cal P w K mg base 1 "_law_pen" (SpN K 1 f_law_pen) := def_N (N := n_law_pen) (k := 0) (m := m_law_pen) F_law_pen sc_law_pen m_law_pen_ B_law_pen (fun d => b_law_pen g_int g_max d)
    have C_law_draw : Cal P w K mg base 1 "_law_draw" (SpO K 2 f_law_draw) := def_O (N := n_law_draw) (k := 0) (m := m_law_draw) F_law_draw sc_law_draw m_law_draw_ B_law_draw (fun d => b_law_draw g_int d)
    have C_law_pick : Cal P w K mg base 2 "_law_pick" (SpO K 2 f_law_pick) := def_O (N := n_law_pick) (k := 1) (m := m_law_pick) F_law_pick sc_law_pick m_law_pick_ B_law_pick (fun d => b_law_pick C_law_draw g_len d)
    have C_law_things : Cal P w K mg base 1 "_law_things" (SpF K 0 f_law_things) := def_F (N := n_law_things) (k := 0) (m := m_law_things) F_law_things sc_law_things m_law_things_ B_law_things (fun d => b_law_things  d)
    have TX : ∀ n, n ∈ raised → ExcT K ecls n := fun n hn => excT_of (List.all_eq_true.mp c.more n hn)
    have rin : ∀ n, n ∈ raised → n ∈ ecls := by decide +kernel
    have x1_NotKey : PySem.W.exmOne K (.ref (He.ga K "NotKey")) (.ref (He.ga K "RowError")) = some true := He.exm_ok (c.t.d.fact 57 (f := .exm "NotKey" "RowError" true) rfl)
    have x1_NotBytes : PySem.W.exmOne K (.ref (He.ga K "NotBytes")) (.ref (He.ga K "RowError")) = some true := He.exm_ok (c.t.d.fact 58 (f := .exm "NotBytes" "RowError" true) rfl)
    have mR : mg "RowError" = some (.ref (He.ga K "RowError")) := He.glo_ok KX G (c.t.d.fact 56 (f := .glo "RowError") rfl)
    have hw : ∀ n d, wd n = some d → PySem.W.exmOne K (.ref (He.ga K n)) (.ref (He.ga K "RowError")) = some true ∧ ∀ f b : Addr, ∃ ρ', m_law_said b n ((ent n_law_said.length [.dat (.ref f)]).set 1 (.dat (.ref b))) = .ok (.rt d) ρ' := by
      intro n d hn
      unfold wd at hn
      by_cases h_NotKey : n = "NotKey"
      · rw [if_pos h_NotKey] at hn; cases hn
        subst h_NotKey
        exact ⟨x1_NotKey, fun f b => e_said_NotKey f b⟩
      rw [if_neg h_NotKey] at hn
      by_cases h_NotBytes : n = "NotBytes"
      · rw [if_pos h_NotBytes] at hn; cases hn
        subst h_NotBytes
        exact ⟨x1_NotBytes, fun f b => e_said_NotBytes f b⟩
      rw [if_neg h_NotBytes] at hn
      cases hn
    have SD : SaidT P w K mg base "_law_said" wd := ⟨_, _, _, _, _, He.ga K "RowError", 1, _, _, _, _, fd_law_said, n_law_said, _, _, _, _, _, _, _, _, _, _, m_law_said, F_law_said, m_law_said_, B_law_said, sc_law_said, rfl, by kernel_rfl, rfl, by kernel_rfl, by kernel_rfl, by kernel_rfl, by kernel_rfl, by kernel_rfl, mR,
      fun n n' h1 h2 e => (TX n (wd_in h1)).inj (rin n (wd_in h1)) (rin n' (wd_in h2)) e, hw, fun n hn b {κ} {Y} {oe} d hp hz hf hun hdp => b_law_said g_ValueError g_isinstance k_Collision k_Ringed k_Competing k_TooMany k_Held k_Twice k_NothingDone k_TooLarge k_Impossible k_Missing k_NotLine k_NotBytes k_NotText k_NotDeed k_NotFormula k_NotBound k_NotScan k_NotInteger k_NotRule k_NotOrder k_NotRows k_NotKeys k_NotKey k_NotTable k_NotRow (TX n (wd_in hn)) F_law_word m_law_word_ B_law_word d hp hz hf hun hdp⟩
    have C_law_same : Cal P w K mg base 1 "_law_same" (SpF K 2 f_law_same) := def_F (N := n_law_same) (k := 0) (m := m_law_same) F_law_same sc_law_same m_law_same_ B_law_same (fun d => b_law_same g_repr d)
    have C_law_drawn : Cal P w K mg base 3 "_law_drawn" (SpO K 1 f_law_drawn) := def_O (N := n_law_drawn) (k := 2) (m := m_law_drawn) F_law_drawn sc_law_drawn m_law_drawn_ B_law_drawn (fun d => b_law_drawn C_law_pick C_law_draw g_range d)
    have C_law_due : Cal P w K mg base 1 "_law_due" (SpF K 1 f_law_due) := def_F (N := n_law_due) (k := 0) (m := m_law_due) F_law_due sc_law_due m_law_due_ B_law_due (fun d => b_law_due g_range g_int d)
    have C_law_bad_data : Cal P w K mg base 4 "_law_bad_data" (SpF K 1 f_law_bad_data) := def_F (N := n_law_bad_data) (k := 3) (m := m_law_bad_data) F_law_bad_data sc_law_bad_data m_law_bad_data_ B_law_bad_data (fun d => b_law_bad_data g_repr C_key_bytes d)
    have LT_law : LamT K mg base (He.codeOf K ("law", none)) "law.<locals>." := ⟨(He.cT K ("law", none)).2, hTB (He.cT K ("law", none)) (by simp), by show _ ∈ [_]; simp, fun p hp _ => by
      have hp : p ∈ [((He.cT K ("law", none)).2, ("law.<locals>." : Str) ++ "<lambda>")] := hp
      rw [List.mem_singleton.mp hp]⟩
    exact fn_FL (p := ("law", none)) (N := n_law) (k := 5) (m := m_law wd) F_law sc_law (fun d hcode hq => b_law C_law_cell_at C_law_things C_law_bad_data C_bytes_key SD LT_law C_key_bytes g_enumerate C_law_same C_law_due g_len g_min g_max g_range C_law_drawn C_law_pen d hcode hq)
end Pm

set_option Elab.async false
set_option linter.all false
set_option maxRecDepth 100000
set_option maxHeartbeats 40000000
open PySem PySem.W PySem.Calls PyProof.Rows
theorem PySem.Challenge.cw_rowclash_k92_keys_as_bytes_holds : PySem.Challenge.rw_rowclash_k92_keys_as_bytes.Holds := by
  w_on; o_law
  refine HandSHeadRun.head_any (r := PySem.W.OpenLaw.row PySem.Challenge.rw_rowclash_k92_keys_as_bytes) (q := PySem.W.view (PySem.W.OpenLaw.row PySem.Challenge.rw_rowclash_k92_keys_as_bytes).prog [47]) (H := Pm.hk) (ob := Pm.ob) (M := 20000) (loose := Pm.nms) (d := HandSHeadRun.topDef (PySem.W.OpenLaw.row PySem.Challenge.rw_rowclash_k92_keys_as_bytes).prog 47) (kwd := []) Pm.ob_eq
    (by kernel_rfl) (fun s => by kernel_rfl) Pm.run (by kernel_rfl) (by kernel_rfl) (by kernel_rfl) (by rfl) (by first | assumption | decide +kernel) (by decide +kernel) ⟨rfl, rfl, rfl, rfl, rfl, by decide +kernel⟩ ?hw ?hc
  case hw => w_witness2
  case hc =>
    refine Pm.walk_G (l := PySem.Challenge.rw_rowclash_k92_keys_as_bytes) (n := 63) (k := 6) (x := "_law_script") rfl (by decide) (by kernel_rfl) ⟨rfl, by decide, by decide⟩ ?F
    intro w mg fa h Y G hmg0
    obtain ⟨K, KX, c⟩ := Y
    have hmg : mg ("law" : PySem.Str) = some (.ref fa) := by
      have e : (HandSHeadRun.topDef (PySem.W.OpenLaw.row PySem.Challenge.rw_rowclash_k92_keys_as_bytes).prog 47).name = ("law" : PySem.Str) := by kernel_rfl
      rw [← e]; exact hmg0
    obtain ⟨fd, ct, sp, h1, h2, h3, h4, h5, h6⟩ := Pm.facts (P := (PySem.Challenge.rw_rowclash_k92_keys_as_bytes).prog) (w := w) KX G hmg c (fun ns hl _ => Pm.law_true (by rfl) (by rfl) ns hl)
    exact ⟨K, fd, ct, sp, KX, h1, h2, h3, h4, h5, h6⟩

