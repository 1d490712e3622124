import PyProof.Rows.All
import Wide.All
import OpenK.AllK
import Wide.FinOn
import HandS.ForMost
import HandS.Conv
import HandS.Zip
import HandS.DictComp
import HandS.IsInst
import HandS.More
import HandS.Gcd
import HandS.WideBits
import HandS.SortInts
import HandS.TupAny
import HandS.TupMul
import HandS.TupLe
import HandS.Defaults
import HandS.Codes
import KE.GoesZip
import KE.GoesEnum
import KE.GoesMore
import HandS.Small
import HandS.WordsExc
import HandS.Style
import OpenK.KMore
import HandS.Dict
import KE.KStateDown
import Lean
import HandS.Base
import HandS.Call
import HandS.Ends
import HandS.Words
import HandS.Head0
import HandS.Head1
import HandS.Head2
import HandS.Head3
import HandS.HeadEnd
import HandS.HeadHook1
import HandS.HeadHook2
import HandS.HeadHook3
import HandS.HeadHook4
import HandS.EndBits
import PySem.Challenge.RW_soughtforms_k43_whole_tables
set_option Elab.async false
set_option linter.all false
set_option maxRecDepth 100000
set_option maxHeartbeats 1000000
/-! The D layer: values as data trees, over the hand layer. -/
namespace DL
open PySem PySem.Spec PyProof.Rows L2

/-- a value as data: tuples, and lists, dicts, instances that nobody changes any more (frl: a list that is locked or written); ref: a thing that may be changed -/
inductive D where
  | non | bl (b : Bool) | int (i : Int) | str (x : Str) | ref (a : Addr) | ty (n : String)
  | tup (ds : List D) | lst (ds : List D) | frl (ds : List D) | dct (kvs : List (Key × D)) | ins (C : Addr) (fs : List (Str × D))
/-- what is followed at an address -/
inductive DO where
  | lst (ds : List D) | dct (kvs : List (Key × D)) | ins (C : Addr) (fs : List (Str × D))
abbrev GH := Addr → Option DO
def gput (G : GH) (a : Addr) (o : DO) : GH := fun b => if b = a then some o else G b
def gdel (G : GH) (a : Addr) : GH := fun b => if b = a then none else G b
theorem gput_same {G : GH} {a : Addr} {o : DO} : gput G a o a = some o := if_pos rfl
theorem gput_ne {G : GH} {a b : Addr} {o : DO} (h : b ≠ a) : gput G a o b = G b := if_neg h
theorem gdel_same {G : GH} {a : Addr} : gdel G a a = none := if_pos rfl
theorem gdel_ne {G : GH} {a b : Addr} (h : b ≠ a) : gdel G a b = G b := if_neg h
theorem gput_gput {G : GH} {a : Addr} {o u : DO} : gput (gput G a o) a u = gput G a u := by
  funext b; unfold gput; split <;> rfl
theorem gdel_gput {G : GH} {a : Addr} {o : DO} (h : G a = none) : gdel (gput G a o) a = G := by
  funext b
  by_cases e : b = a
  · rw [e, gdel_same, h]
  · rw [gdel_ne e, gput_ne e]
theorem gput_gdel {G : GH} {a : Addr} {o : DO} : gput (gdel G a) a o = gput G a o := by
  funext b
  by_cases e : b = a
  · rw [e, gput_same, gput_same]
  · rw [gput_ne e, gput_ne e, gdel_ne e]

section
variable (K : PySem.W.Frag) (G : GH) (H : Hp)
def TupAt (a : Addr) (vs : List V) : Prop := (G a = none ∧ Rd H a (.tup vs)) ∨ SqT K (fun _ => none) a vs
def ListAt (a : Addr) (vs : List V) : Prop := (G a = none ∧ Rd H a (.lst vs)) ∨ SqL K (fun _ => none) a vs
mutual
inductive Rp (K : PySem.W.Frag) (G : GH) (H : Hp) : D → V → Prop
  | non : Rp K G H .non .non
  | bl (b : Bool) : Rp K G H (.bl b) (.bl b)
  | int (i : Int) : Rp K G H (.int i) (.int i)
  | str (x : Str) : Rp K G H (.str x) (.str x)
  | ref (a : Addr) : Rp K G H (.ref a) (.ref a)
  | ty (n : String) : Rp K G H (.ty n) (.ty n)
  | tup {a : Addr} {ds : List D} {vs : List V} : TupAt K G H a vs → ds.length ≤ sizeLine → RpL K G H ds vs → Rp K G H (.tup ds) (.ref a)
  | lst {a : Addr} {ds : List D} {vs : List V} : G a = none → H a = some (.lst vs) → ds.length ≤ sizeLine → RpL K G H ds vs → Rp K G H (.lst ds) (.ref a)
  | frl {a : Addr} {ds : List D} {vs : List V} : ListAt K G H a vs → ds.length ≤ sizeLine → RpL K G H ds vs → Rp K G H (.frl ds) (.ref a)
  | dct {a : Addr} {od : Obj} {ks : List (Key × D)} {kv : List (Key × V)} : G a = none → H a = some (.frz od (.dK kv)) → ks.length ≤ sizeLine → RpK K G H ks kv → Rp K G H (.dct ks) (.ref a)
  | ins {a C dx : Addr} {fs : List (Str × D)} {fv : List (Str × V)} : G a = none → H a = some (.ins C dx fv) → RpF K G H fs fv → Rp K G H (.ins C fs) (.ref a)
inductive RpL (K : PySem.W.Frag) (G : GH) (H : Hp) : List D → List V → Prop
  | nil : RpL K G H [] []
  | cons {d : D} {v : V} {ds : List D} {vs : List V} : Rp K G H d v → RpL K G H ds vs → RpL K G H (d :: ds) (v :: vs)
inductive RpK (K : PySem.W.Frag) (G : GH) (H : Hp) : List (Key × D) → List (Key × V) → Prop
  | nil : RpK K G H [] []
  | cons {k : Key} {d : D} {v : V} {ds : List (Key × D)} {vs : List (Key × V)} : Rp K G H d v → RpK K G H ds vs → RpK K G H ((k, d) :: ds) ((k, v) :: vs)
inductive RpF (K : PySem.W.Frag) (G : GH) (H : Hp) : List (Str × D) → List (Str × V) → Prop
  | nil : RpF K G H [] []
  | cons {k : Str} {d : D} {v : V} {ds : List (Str × D)} {vs : List (Str × V)} : Rp K G H d v → RpF K G H ds vs → RpF K G H ((k, d) :: ds) ((k, v) :: vs)
end
def CellOk (a : Addr) : DO → Prop
  | .lst ds => ds.length ≤ sizeLine ∧ ∃ vs, H a = some (.lst vs) ∧ RpL K G H ds vs
  | .dct kvs => kvs.length ≤ sizeLine ∧ ∃ kv, H a = some (.dK kv) ∧ RpK K G H kvs kv
  | .ins C fs => ∃ dx fv, H a = some (.ins C dx fv) ∧ RpF K G H fs fv
def GOk : Prop := ∀ a c, G a = some c → CellOk K G H a c
end
/-- the slots -/
inductive RpS (K : PySem.W.Frag) (G : GH) (H : Hp) : List (Option D) → L2.St → Prop
  | nil : RpS K G H [] []
  | skip {s : Option V} {ρ : List (Option D)} {σ : L2.St} : RpS K G H ρ σ → RpS K G H (none :: ρ) (s :: σ)
  | cons {d : D} {v : V} {ρ : List (Option D)} {σ : L2.St} : Rp K G H d v → RpS K G H ρ σ → RpS K G H (some d :: ρ) (some v :: σ)

/-- what is not followed stays as it is -/
def Keep (G : GH) (H : Hp) (G' : GH) (H' : Hp) : Prop := ∀ a o, G a = none → H a = some o → G' a = none ∧ H' a = some o
section
variable {K : PySem.W.Frag} {G G' G1 G2 : GH} {H H' H1 H2 : Hp} {a p : Addr}
theorem Keep.refl : Keep G H G H := fun _ _ g h => ⟨g, h⟩
theorem Keep.trans (x : Keep G H G1 H1) (y : Keep G1 H1 G2 H2) : Keep G H G2 H2 := fun a o g h => by
  obtain ⟨g1, h1⟩ := x a o g h
  exact y a o g1 h1
theorem Keep.rd {u : HO} (x : Keep G H G' H') (g : G a = none) (r : Rd H a u) : G' a = none ∧ Rd H' a u := by
  rcases r with r | ⟨o, r⟩
  · obtain ⟨g1, h1⟩ := x a _ g r
    exact ⟨g1, .inl h1⟩
  · obtain ⟨g1, h1⟩ := x a _ g r
    exact ⟨g1, .inr ⟨o, h1⟩⟩
theorem TupAt.keep {vs : List V} (x : Keep G H G' H') (t : TupAt K G H a vs) : TupAt K G' H' a vs := by
  rcases t with ⟨g, r⟩ | t
  · exact .inl (x.rd g r)
  · exact .inr t
theorem ListAt.keep {vs : List V} (x : Keep G H G' H') (t : ListAt K G H a vs) : ListAt K G' H' a vs := by
  rcases t with ⟨g, r⟩ | t
  · exact .inl (x.rd g r)
  · exact .inr t
theorem TupAt.sq {vs : List V} (t : TupAt K G H a vs) : SqT K H a vs := by
  rcases t with ⟨g, r⟩ | t
  · exact .inl r
  · rcases t with r | t
    · rcases r with r | ⟨o, r⟩ <;> cases r
    · exact .inr t
theorem ListAt.sq {vs : List V} (t : ListAt K G H a vs) : SqL K H a vs := by
  rcases t with ⟨g, r⟩ | t
  · exact .inl r
  · rcases t with r | t
    · rcases r with r | ⟨o, r⟩ <;> cases r
    · exact .inr t
mutual
theorem Rp.keep (x : Keep G H G' H') : ∀ {d : D} {v : V}, Rp K G H d v → Rp K G' H' d v
  | _, _, .non => .non
  | _, _, .bl b => .bl b
  | _, _, .int i => .int i
  | _, _, .str z => .str z
  | _, _, .ref a => .ref a
  | _, _, .ty n => .ty n
  | _, _, .tup t z l => .tup (t.keep x) z (l.keep x)
  | _, _, .lst g h z l => .lst (x _ _ g h).1 (x _ _ g h).2 z (l.keep x)
  | _, _, .frl t z l => .frl (t.keep x) z (l.keep x)
  | _, _, .dct g h z l => .dct (x _ _ g h).1 (x _ _ g h).2 z (l.keep x)
  | _, _, .ins g h l => .ins (x _ _ g h).1 (x _ _ g h).2 (l.keep x)
theorem RpL.keep (x : Keep G H G' H') : ∀ {d : List D} {v : List V}, RpL K G H d v → RpL K G' H' d v
  | _, _, .nil => .nil
  | _, _, .cons r t => .cons (r.keep x) (t.keep x)
theorem RpK.keep (x : Keep G H G' H') : ∀ {d : List (Key × D)} {v : List (Key × V)}, RpK K G H d v → RpK K G' H' d v
  | _, _, .nil => .nil
  | _, _, .cons r t => .cons (r.keep x) (t.keep x)
theorem RpF.keep (x : Keep G H G' H') : ∀ {d : List (Str × D)} {v : List (Str × V)}, RpF K G H d v → RpF K G' H' d v
  | _, _, .nil => .nil
  | _, _, .cons r t => .cons (r.keep x) (t.keep x)
end
theorem RpS.keep (x : Keep G H G' H') : ∀ {ρ : List (Option D)} {σ : L2.St}, RpS K G H ρ σ → RpS K G' H' ρ σ
  | _, _, .nil => .nil
  | _, _, .skip t => .skip (t.keep x)
  | _, _, .cons r t => .cons (r.keep x) (t.keep x)
theorem CellOk.keep (x : Keep G H G' H') {c : DO} (e : H' a = H a) (o : CellOk K G H a c) : CellOk K G' H' a c := by
  cases c with
  | lst ds => obtain ⟨z, vs, h, r⟩ := o; exact ⟨z, vs, e.trans h, r.keep x⟩
  | dct ks => obtain ⟨z, vs, h, r⟩ := o; exact ⟨z, vs, e.trans h, r.keep x⟩
  | ins C fs => obtain ⟨dx, fv, h, r⟩ := o; exact ⟨dx, fv, e.trans h, r.keep x⟩
theorem GOk.ex (g : GOk K G H) {c : DO} (h : G a = some c) : ∃ o, H a = some o := by
  have z := g a c h
  cases c with
  | lst ds => obtain ⟨_, vs, h, r⟩ := z; exact ⟨_, h⟩
  | dct ks => obtain ⟨_, vs, h, r⟩ := z; exact ⟨_, h⟩
  | ins C fs => obtain ⟨dx, fv, h, r⟩ := z; exact ⟨_, h⟩
theorem GOk.fresh (g : GOk K G H) (h : H p = none) : G p = none := by
  cases e : G p with
  | none => rfl
  | some c =>
    obtain ⟨o, z⟩ := g.ex e
    rw [h] at z
    cases z
/-- a new thing that is not followed -/
theorem Keep.lay {o : HO} (g : GOk K G H) (h : H p = none) : Keep G H G (upd H p o) := fun b u gb hb => by
  refine ⟨gb, ?_⟩
  rw [upd_ne (ne_of_none hb h)]
  exact hb
theorem GOk.lay {o : HO} (g : GOk K G H) (h : H p = none) : GOk K G (upd H p o) := fun b c e => by
  obtain ⟨u, z⟩ := g.ex e
  exact (g b c e).keep (Keep.lay g h) (by rw [upd_ne (ne_of_none z h)])
/-- a new thing that is followed -/
theorem Keep.put {o : HO} {c : DO} (h : H p = none) : Keep G H (gput G p c) (upd H p o) := fun b u gb hb => by
  have n := ne_of_none hb h
  rw [gput_ne n, upd_ne n]
  exact ⟨gb, hb⟩
theorem GOk.put {o : HO} {c : DO} (g : GOk K G H) (h : H p = none) (n : CellOk K (gput G p c) (upd H p o) p c) : GOk K (gput G p c) (upd H p o) := fun b c' e => by
  by_cases hb : b = p
  · subst hb
    rw [gput_same] at e
    cases e
    exact n
  · rw [gput_ne hb] at e
    exact (g b c' e).keep (Keep.put h) (by rw [upd_ne hb])
/-- a followed thing is changed -/
theorem Keep.set {o : HO} {c c' : DO} (h : G p = some c) : Keep G H (gput G p c') (upd H p o) := fun b u gb hb => by
  have n : b ≠ p := fun e => by
    rw [e, h] at gb
    cases gb
  rw [gput_ne n, upd_ne n]
  exact ⟨gb, hb⟩
theorem GOk.set {o : HO} {c c' : DO} (g : GOk K G H) (h : G p = some c) (n : CellOk K (gput G p c') (upd H p o) p c') : GOk K (gput G p c') (upd H p o) := fun b u e => by
  by_cases hb : b = p
  · subst hb
    rw [gput_same] at e
    cases e
    exact n
  · rw [gput_ne hb] at e
    exact (g b u e).keep (Keep.set h) (by rw [upd_ne hb])
/-- a followed thing is followed no more -/
theorem Keep.del : Keep G H (gdel G p) H := fun b u gb hb => by
  refine ⟨?_, hb⟩
  unfold gdel
  split
  · rfl
  · exact gb
theorem GOk.del (g : GOk K G H) : GOk K (gdel G p) H := fun b c e => by
  by_cases hb : b = p
  · rw [hb, gdel_same] at e
    cases e
  · rw [gdel_ne hb] at e
    exact (g b c e).keep Keep.del rfl
theorem RpL.length : ∀ {ds : List D} {vs : List V}, RpL K G H ds vs → ds.length = vs.length
  | _, _, .nil => rfl
  | _, _, .cons _ t => by rw [List.length_cons, List.length_cons, t.length]
theorem RpK.length : ∀ {ds : List (Key × D)} {vs : List (Key × V)}, RpK K G H ds vs → ds.length = vs.length
  | _, _, .nil => rfl
  | _, _, .cons _ t => by rw [List.length_cons, List.length_cons, t.length]
theorem RpF.length : ∀ {ds : List (Str × D)} {vs : List (Str × V)}, RpF K G H ds vs → ds.length = vs.length
  | _, _, .nil => rfl
  | _, _, .cons _ t => by rw [List.length_cons, List.length_cons, t.length]
theorem RpL.get : ∀ {ds : List D} {vs : List V} {i : Nat} {d : D}, RpL K G H ds vs → ds[i]? = some d → ∃ v, vs[i]? = some v ∧ Rp K G H d v
  | _, _, _, _, .nil, e => by simp at e
  | _, _, 0, _, .cons r _, e => by
    rw [List.getElem?_cons_zero] at e
    cases e
    exact ⟨_, rfl, r⟩
  | _, _, i + 1, _, .cons _ t, e => by
    rw [List.getElem?_cons_succ] at e
    obtain ⟨v, h1, h2⟩ := t.get e
    exact ⟨v, by rw [List.getElem?_cons_succ]; exact h1, h2⟩
theorem RpL.get' : ∀ {ds : List D} {vs : List V} {i : Nat} {v : V}, RpL K G H ds vs → vs[i]? = some v → ∃ d, ds[i]? = some d ∧ Rp K G H d v
  | _, _, _, _, .nil, e => by simp at e
  | _, _, 0, _, .cons r _, e => by
    rw [List.getElem?_cons_zero] at e
    cases e
    exact ⟨_, rfl, r⟩
  | _, _, i + 1, _, .cons _ t, e => by
    rw [List.getElem?_cons_succ] at e
    obtain ⟨v, h1, h2⟩ := t.get' e
    exact ⟨v, by rw [List.getElem?_cons_succ]; exact h1, h2⟩
theorem RpL.append : ∀ {ds es : List D} {vs us : List V}, RpL K G H ds vs → RpL K G H es us → RpL K G H (ds ++ es) (vs ++ us)
  | _, _, _, _, .nil, s => s
  | _, _, _, _, .cons r t, s => .cons r (t.append s)
theorem RpL.take : ∀ {ds : List D} {vs : List V} (n : Nat), RpL K G H ds vs → RpL K G H (ds.take n) (vs.take n)
  | _, _, 0, _ => by rw [List.take_zero, List.take_zero]; exact .nil
  | _, _, _ + 1, .nil => .nil
  | _, _, n + 1, .cons r t => .cons r (t.take n)
theorem RpL.drop : ∀ {ds : List D} {vs : List V} (n : Nat), RpL K G H ds vs → RpL K G H (ds.drop n) (vs.drop n)
  | _, _, 0, r => r
  | _, _, _ + 1, .nil => .nil
  | _, _, n + 1, .cons _ t => t.drop n
theorem RpL.set {d : D} {v : V} (r : Rp K G H d v) : ∀ {ds : List D} {vs : List V} (i : Nat), RpL K G H ds vs → RpL K G H (ds.set i d) (vs.set i v)
  | _, _, _, .nil => .nil
  | _, _, 0, .cons _ t => .cons r t
  | _, _, i + 1, .cons q t => .cons q (t.set r i)
theorem RpL.eraseIdx : ∀ {ds : List D} {vs : List V} (i : Nat), RpL K G H ds vs → RpL K G H (ds.eraseIdx i) (vs.eraseIdx i)
  | _, _, _, .nil => .nil
  | _, _, 0, .cons _ t => t
  | _, _, i + 1, .cons q t => .cons q (t.eraseIdx i)
theorem RpL.reverse : ∀ {ds : List D} {vs : List V}, RpL K G H ds vs → RpL K G H ds.reverse vs.reverse
  | _, _, .nil => .nil
  | _, _, .cons r t => by
    rw [List.reverse_cons, List.reverse_cons]
    exact t.reverse.append (.cons r .nil)
theorem RpL.ints : ∀ (ns : List Int), RpL K G H (ns.map D.int) (ns.map V.int)
  | [] => .nil
  | n :: ns => .cons (.int n) (RpL.ints ns)
theorem RpL.ints' : ∀ {ns : List Int} {vs : List V}, RpL K G H (ns.map D.int) vs → vs = ns.map V.int
  | [], _, .nil => rfl
  | _ :: _, _, .cons (.int _) t => by rw [t.ints']; rfl
theorem RpL.bools' : ∀ {ns : List Bool} {vs : List V}, RpL K G H (ns.map D.bl) vs → vs = ns.map V.bl
  | [], _, .nil => rfl
  | _ :: _, _, .cons (.bl _) t => by rw [t.bools']; rfl
theorem RpS.get : ∀ {ρ : List (Option D)} {σ : L2.St} {i : Nat} {d : D}, RpS K G H ρ σ → ρ[i]? = some (some d) → ∃ v, σ[i]? = some (some v) ∧ Rp K G H d v
  | _, _, _, _, .nil, e => by simp at e
  | _, _, 0, _, .skip _, e => by
    rw [List.getElem?_cons_zero] at e
    cases e
  | _, _, 0, _, .cons r _, e => by
    rw [List.getElem?_cons_zero] at e
    cases e
    exact ⟨_, rfl, r⟩
  | _, _, i + 1, _, .skip t, e => by
    rw [List.getElem?_cons_succ] at e
    obtain ⟨v, h1, h2⟩ := t.get e
    exact ⟨v, by rw [List.getElem?_cons_succ]; exact h1, h2⟩
  | _, _, i + 1, _, .cons _ t, e => by
    rw [List.getElem?_cons_succ] at e
    obtain ⟨v, h1, h2⟩ := t.get e
    exact ⟨v, by rw [List.getElem?_cons_succ]; exact h1, h2⟩
theorem RpS.set {d : D} {v : V} (r : Rp K G H d v) : ∀ {ρ : List (Option D)} {σ : L2.St} (i : Nat), RpS K G H ρ σ → RpS K G H (ρ.set i (some d)) (σ.set i (some v))
  | _, _, _, .nil => .nil
  | _, _, 0, .skip t => .cons r t
  | _, _, 0, .cons _ t => .cons r t
  | _, _, i + 1, .skip t => .skip (t.set r i)
  | _, _, i + 1, .cons q t => .cons q (t.set r i)
theorem RpS.forget : ∀ {ρ : List (Option D)} {σ : L2.St} {s : Option V} (i : Nat), RpS K G H ρ σ → RpS K G H (ρ.set i none) (σ.set i s)
  | _, _, _, _, .nil => .nil
  | _, _, _, 0, .skip t => .skip t
  | _, _, _, 0, .cons _ t => .skip t
  | _, _, _, i + 1, .skip t => .skip (t.forget i)
  | _, _, _, i + 1, .cons q t => .cons q (t.forget i)
theorem RpS.length : ∀ {ρ : List (Option D)} {σ : L2.St}, RpS K G H ρ σ → ρ.length = σ.length
  | _, _, .nil => rfl
  | _, _, .skip t => by rw [List.length_cons, List.length_cons, t.length]
  | _, _, .cons _ t => by rw [List.length_cons, List.length_cons, t.length]
theorem RpS.nones : ∀ (n : Nat), RpS K G H (List.replicate n none) (List.replicate n none)
  | 0 => .nil
  | n + 1 => .skip (RpS.nones n)
theorem RpS.of_args : ∀ {ds : List D} {vs : List V} {n : Nat}, RpL K G H ds vs → RpS K G H (ds.map some ++ List.replicate n none) (vs.map some ++ List.replicate n none)
  | _, _, n, .nil => RpS.nones n
  | _, _, n, .cons r t => .cons r (RpS.of_args t)
end

/-! ### readings over data -/
abbrev DE := D → GH → Prop
abbrev Dt := List (Option D)
abbrev DTE := Dt → GH → DE → Prop
abbrev DTT := Dt → GH → (Bool → GH → Prop) → Prop
abbrev DTA := Dt → GH → (List D → GH → Prop) → Prop
structure DEnds where
  nx : Dt → GH → Prop
  rt : DE
  bk : Dt → GH → Prop := fun _ _ => False
  ct : Dt → GH → Prop := fun _ _ => False
abbrev DTS := DEnds → Dt → GH → Prop
abbrev DTG := D → Dt → GH → (Dt → GH → Prop) → Prop
abbrev DTGs := List D → Dt → GH → (Dt → GH → Prop) → Prop

def Fin (K : PySem.W.Frag) (G : GH) (H : Hp) (QD : DE) (Q : VK) : Prop := ∀ v H' d G', Keep G H G' H' → GOk K G' H' → Rp K G' H' d v → QD d G' → Q v H'
def lowE (K : PySem.W.Frag) (t : DTE) : TE := fun σ H Q => ∃ ρ G QD, RpS K G H ρ σ ∧ GOk K G H ∧ t ρ G QD ∧ Fin K G H QD Q
def lowT (K : PySem.W.Frag) (t : DTT) : TT := fun σ H Q => ∃ ρ G QD, RpS K G H ρ σ ∧ GOk K G H ∧ t ρ G QD ∧ ∀ b H' G', Keep G H G' H' → GOk K G' H' → QD b G' → Q b H'
def lowA (K : PySem.W.Frag) (t : DTA) : TA := fun σ H Q => ∃ ρ G QD, RpS K G H ρ σ ∧ GOk K G H ∧ t ρ G QD ∧ ∀ vs H' ds G', Keep G H G' H' → GOk K G' H' → RpL K G' H' ds vs → QD ds G' → Q vs H'
structure FinS (K : PySem.W.Frag) (G : GH) (H : Hp) (DD : DEnds) (E : Ends) : Prop where
  nx : ∀ σ' H' ρ' G', Keep G H G' H' → GOk K G' H' → RpS K G' H' ρ' σ' → DD.nx ρ' G' → E.nx σ' H'
  rt : Fin K G H DD.rt E.rt
  bk : ∀ σ' H' ρ' G', Keep G H G' H' → GOk K G' H' → RpS K G' H' ρ' σ' → DD.bk ρ' G' → E.bk σ' H'
  ct : ∀ σ' H' ρ' G', Keep G H G' H' → GOk K G' H' → RpS K G' H' ρ' σ' → DD.ct ρ' G' → E.ct σ' H'
def lowS (K : PySem.W.Frag) (t : DTS) : TS := fun E σ H => ∃ ρ G DD, RpS K G H ρ σ ∧ GOk K G H ∧ t DD ρ G ∧ FinS K G H DD E
def lowG (K : PySem.W.Frag) (t : DTG) : TG := fun x σ H Q => ∃ d ρ G QD, Rp K G H d x ∧ RpS K G H ρ σ ∧ GOk K G H ∧ t d ρ G QD ∧ ∀ σ' H' ρ' G', Keep G H G' H' → GOk K G' H' → RpS K G' H' ρ' σ' → QD ρ' G' → Q σ' H'
def lowGs (K : PySem.W.Frag) (t : DTGs) : TGs := fun xs σ H Q => ∃ ds ρ G QD, RpL K G H ds xs ∧ RpS K G H ρ σ ∧ GOk K G H ∧ t ds ρ G QD ∧ ∀ σ' H' ρ' G', Keep G H G' H' → GOk K G' H' → RpS K G' H' ρ' σ' → QD ρ' G' → Q σ' H'

abbrev XE (X : Cx) (e : Expr) (t : DTE) : Prop := PE X e (lowE X.K t)
abbrev XT (X : Cx) (e : Expr) (t : DTT) : Prop := PT X e (lowT X.K t)
abbrev XW (X : Cx) (e : Expr) (t : DTT) : Prop := PW X e (lowT X.K t)
abbrev XA (X : Cx) (es : List Expr) (t : DTA) : Prop := PA X es (lowA X.K t)
abbrev XS (X : Cx) (s : Stmt) (t : DTS) : Prop := PS X s (lowS X.K t)
abbrev XSs (X : Cx) (s : List Stmt) (t : DTS) : Prop := PSs X s (lowS X.K t)
abbrev XG (X : Cx) (e : Expr) (t : DTG) : Prop := PG X e (lowG X.K t)
abbrev XGs (X : Cx) (es : List Expr) (t : DTGs) : Prop := PGs X es (lowGs X.K t)

section
variable {X : Cx} {e : Expr} {es : List Expr} {st : Stmt} {sts : List Stmt}
theorem PE.imp {t u : TE} (h : PE X e t) (i : ∀ σ H Q, u σ H Q → t σ H Q) : PE X e u := ⟨fun pins s σ H Q I w => h.run pins s σ H Q I (i σ H Q w)⟩
theorem PT.imp {t u : TT} (h : PT X e t) (i : ∀ σ H Q, u σ H Q → t σ H Q) : PT X e u := ⟨fun pins s σ H Q I w => h.run pins s σ H Q I (i σ H Q w)⟩
theorem PW.imp {t u : TT} (h : PW X e t) (i : ∀ σ H Q, u σ H Q → t σ H Q) : PW X e u := ⟨fun wh pins s σ H Q I w => h.run wh pins s σ H Q I (i σ H Q w)⟩
theorem PA.imp {t u : TA} (h : PA X es t) (i : ∀ σ H Q, u σ H Q → t σ H Q) : PA X es u := ⟨fun pos pins s σ H Q I w => h.run pos pins s σ H Q I (i σ H Q w)⟩
theorem PS.imp {t u : TS} (h : PS X st t) (i : ∀ D σ H, u D σ H → t D σ H) : PS X st u := ⟨fun pins s σ H D I w => h.run pins s σ H D I (i D σ H w)⟩
theorem PSs.imp {t u : TS} (h : PSs X sts t) (i : ∀ D σ H, u D σ H → t D σ H) : PSs X sts u := ⟨fun pins s σ H D I w => h.run pins s σ H D I (i D σ H w)⟩
theorem PG.imp {t u : TG} (h : PG X e t) (i : ∀ x σ H Q, u x σ H Q → t x σ H Q) : PG X e u := ⟨fun pins s σ H v u' Q I r w => h.run pins s σ H v u' Q I r (i v σ H Q w)⟩
theorem PGs.imp {t u : TGs} (h : PGs X es t) (i : ∀ x σ H Q, u x σ H Q → t x σ H Q) : PGs X es u := ⟨fun pins s σ H v u' Q I r w => h.run pins s σ H v u' Q I r (i v σ H Q w)⟩
end
end DL
set_option Elab.async false
set_option linter.all false
set_option maxRecDepth 100000
set_option maxHeartbeats 1000000
/-! The D layer: rules for expressions. -/
namespace DL
open PySem PySem.Spec PyProof.Rows L2
/-- a slot, by computation -/
def sl : Dt → Nat → Option D
  | [], _ => none
  | x :: _, 0 => x
  | _ :: r, n + 1 => sl r n
theorem sl_some : ∀ {ρ : Dt} {i : Nat} {d : D}, sl ρ i = some d → ρ[i]? = some (some d)
  | [], _, _, h => by cases h
  | x :: _, 0, d, h => by
    have h1 : x = some d := h
    rw [List.getElem?_cons_zero, h1]
  | _ :: r, n + 1, d, h => by
    rw [List.getElem?_cons_succ]
    exact sl_some (ρ := r) h
def onD (o : Option D) (k : D → Prop) : Prop := match o with
  | some d => k d
  | none => False
theorem onD_some {o : Option D} {k : D → Prop} (h : onD o k) : ∃ d, o = some d ∧ k d := by
  cases o with
  | none => exact h.elim
  | some d => exact ⟨d, rfl, h⟩
def dVar (i : Nat) : DTE := fun ρ G Q => onD (sl ρ i) fun d => Q d G
def dC (d : D) : DTE := fun _ G Q => Q d G
section
variable {X : Cx} {e a b : Expr} {pos : Pos}
theorem xv (i : Nat) {x : Str} (hN : X.N[i]? = some x := by rfl) (hv : Vis X.env.scope x := by first | exact Or.inl rfl | exact Or.inr (Or.inl rfl) | exact Or.inr (Or.inr rfl)) (hd : (x == ("__debug__" : Str)) = false := by decide)
    (hcd : (x == ("__classdict__" : Str)) = false := by decide) : XE X (.Name x pos) (dVar i) :=
  PE.imp (pe_var hN hv hd hcd) fun σ H Q ⟨ρ, G, QD, hs, hg, ht, hf⟩ => by
    obtain ⟨d, e, ht⟩ := onD_some ht
    obtain ⟨v, h1, h2⟩ := hs.get (sl_some e)
    exact ⟨v, h1, hf v H d G Keep.refl hg h2 ht⟩
theorem xconst {d : D} {v : V} (h : PE X e (tC v)) (r : ∀ G H, Rp X.K G H d v) : XE X e (dC d) :=
  PE.imp h fun σ H Q ⟨ρ, G, QD, hs, hg, ht, hf⟩ => hf v H d G Keep.refl hg (r G H) ht
theorem xint {i : Int} {j : Nat} : XE X (.Constant (.int i) j pos) (dC (.int i)) := xconst pe_int fun _ _ => .int i
theorem xbl {i : Bool} {j : Nat} : XE X (.Constant (.bool i) j pos) (dC (.bl i)) := xconst pe_bl fun _ _ => .bl i
theorem xstr {i : Str} {j : Nat} : XE X (.Constant (.str i) j pos) (dC (.str i)) := xconst pe_str fun _ _ => .str i
theorem xnon {j : Nat} : XE X (.Constant .none j pos) (dC .non) := xconst pe_non fun _ _ => .non
theorem xglob {x : Str} {d : D} {v : V} {u : Value} (hm : X.mg x = some u) (r : RelV v u) (h : ∀ G H, Rp X.K G H d v) (hg : Gl X x := by rfl) (hd : (x == ("__debug__" : Str)) = false := by decide) : XE X (.Name x pos) (dC d) :=
  xconst (pe_glob hg hm r hd) h
theorem xbltn {x : Str} {n : String} (hm : X.mg x = none) (hv : bootBuiltins x = some (.type n)) (hg : Gl X x := by rfl) (hn : x ≠ "__name__" := by decide) (hd : (x == ("__debug__" : Str)) = false := by decide) : XE X (.Name x pos) (dC (.ty n)) :=
  xconst (pe_bltn hg hm hv (v := .ty n) rfl hn hd) fun _ _ => .ty n

/-! ### operators by values -/
abbrev D2 := D → D → GH → DE → Prop
/-- f of data is served by r of values -/
def OpD (K : PySem.W.Frag) (r : R2) (f : D2) : Prop := ∀ (G : GH) (H : Hp) (x y : D) (v u : V) (QD : DE) (Q : VK), GOk K G H → Rp K G H x v → Rp K G H y u → f x y G QD → Fin K G H QD Q → r v u H Q
def dOp (f : D2) (ta tb : DTE) : DTE := fun ρ G Q => ta ρ G fun x G1 => tb ρ G1 fun y G2 => f x y G2 Q
variable {ta tb tc : DTE} {f : D2} {r : R2}
theorem Fin.from {K : PySem.W.Frag} {G G1 : GH} {H H1 : Hp} {QD : DE} {Q : VK} (h : Fin K G H QD Q) (k : Keep G H G1 H1) : Fin K G1 H1 QD Q := fun v H' d G' k' => h v H' d G' (k.trans k')
theorem low_op (hf : OpD X.K r f) {σ : L2.St} {H : Hp} {Q : VK} (h : lowE X.K (dOp f ta tb) σ H Q) : tOp r (lowE X.K ta) (lowE X.K tb) σ H Q := by
  obtain ⟨ρ, G, QD, hs, hg, ht, hq⟩ := h
  refine ⟨ρ, G, _, hs, hg, ht, fun v H1 x G1 k1 g1 r1 q1 => ?_⟩
  refine ⟨ρ, G1, _, hs.keep k1, g1, q1, fun u H2 y G2 k2 g2 r2 q2 => ?_⟩
  exact hf G2 H2 x y v u QD Q g2 (r1.keep k2) r2 q2 (hq.from (k1.trans k2))
theorem xop {op : Operator} (ho : OpR X (binaryOp op) r) (hf : OpD X.K r f) (ha : XE X a ta) (hb : XE X b tb) : XE X (.BinOp a op b pos) (dOp f ta tb) :=
  PE.imp (pe_op ho ha hb) fun _ _ _ h => low_op hf h
theorem xcmp {op : CmpOp} (ho : OpR X (compareOp op) r) (hf : OpD X.K r f) (hm : behindInMarks op b = false) (ha : XE X a ta) (hb : XE X b tb) : XE X (.Compare a [op] [b] pos) (dOp f ta tb) :=
  PE.imp (pe_cmpR ho ha hb hm) fun _ _ _ h => low_op hf h
/-- a bool's way -/
def onB (d : D) (k : Bool → Prop) : Prop := match d with
  | .bl b => k b
  | _ => False
theorem onB_bl {d : D} {k : Bool → Prop} (h : onB d k) : ∃ b, d = .bl b ∧ k b := by
  cases d <;> first | exact h.elim | exact ⟨_, rfl, h⟩
def dB (t : DTE) : DTT := fun ρ G Q => t ρ G fun d G1 => onB d fun b => Q b G1
theorem xt_cmp {op : CmpOp} (ho : OpR X (compareOp op) r) (hf : OpD X.K r f) (hm : behindInMarks op b = false) (ha : XE X a ta) (hb : XE X b tb) : XT X (.Compare a [op] [b] pos) (dB (dOp f ta tb)) :=
  PT.imp (pt_cmpR ho ha hb hm) fun σ H Q ⟨ρ, G, QD, hs, hg, ht, hf'⟩ => low_op hf ⟨ρ, G, _, hs, hg, ht, fun v H1 d G1 k1 g1 r1 q1 => by
    obtain ⟨b, rfl, q⟩ := onB_bl q1
    cases r1
    exact ⟨b, rfl, hf' b H1 G1 k1 g1 q⟩⟩
theorem xt_val (h : XE X e ta) (he : ∀ whole, isTrue e X.env whole = (do let v ← whole; standAt e.pos; holding [v] (truthy v)) := by intro _; rfl) : XT X e (dB ta) :=
  PT.imp (pt_val h he) fun σ H Q ⟨ρ, G, QD, hs, hg, ht, hf'⟩ => ⟨ρ, G, _, hs, hg, ht, fun v H1 d G1 k1 g1 r1 q1 => by
    obtain ⟨b, rfl, q⟩ := onB_bl q1
    cases r1
    exact ⟨b, rfl, hf' b H1 G1 k1 g1 q⟩⟩
/-! ### tests joined -/
variable {tt tu : DTT} {rest : List Expr}
def dAnd (t u : DTT) : DTT := fun ρ G Q => t ρ G fun c G1 => if c = true then u ρ G1 Q else Q false G1
def dOr (t u : DTT) : DTT := fun ρ G Q => t ρ G fun c G1 => if c = true then Q true G1 else u ρ G1 Q
def dNot (t : DTT) : DTT := fun ρ G Q => t ρ G fun c G1 => Q (!c) G1
theorem xw_and1 (h : XT X a tt) : XW X (.BoolOp .And [a] pos) tt := pw_and1 h
theorem xw_or1 (h : XT X a tt) : XW X (.BoolOp .Or [a] pos) tt := pw_or1 h
theorem xw_and (ha : XT X a tt) (hb : XW X (.BoolOp .And (b :: rest) pos) tu) : XW X (.BoolOp .And (a :: b :: rest) pos) (dAnd tt tu) :=
  PW.imp (pw_and ha hb) fun σ H Q ⟨ρ, G, QD, hs, hg, ht, hf⟩ => ⟨ρ, G, _, hs, hg, ht, fun c H1 G1 k1 g1 q1 => by
    cases c with
    | true => exact ⟨ρ, G1, QD, hs.keep k1, g1, q1, fun b H' G' k' => hf b H' G' (k1.trans k')⟩
    | false => exact hf false H1 G1 k1 g1 q1⟩
theorem xw_or (ha : XT X a tt) (hb : XW X (.BoolOp .Or (b :: rest) pos) tu) : XW X (.BoolOp .Or (a :: b :: rest) pos) (dOr tt tu) :=
  PW.imp (pw_or ha hb) fun σ H Q ⟨ρ, G, QD, hs, hg, ht, hf⟩ => ⟨ρ, G, _, hs, hg, ht, fun c H1 G1 k1 g1 q1 => by
    cases c with
    | false => exact ⟨ρ, G1, QD, hs.keep k1, g1, q1, fun b H' G' k' => hf b H' G' (k1.trans k')⟩
    | true => exact hf true H1 G1 k1 g1 q1⟩
theorem xt_not (ha : XT X a tt) : XT X (.UnaryOp .Not a pos) (dNot tt) :=
  PT.imp (pt_not ha) fun σ H Q ⟨ρ, G, QD, hs, hg, ht, hf⟩ => ⟨ρ, G, _, hs, hg, ht, fun c H1 G1 k1 g1 q1 => hf (!c) H1 G1 k1 g1 q1⟩
/-! .. as values: bools -/
def dAndV (t u : DTE) : DTE := fun ρ G Q => t ρ G fun d G1 => onB d fun c => if c = true then u ρ G1 Q else Q (.bl false) G1
def dOrV (t u : DTE) : DTE := fun ρ G Q => t ρ G fun d G1 => onB d fun c => if c = true then Q (.bl true) G1 else u ρ G1 Q
def dNotV (t : DTE) : DTE := fun ρ G Q => t ρ G fun d G1 => onB d fun c => Q (.bl (!c)) G1
theorem x_one {op : BoolOp} (h : XE X a ta) : XE X (.BoolOp op [a] pos) ta := pe_one h
theorem x_and (ha : XE X a ta) (hb : XE X (.BoolOp .And (b :: rest) pos) tb) : XE X (.BoolOp .And (a :: b :: rest) pos) (dAndV ta tb) :=
  PE.imp (pe_and ha hb) fun σ H Q ⟨ρ, G, QD, hs, hg, ht, hf⟩ => ⟨ρ, G, _, hs, hg, ht, fun v H1 d G1 k1 g1 r1 q1 => by
    obtain ⟨c, rfl, q⟩ := onB_bl q1
    cases r1
    refine ⟨c, rfl, ?_⟩
    cases c with
    | true => exact ⟨ρ, G1, QD, hs.keep k1, g1, q, hf.from k1⟩
    | false => exact hf _ H1 _ G1 k1 g1 (.bl false) q⟩
theorem x_or (ha : XE X a ta) (hb : XE X (.BoolOp .Or (b :: rest) pos) tb) : XE X (.BoolOp .Or (a :: b :: rest) pos) (dOrV ta tb) :=
  PE.imp (pe_or ha hb) fun σ H Q ⟨ρ, G, QD, hs, hg, ht, hf⟩ => ⟨ρ, G, _, hs, hg, ht, fun v H1 d G1 k1 g1 r1 q1 => by
    obtain ⟨c, rfl, q⟩ := onB_bl q1
    cases r1
    refine ⟨c, rfl, ?_⟩
    cases c with
    | false => exact ⟨ρ, G1, QD, hs.keep k1, g1, q, hf.from k1⟩
    | true => exact hf _ H1 _ G1 k1 g1 (.bl true) q⟩
theorem x_not (ha : XE X a ta) : XE X (.UnaryOp .Not a pos) (dNotV ta) :=
  PE.imp (pe_not ha) fun σ H Q ⟨ρ, G, QD, hs, hg, ht, hf⟩ => ⟨ρ, G, _, hs, hg, ht, fun v H1 d G1 k1 g1 r1 q1 => by
    obtain ⟨c, rfl, q⟩ := onB_bl q1
    cases r1
    exact ⟨c, rfl, hf _ H1 _ G1 k1 g1 (.bl _) q⟩⟩
def dIf (t : DTT) (u v : DTE) : DTE := fun ρ G Q => t ρ G fun c G1 => if c = true then u ρ G1 Q else v ρ G1 Q
theorem xif {c : Expr} (hc : XT X c tt) (ha : XE X a ta) (hb : XE X b tb) : XE X (.IfExp c a b pos) (dIf tt ta tb) :=
  PE.imp (pe_ifExp hc ha hb) fun σ H Q ⟨ρ, G, QD, hs, hg, ht, hf⟩ => ⟨ρ, G, _, hs, hg, ht, fun c H1 G1 k1 g1 q1 => by
    cases c with
    | true => exact ⟨ρ, G1, QD, hs.keep k1, g1, q1, hf.from k1⟩
    | false => exact ⟨ρ, G1, QD, hs.keep k1, g1, q1, hf.from k1⟩⟩
/-! ### arguments, displays -/
variable {es : List Expr} {tl : DTA}
def dNil : DTA := fun _ G Q => Q [] G
def dCons (t : DTE) (u : DTA) : DTA := fun ρ G Q => t ρ G fun d G1 => u ρ G1 fun ds G2 => Q (d :: ds) G2
theorem xa_nil : XA X [] dNil := PA.imp pa_nil fun σ H Q ⟨ρ, G, QD, hs, hg, ht, hf⟩ => hf [] H [] G Keep.refl hg .nil ht
theorem xa_cons {t : DTE} {u : DTA} (h : XE X e t) (hr : XA X es u) (hn : starEach (e :: es) X.env = (false, eval e X.env) :: starEach es X.env := by rfl) : XA X (e :: es) (dCons t u) :=
  PA.imp (pa_cons h hr hn) fun σ H Q ⟨ρ, G, QD, hs, hg, ht, hf⟩ => ⟨ρ, G, _, hs, hg, ht, fun v H1 d G1 k1 g1 r1 q1 =>
    ⟨ρ, G1, _, hs.keep k1, g1, q1, fun vs H2 ds G2 k2 g2 r2 q2 => hf _ H2 _ G2 (k1.trans k2) g2 (.cons (r1.keep k2) r2) q2⟩⟩
/-- a tuple's display -/
def dTup (t : DTA) : DTE := fun ρ G Q => t ρ G fun ds G1 => ds.length ≤ sizeLine ∧ Q (.tup ds) G1
theorem Rp.newTup {K : PySem.W.Frag} {G : GH} {H : Hp} {p : Addr} {ds : List D} {vs : List V} (g : GOk K G H) (h : H p = none) (z : ds.length ≤ sizeLine) (r : RpL K G H ds vs) : Rp K G (upd H p (.tup vs)) (.tup ds) (.ref p) :=
  .tup (.inl ⟨g.fresh h, .inl upd_same⟩) z (r.keep (Keep.lay g h))
theorem Rp.newLst {K : PySem.W.Frag} {G : GH} {H : Hp} {p : Addr} {ds : List D} {vs : List V} (g : GOk K G H) (h : H p = none) (z : ds.length ≤ sizeLine) (r : RpL K G H ds vs) : Rp K G (upd H p (.lst vs)) (.lst ds) (.ref p) :=
  .lst (g.fresh h) upd_same z (r.keep (Keep.lay g h))
theorem xtup {k : Nat} (h : XA X es tl) : XE X (.Tuple es k pos) (dTup tl) :=
  PE.imp (pe_tup h) fun σ H Q ⟨ρ, G, QD, hs, hg, ht, hf⟩ => ⟨ρ, G, _, hs, hg, ht, fun vs H1 ds G1 k1 g1 r1 ⟨hl, q⟩ =>
    ⟨by rw [← r1.length]; exact hl, fun p hp => hf _ _ _ G1 (k1.trans (Keep.lay g1 hp)) (g1.lay hp) (Rp.newTup g1 hp hl r1) q⟩⟩
/-- a list's display that nobody changes -/
def dLst (t : DTA) : DTE := fun ρ G Q => t ρ G fun ds G1 => ds.length ≤ sizeLine ∧ Q (.lst ds) G1
theorem xlst (h : XA X es tl) : XE X (.List es pos) (dLst tl) :=
  PE.imp (pe_lst h) fun σ H Q ⟨ρ, G, QD, hs, hg, ht, hf⟩ => ⟨ρ, G, _, hs, hg, ht, fun vs H1 ds G1 k1 g1 r1 ⟨hl, q⟩ =>
    ⟨by rw [← r1.length]; exact hl, fun p hp => hf _ _ _ G1 (k1.trans (Keep.lay g1 hp)) (g1.lay hp) (Rp.newLst g1 hp hl r1) q⟩⟩
/-- a list's display that is followed -/
def dLstT (t : DTA) : DTE := fun ρ G Q => t ρ G fun ds G1 => ds.length ≤ sizeLine ∧ ∀ p, G1 p = none → Q (.ref p) (gput G1 p (.lst ds))
theorem xlstT (h : XA X es tl) : XE X (.List es pos) (dLstT tl) :=
  PE.imp (pe_lst h) fun σ H Q ⟨ρ, G, QD, hs, hg, ht, hf⟩ => ⟨ρ, G, _, hs, hg, ht, fun vs H1 ds G1 k1 g1 r1 ⟨hl, q⟩ =>
    ⟨by rw [← r1.length]; exact hl, fun p hp => hf _ _ _ _ (k1.trans (Keep.put hp)) (g1.put (c := .lst ds) hp ⟨hl, vs, upd_same, r1.keep (Keep.put hp)⟩) (.ref p) (q p (g1.fresh hp))⟩⟩
end
end DL
set_option Elab.async false
set_option linter.all false
set_option maxRecDepth 100000
set_option maxHeartbeats 2000000
/-! The D layer: operators. -/
namespace DL
open PySem PySem.Spec PyProof.Rows L2
section
variable {K : PySem.W.Frag} {G : GH} {H : Hp}
theorem RpL.nil_iff {ds : List D} {vs : List V} (r : RpL K G H ds vs) : ds = [] ↔ vs = [] := by
  cases r with
  | nil => exact ⟨fun _ => rfl, fun _ => rfl⟩
  | cons _ _ => exact ⟨fun z => (nomatch z), fun z => (nomatch z)⟩
theorem opD_or {r r' : R2} {f : D2} (h : ∀ G H x y v u QD Q, GOk K G H → Rp K G H x v → Rp K G H y u → f x y G QD → Fin K G H QD Q → r v u H Q ∨ r' v u H Q) : OpD K (fun v u H Q => r v u H Q ∨ r' v u H Q) f := h
end

/-! ### + -/
def fAdd : D2 := fun x y G Q => match x, y with
  | .int i, .int j => Q (.int (i + j)) G
  | .tup a, .tup b => a.length + b.length ≤ sizeLine ∧ Q (.tup (a ++ b)) G
  | .lst a, .lst b => a.length + b.length ≤ sizeLine ∧ Q (.lst (a ++ b)) G
  | .str a, .str b => a.length + b.length ≤ sizeLine ∧ Q (.str (a ++ b)) G
  | _, _ => False
def rAddS : R2 := fun x y H Q => ∃ i j, x = .str i ∧ y = .str j ∧ i.length + j.length ≤ sizeLine ∧ Q (.str (i ++ j)) H
def rAddAll (K : PySem.W.Frag) : R2 := fun x y H Q => rI0 (fun i j => .int (i + j)) x y H Q ∨ (rCatA K x y H Q ∨ (rCat x y H Q ∨ rAddS x y H Q))
theorem op_addAll {X : Cx} : OpR X (binaryOp .Add) (rAddAll X.K) := op_add.or (op_catA.or (op_cat.or op_add_str))
theorem opd_add {K : PySem.W.Frag} : OpD K (rAddAll K) fAdd := by
  intro G H x y v u QD Q g rx ry h hq
  cases rx <;> cases ry <;> first | exact h.elim | skip
  · exact .inl ⟨_, _, rfl, rfl, hq _ H _ G Keep.refl g (.int _) h⟩
  · refine .inr (.inr (.inr ⟨_, _, rfl, rfl, h.1, hq _ H _ G Keep.refl g (.str _) h.2⟩))
  · rename_i a ds vs t z l b es us t2 z2 l2
    have zz : (ds ++ es).length ≤ sizeLine := by rw [List.length_append]; exact h.1
    refine .inr (.inl ⟨a, b, vs, us, rfl, rfl, t.sq, t2.sq, ?_, fun e => ?_, fun n e => ?_, fun n1 n2 p hp => ?_⟩)
    · rw [← l.length, ← l2.length]; exact h.1
    · have e1 : ds = [] := l.nil_iff.mpr e
      subst e1
      exact hq _ H _ G Keep.refl g (.tup t2 z2 l2) h.2
    · have e1 : es = [] := l2.nil_iff.mpr e
      subst e1
      have q := h.2
      rw [List.append_nil] at q
      exact hq _ H _ G Keep.refl g (.tup t z l) q
    · exact hq _ _ _ G (Keep.lay g hp) (g.lay hp) (Rp.newTup g hp zz (l.append l2)) h.2
  · rename_i a ds vs ga ha z l b es us gb hb z2 l2
    have zz : (ds ++ es).length ≤ sizeLine := by rw [List.length_append]; exact h.1
    refine .inr (.inr (.inl ⟨a, b, vs, us, rfl, rfl, ha, hb, ?_, fun p hp => ?_⟩))
    · rw [← l.length, ← l2.length]; exact h.1
    · exact hq _ _ _ G (Keep.lay g hp) (g.lay hp) (Rp.newLst g hp zz (l.append l2)) h.2

/-! ### ints -/
theorem opd_int {K : PySem.W.Frag} {C : Int → Int → Prop} {k : Int → Int → Int} : OpD K (rI C fun i j => .int (k i j)) (fun x y G Q => match x, y with
  | .int i, .int j => C i j ∧ Q (.int (k i j)) G
  | _, _ => False) := by
  intro G H x y v u QD Q g rx ry h hq
  cases rx <;> cases ry <;> first | exact h.elim | skip
  exact ⟨_, _, rfl, rfl, h.1, hq _ H _ G Keep.refl g (.int _) h.2⟩
def fSub : D2 := fun x y G Q => match x, y with
  | .int i, .int j => Q (.int (i - j)) G
  | _, _ => False
theorem opd_sub {K : PySem.W.Frag} : OpD K (rI0 fun i j => .int (i - j)) fSub := by
  intro G H x y v u QD Q g rx ry h hq
  cases rx <;> cases ry <;> first | exact h.elim | skip
  exact ⟨_, _, rfl, rfl, hq _ H _ G Keep.refl g (.int _) h⟩
theorem op_sub' {X : Cx} : OpR X (binaryOp .Sub) (rI0 fun i j => .int (i - j)) := op_sub
def fDiv : D2 := fun x y G Q => match x, y with
  | .int i, .int j => (j ≠ 0 ∧ Builtin.divisionGoesByPylong i j = false) ∧ Q (.int (i.fdiv j)) G
  | _, _ => False
theorem op_divP {X : Cx} : OpR X (binaryOp .FloorDiv) (rI (fun i j => j ≠ 0 ∧ Builtin.divisionGoesByPylong i j = false) fun i j => .int (i.fdiv j)) := opI fun _ _ _ _ _ _ _ hc q => floordiv_int hc.1 q (.inl hc.2)
theorem opd_div {K : PySem.W.Frag} : OpD K (rI (fun i j => j ≠ 0 ∧ Builtin.divisionGoesByPylong i j = false) fun i j => .int (i.fdiv j)) fDiv := opd_int
def fMod : D2 := fun x y G Q => match x, y with
  | .int i, .int j => j ≠ 0 ∧ Q (.int (i.fmod j)) G
  | _, _ => False
theorem opd_mod {K : PySem.W.Frag} : OpD K (rI (fun _ j => j ≠ 0) fun i j => .int (i.fmod j)) fMod := opd_int
def fPow : D2 := fun x y G Q => match x, y with
  | .int i, .int j => CPow i j ∧ Q (.int (i ^ j.toNat)) G
  | _, _ => False
theorem opd_pow {K : PySem.W.Frag} : OpD K (rI CPow fun i j => .int (i ^ j.toNat)) fPow := opd_int

/-! ### * -/
theorem op_mulI {X : Cx} : OpR X (binaryOp .Mult) (rI IntMulOk fun i j => .int (i * j)) := opI fun _ _ _ _ _ _ _ hc q => mul_int q hc
def fMulI : D2 := fun x y G Q => match x, y with
  | .int i, .int j => IntMulOk i j ∧ Q (.int (i * j)) G
  | _, _ => False
theorem opd_mulI {K : PySem.W.Frag} : OpD K (rI IntMulOk fun i j => .int (i * j)) fMulI := opd_int

/-! ### comparisons of ints -/
def fCmp (p : Int → Int → Bool) : D2 := fun x y G Q => match x, y with
  | .int i, .int j => Q (.bl (p i j)) G
  | _, _ => False
theorem opd_cmp {K : PySem.W.Frag} {p : Int → Int → Bool} : OpD K (rI0 fun i j => .bl (p i j)) (fCmp p) := by
  intro G H x y v u QD Q g rx ry h hq
  cases rx <;> cases ry <;> first | exact h.elim | skip
  exact ⟨_, _, rfl, rfl, hq _ H _ G Keep.refl g (.bl _) h⟩
def fLt : D2 := fCmp fun i j => decide (i < j)
def fLe : D2 := fCmp fun i j => decide (i ≤ j)
def fGt : D2 := fCmp fun i j => decide (j < i)
def fGe : D2 := fCmp fun i j => decide (j ≤ i)

/-! ### == -/
mutual
def toP : D → PyData
  | .non => .none
  | .bl b => .bool b
  | .int i => .int i
  | .str x => .str x
  | .tup ds => .tuple (toPs ds)
  | .lst ds => .list (toPs ds)
  | .frl ds => .list (toPs ds)
  | .ref _ => .none
  | .ty _ => .none
  | .dct _ => .none
  | .ins _ _ => .none
def toPs : List D → List PyData
  | [] => []
  | d :: ds => toP d :: toPs ds
end
/-- a leaf that == reads -/
def leafOk : D → Bool
  | .non => true
  | .bl _ => true
  | .int _ => true
  | .str x => PyData.strOk x
  | _ => false
/-- data of at most such a depth that == reads -/
def dok : Nat → D → Bool
  | 0, d => leafOk d
  | n + 1, d => match d with
    | .tup ds => ds.all (dok n)
    | .lst ds => ds.all (dok n)
    | .frl ds => ds.all (dok n)
    | d => leafOk d
section
variable {K : PySem.W.Frag} {G : GH} {H : Hp}
theorem dp_leaf {d : D} {v : V} (h : leafOk d = true) (r : Rp K G H d v) : Dp K H v (toP d) := by
  cases r <;> first | exact .non | exact .bl _ | exact .int _ | exact .str _ | cases h
theorem dp_all {n : Nat} (ih : ∀ (d : D) (v : V), dok n d = true → Rp K G H d v → Dp K H v (toP d)) : ∀ {ds : List D} {vs : List V}, ds.all (dok n) = true → RpL K G H ds vs → DpAll K H vs (toPs ds)
  | _, _, _, .nil => .nil
  | d :: ds, _, h, .cons r t => by
    obtain ⟨h1, h2⟩ := Bool.and_eq_true_iff.mp (show (dok n d && ds.all (dok n)) = true from h)
    exact .cons (ih _ _ h1 r) (dp_all ih h2 t)
theorem dp_of : ∀ (n : Nat) (d : D) (v : V), dok n d = true → Rp K G H d v → Dp K H v (toP d)
  | 0, d, v, h, r => dp_leaf h r
  | n + 1, d, v, h, r => by
    cases r with
    | tup t z l => exact .tup t.sq (dp_all (dp_of n) h l)
    | lst g e z l => exact .lst (.inl (.inl e)) (dp_all (dp_of n) h l)
    | frl t z l => exact .lst t.sq (dp_all (dp_of n) h l)
    | non => exact .non
    | bl b => exact .bl b
    | int i => exact .int i
    | str z => exact .str z
    | ref a => cases h
    | ty n => cases h
    | dct _ _ _ _ => cases h
    | ins _ _ _ => cases h
theorem lay_leaf {d : D} (h : leafOk d = true) : (toP d).canLay0 = true ∧ (toP d).depth = 0 := by
  cases d with
  | non => exact ⟨by simp [toP, PyData.canLay0], by simp [toP, PyData.depth]⟩
  | bl b => exact ⟨by simp [toP, PyData.canLay0], by simp [toP, PyData.depth]⟩
  | int i => exact ⟨by simp [toP, PyData.canLay0], by simp [toP, PyData.depth]⟩
  | str x =>
    have h2 : PyData.strOk x = true := h
    exact ⟨by simp [toP, PyData.canLay0, h2], by simp [toP, PyData.depth]⟩
  | tup _ => cases h
  | lst _ => cases h
  | frl _ => cases h
  | ref _ => cases h
  | ty _ => cases h
  | dct _ => cases h
  | ins _ _ => cases h
theorem lay_all {n : Nat} (ih : ∀ d : D, dok n d = true → (toP d).canLay0 = true ∧ (toP d).depth ≤ n) : ∀ {ds : List D}, ds.all (dok n) = true → PyData.canLayAll0 (toPs ds) = true ∧ PyData.depthAll (toPs ds) ≤ n
  | [], _ => ⟨by simp [toPs, PyData.canLayAll0], by simp [toPs, PyData.depthAll]⟩
  | d :: ds, h => by
    obtain ⟨h1, h2⟩ := Bool.and_eq_true_iff.mp (show (dok n d && ds.all (dok n)) = true from h)
    obtain ⟨a1, a2⟩ := ih d h1
    obtain ⟨b1, b2⟩ := lay_all ih h2
    refine ⟨by simp [toPs, PyData.canLayAll0, a1, b1], ?_⟩
    simp only [toPs, PyData.depthAll]
    omega
theorem lay_of : ∀ (n : Nat) (d : D), dok n d = true → (toP d).canLay0 = true ∧ (toP d).depth ≤ n
  | 0, d, h => by
    obtain ⟨a, b⟩ := lay_leaf h
    exact ⟨a, by omega⟩
  | n + 1, d, h => by
    cases d with
    | tup ds =>
      obtain ⟨a, b⟩ := lay_all (lay_of n) (show ds.all (dok n) = true from h)
      exact ⟨by simp [toP, PyData.canLay0, a], by simp only [toP, PyData.depth]; omega⟩
    | lst ds =>
      obtain ⟨a, b⟩ := lay_all (lay_of n) (show ds.all (dok n) = true from h)
      exact ⟨by simp [toP, PyData.canLay0, a], by simp only [toP, PyData.depth]; omega⟩
    | frl ds =>
      obtain ⟨a, b⟩ := lay_all (lay_of n) (show ds.all (dok n) = true from h)
      exact ⟨by simp [toP, PyData.canLay0, a], by simp only [toP, PyData.depth]; omega⟩
    | non =>
      obtain ⟨a, b⟩ := lay_leaf (d := .non) h
      exact ⟨a, by omega⟩
    | bl c =>
      obtain ⟨a, b⟩ := lay_leaf (d := .bl c) h
      exact ⟨a, by omega⟩
    | int c =>
      obtain ⟨a, b⟩ := lay_leaf (d := .int c) h
      exact ⟨a, by omega⟩
    | str c =>
      obtain ⟨a, b⟩ := lay_leaf (d := .str c) h
      exact ⟨a, by omega⟩
    | ref _ => cases h
    | ty _ => cases h
    | dct _ => cases h
    | ins _ _ => cases h
theorem shaped_of {d : D} (h : dok 60 d = true) : SeqAt.shaped (toP d) = true := by
  obtain ⟨a, b⟩ := lay_of 60 d h
  unfold SeqAt.shaped
  rw [a, decide_eq_true (by omega)]
  rfl
end
def deq (x y : D) : Bool := PyData.eqv (toP x) (toP y)
def fEq : D2 := fun x y G Q => (dok 60 x && dok 60 y) = true ∧ Q (.bl (deq x y)) G
def fNe : D2 := fun x y G Q => (dok 60 x && dok 60 y) = true ∧ Q (.bl (!deq x y)) G
theorem opd_eq {K : PySem.W.Frag} : OpD K (rEqD K) fEq := by
  intro G H x y v u QD Q g rx ry h hq
  obtain ⟨h1, h2⟩ := Bool.and_eq_true_iff.mp h.1
  exact ⟨_, _, dp_of 60 x v h1 rx, dp_of 60 y u h2 ry, shaped_of h1, shaped_of h2, hq _ H _ G Keep.refl g (.bl _) h.2⟩
theorem opd_ne {K : PySem.W.Frag} : OpD K (rNeD K) fNe := by
  intro G H x y v u QD Q g rx ry h hq
  obtain ⟨h1, h2⟩ := Bool.and_eq_true_iff.mp h.1
  exact ⟨_, _, dp_of 60 x v h1 rx, dp_of 60 y u h2 ry, shaped_of h1, shaped_of h2, hq _ H _ G Keep.refl g (.bl _) h.2⟩

/-! ### is -/
def isNonD : D → Bool
  | .non => true
  | _ => false
def fIs : D2 := fun x y G Q => match y with
  | .non => Q (.bl (isNonD x)) G
  | .bl b => (match x with
    | .bl a => Q (.bl (decide (a = b))) G
    | _ => False)
  | _ => False
def fIsNot : D2 := fun x y G Q => match y with
  | .non => Q (.bl (!isNonD x)) G
  | .bl b => (match x with
    | .bl a => Q (.bl (!decide (a = b))) G
    | _ => False)
  | _ => False
def rIsB : R2 := fun x y H Q => (y = .non ∧ Q (.bl (decide (x = .non))) H) ∨ (∃ a b, x = .bl a ∧ y = .bl b ∧ Q (.bl (decide (a = b))) H)
def rIsNotB : R2 := fun x y H Q => (y = .non ∧ Q (.bl (!decide (x = .non))) H) ∨ (∃ a b, x = .bl a ∧ y = .bl b ∧ Q (.bl (!decide (a = b))) H)
theorem op_isB {X : Cx} : OpR X (compareOp .Is) rIsB := op_isN.or op_is_bl
theorem op_isNotB {X : Cx} : OpR X (compareOp .IsNot) rIsNotB := op_notN.or op_isnot_bl
theorem isNonD_eq {K : PySem.W.Frag} {G : GH} {H : Hp} {x : D} {v : V} (r : Rp K G H x v) : decide (v = .non) = isNonD x := by
  cases r <;> first | exact decide_eq_true rfl | exact decide_eq_false (fun z => nomatch z)
theorem opd_is {K : PySem.W.Frag} : OpD K rIsB fIs := by
  intro G H x y v u QD Q g rx ry h hq
  cases ry <;> first | exact h.elim | skip
  · refine .inl ⟨rfl, ?_⟩
    rw [isNonD_eq rx]
    exact hq _ H _ G Keep.refl g (.bl _) h
  · cases rx <;> first | exact h.elim | skip
    exact .inr ⟨_, _, rfl, rfl, hq _ H _ G Keep.refl g (.bl _) h⟩
theorem opd_isnot {K : PySem.W.Frag} : OpD K rIsNotB fIsNot := by
  intro G H x y v u QD Q g rx ry h hq
  cases ry <;> first | exact h.elim | skip
  · refine .inl ⟨rfl, ?_⟩
    rw [isNonD_eq rx]
    exact hq _ H _ G Keep.refl g (.bl _) h
  · cases rx <;> first | exact h.elim | skip
    exact .inr ⟨_, _, rfl, rfl, hq _ H _ G Keep.refl g (.bl _) h⟩

/-! ### the sign -/
section
variable {X : Cx} {a : Expr} {ta : DTE} {pos : Pos}
def dNeg (t : DTE) : DTE := fun ρ G Q => t ρ G fun d G1 => match d with
  | .int i => Q (.int (-i)) G1
  | _ => False
theorem xneg (ha : XE X a ta) : XE X (.UnaryOp .USub a pos) (dNeg ta) :=
  PE.imp (pe_un un_neg ha) fun σ H Q ⟨ρ, G, QD, hs, hg, ht, hf⟩ => ⟨ρ, G, _, hs, hg, ht, fun v H1 d G1 k1 g1 r1 q1 => by
    cases r1 <;> first | exact q1.elim | skip
    exact ⟨_, rfl, hf _ H1 _ G1 k1 g1 (.int _) q1⟩⟩
end

/-! ### items -/
def nthL : List D → Nat → Option D
  | [], _ => none
  | x :: _, 0 => some x
  | _ :: r, n + 1 => nthL r n
theorem nthL_eq : ∀ (l : List D) (n : Nat), nthL l n = l[n]?
  | [], _ => by simp [nthL]
  | x :: _, 0 => by simp [nthL]
  | _ :: r, n + 1 => by rw [List.getElem?_cons_succ, ← nthL_eq r n]; rfl
def fIx : D2 := fun x y G Q => match y with
  | .int i => (match x with
    | .tup ds => onD (atI ds i) fun d => Q d G
    | .lst ds => onD (atI ds i) fun d => Q d G
    | .frl ds => onD (atI ds i) fun d => Q d G
    | .ref a => (match G a with
      | some (.lst ds) => onD (atI ds i) fun d => Q d G
      | _ => False)
    | _ => False)
  | _ => False
theorem atI_rp {K : PySem.W.Frag} {G : GH} {H : Hp} {ds : List D} {vs : List V} (r : RpL K G H ds vs) {i : Int} {d : D} (h : atI ds i = some d) : ∃ v, atI vs i = some v ∧ Rp K G H d v := by
  unfold atI at h ⊢
  rw [← r.length]
  cases e : ixN ds.length i with
  | none => rw [e] at h; cases h
  | some j =>
    rw [e] at h
    exact r.get (i := j) h
theorem opd_ix {K : PySem.W.Frag} : OpD K (rIx K) fIx := by
  intro G H x y v u QD Q g rx ry h hq
  cases ry <;> first | exact h.elim | skip
  rename_i i
  cases rx <;> first | exact h.elim | skip
  · rename_i a
    have h1 : (match G a with
      | some (.lst ds) => onD (atI ds i) fun d => QD d G
      | _ => False) := h
    cases e : G a with
    | none => rw [e] at h1; exact h1.elim
    | some c =>
      rw [e] at h1
      cases c <;> first | exact h1.elim | skip
      obtain ⟨d, e1, q⟩ := onD_some h1
      obtain ⟨_, vs, hv, r⟩ := g a _ e
      obtain ⟨w, e2, rw'⟩ := atI_rp r e1
      exact .inl ⟨a, vs, i, w, rfl, rfl, .inl (.inl hv), e2, hq _ H _ G Keep.refl g rw' q⟩
  · obtain ⟨d, e1, q⟩ := onD_some h
    rename_i t z r
    obtain ⟨w, e2, rw'⟩ := atI_rp r e1
    exact .inr (.inl ⟨_, _, i, w, rfl, rfl, t.sq, e2, hq _ H _ G Keep.refl g rw' q⟩)
  · obtain ⟨d, e1, q⟩ := onD_some h
    rename_i ga ha z r
    obtain ⟨w, e2, rw'⟩ := atI_rp r e1
    exact .inl ⟨_, _, i, w, rfl, rfl, .inl (.inl ha), e2, hq _ H _ G Keep.refl g rw' q⟩
  · obtain ⟨d, e1, q⟩ := onD_some h
    rename_i t z r
    obtain ⟨w, e2, rw'⟩ := atI_rp r e1
    exact .inl ⟨_, _, i, w, rfl, rfl, t.sq, e2, hq _ H _ G Keep.refl g rw' q⟩
section
variable {X : Cx} {a b : Expr} {ta tb : DTE} {pos pos2 : Pos}
theorem xix (ha : XE X a ta) (hb : XE X b tb) (hs : PlainIx b := by exact fun _ _ => rfl) : XE X (.Subscript a b pos) (dOp fIx ta tb) :=
  PE.imp (pe_ix ix_seq ha hb hs) fun _ _ _ h => low_op opd_ix h
/-- a written index from 0 on -/
def dIxN (n : Nat) (t : DTE) : DTE := fun ρ G Q => t ρ G fun x G1 => match x with
  | .tup ds => onD (nthL ds n) fun d => Q d G1
  | .lst ds => onD (nthL ds n) fun d => Q d G1
  | .frl ds => onD (nthL ds n) fun d => Q d G1
  | .ref a => (match G1 a with
    | some (.lst ds) => onD (nthL ds n) fun d => Q d G1
    | _ => False)
  | _ => False
theorem onD_mono {o : Option D} {k k' : D → Prop} (h : onD o k) (i : ∀ d, k d → k' d) : onD o k' := by
  obtain ⟨d, e, q⟩ := onD_some h
  rw [e]
  exact i d q
theorem atI_nth {ds : List D} {n : Nat} {k : D → Prop} (h : onD (nthL ds n) k) : onD (atI ds (n : Int)) k := by
  obtain ⟨d, e, q⟩ := onD_some h
  rw [nthL_eq] at e
  rw [atI_nat e]
  exact q
theorem lowE_mono {K : PySem.W.Frag} {t u : DTE} {σ : L2.St} {H : Hp} {Q : VK} (h : lowE K t σ H Q) (i : ∀ ρ G QD, t ρ G QD → u ρ G QD) : lowE K u σ H Q := by
  obtain ⟨ρ, G, QD, hs, hg, ht, hf⟩ := h
  exact ⟨ρ, G, QD, hs, hg, i _ _ _ ht, hf⟩
end
end DL
set_option Elab.async false
set_option linter.all false
set_option maxRecDepth 100000
set_option maxHeartbeats 2000000
/-! The D layer: new lists, calls, fields, slices. -/
namespace DL
open PySem PySem.Spec PyProof.Rows L2
/-! ### a new list -/
def lowF (K : PySem.W.Frag) (t : DTA) : TE := fun σ H Q => ∃ ρ G QD, RpS K G H ρ σ ∧ GOk K G H ∧ t ρ G QD ∧ ∀ a vs H' ds G', Keep G H G' H' → GOk K G' H' → (∀ o, G a = none → H a ≠ some o) → G' a = none → H' a = some (.lst vs) → ds.length ≤ sizeLine → RpL K G' H' ds vs → QD ds G' → Q (.ref a) H'
abbrev XF (X : Cx) (e : Expr) (t : DTA) : Prop := PE X e (lowF X.K t)
/-- trees of tuples alone -/
def leafT : D → Bool
  | .non => true
  | .bl _ => true
  | .int _ => true
  | .str _ => true
  | .ref _ => true
  | .ty _ => true
  | _ => false
def tupOnly : Nat → D → Bool
  | 0, d => leafT d
  | n + 1, d => (match d with
    | .tup ds => ds.all (tupOnly n)
    | d => leafT d)
section
variable {K : PySem.W.Frag} {G : GH} {H : Hp} {a : Addr} {vs : List V} {c : DO}
theorem TupAt.thaw {p : Addr} {o : HO} {us : List V} (h : H a = some o) (hn : ∀ us, o ≠ .tup us) (hf : ∀ q us, o ≠ .frz q (.tup us)) (t : TupAt K G H p us) : TupAt K (gput G a c) H p us := by
  rcases t with ⟨g, r⟩ | t
  · have hne : p ≠ a := fun e => by
      rw [e] at r
      rcases r with r | ⟨q, r⟩
      · rw [h] at r; cases r; exact hn _ rfl
      · rw [h] at r; cases r; exact hf _ _ rfl
    exact .inl ⟨by rw [gput_ne hne]; exact g, r⟩
  · exact .inr t
theorem Rp.thaw0 {d : D} {v : V} (h0 : tupOnly 0 d = true) (r : Rp K G H d v) : Rp K (gput G a c) H d v := by
  cases r <;> first | exact .non | exact .bl _ | exact .int _ | exact .str _ | exact .ref _ | exact .ty _ | cases h0
theorem RpL.thawWith {n : Nat} (ih : ∀ {d : D} {v : V}, tupOnly n d = true → Rp K G H d v → Rp K (gput G a c) H d v) : ∀ {ds : List D} {us : List V}, ds.all (tupOnly n) = true → RpL K G H ds us → RpL K (gput G a c) H ds us
  | _, _, _, .nil => .nil
  | d :: ds, _, h, .cons r t => by
    obtain ⟨h1, h2⟩ := Bool.and_eq_true_iff.mp (show (tupOnly n d && ds.all (tupOnly n)) = true from h)
    exact .cons (ih h1 r) (RpL.thawWith ih h2 t)
theorem Rp.thaw {o : HO} (h : H a = some o) (hn : ∀ us, o ≠ .tup us) (hf : ∀ q us, o ≠ .frz q (.tup us)) : ∀ (n : Nat) {d : D} {v : V}, tupOnly n d = true → Rp K G H d v → Rp K (gput G a c) H d v
  | 0, _, _, h0, r => r.thaw0 h0
  | n + 1, d, v, h0, r => by
    cases r with
    | tup t z l => exact .tup (t.thaw h hn hf) z (RpL.thawWith (fun q r => Rp.thaw h hn hf n q r) h0 l)
    | non => exact .non
    | bl b => exact .bl b
    | int i => exact .int i
    | str z => exact .str z
    | ref p => exact .ref p
    | ty m => exact .ty m
    | lst _ _ _ _ => cases h0
    | frl _ _ _ => cases h0
    | dct _ _ _ _ => cases h0
    | ins _ _ _ => cases h0
theorem RpL.thaw {n : Nat} {o : HO} (h : H a = some o) (hn : ∀ us, o ≠ .tup us) (hf : ∀ q us, o ≠ .frz q (.tup us)) {ds : List D} {us : List V} (h0 : ds.all (tupOnly n) = true) (l : RpL K G H ds us) : RpL K (gput G a c) H ds us :=
  RpL.thawWith (fun q r => Rp.thaw h hn hf n q r) h0 l
theorem CellOk.thaw {b : Addr} {o : HO} (g : GOk K G H) (h : H a = some o) {x : DO} (q : CellOk K G H b x) (hall : ∀ (d : D) (v : V), Rp K G H d v → Rp K (gput G a c) H d v) : CellOk K (gput G a c) H b x := by
  have hl : ∀ {ds : List D} {us : List V}, RpL K G H ds us → RpL K (gput G a c) H ds us := fun {ds us} l => by
    induction ds generalizing us with
    | nil => cases l; exact .nil
    | cons d ds ih => cases l with
      | cons r t => exact .cons (hall _ _ r) (ih t)
  have hk : ∀ {ds : List (Key × D)} {us : List (Key × V)}, RpK K G H ds us → RpK K (gput G a c) H ds us := fun {ds us} l => by
    induction ds generalizing us with
    | nil => cases l; exact .nil
    | cons d ds ih => cases l with
      | cons r t => exact .cons (hall _ _ r) (ih t)
  have hf : ∀ {ds : List (Str × D)} {us : List (Str × V)}, RpF K G H ds us → RpF K (gput G a c) H ds us := fun {ds us} l => by
    induction ds generalizing us with
    | nil => cases l; exact .nil
    | cons d ds ih => cases l with
      | cons r t => exact .cons (hall _ _ r) (ih t)
  cases x with
  | lst ds => obtain ⟨z, vs, e, r⟩ := q; exact ⟨z, vs, e, hl r⟩
  | dct ds => obtain ⟨z, vs, e, r⟩ := q; exact ⟨z, vs, e, hk r⟩
  | ins C ds => obtain ⟨dx, vs, e, r⟩ := q; exact ⟨dx, vs, e, hf r⟩
end
section
variable {X : Cx} {e a b : Expr} {pos : Pos} {t : DTA} {ta tb : DTE}
theorem xfz (h : XF X e t) : XE X e (fun ρ G Q => t ρ G fun ds G1 => Q (.lst ds) G1) :=
  PE.imp h fun σ H Q ⟨ρ, G, QD, hs, hg, ht, hf⟩ => ⟨ρ, G, _, hs, hg, ht, fun a vs H1 ds G1 k1 g1 _ na ha z r1 q1 => hf _ H1 _ G1 k1 g1 (.lst na ha z r1) q1⟩
end

/-! ### built-in functions by values -/
abbrev DF := List D → GH → DE → Prop
def CallD (K : PySem.W.Frag) (r : List V → Hp → VK → Prop) (f : DF) : Prop := ∀ (G : GH) (H : Hp) (ds : List D) (vs : List V) (QD : DE) (Q : VK), GOk K G H → RpL K G H ds vs → f ds G QD → Fin K G H QD Q → r vs H Q
def dCB (f : DF) (t : DTA) : DTE := fun ρ G Q => t ρ G fun ds G1 => f ds G1 Q
section
variable {X : Cx} {e : Expr} {es : List Expr} {p pos : Pos} {x : Str} {tl : DTA} {f : DF} {r : List V → Hp → VK → Prop} {id T : String}
theorem low_cb (hf : CallD X.K r f) {σ : L2.St} {H : Hp} {Q : VK} (h : lowE X.K (dCB f tl) σ H Q) : tCB r (lowA X.K tl) σ H Q := by
  obtain ⟨ρ, G, QD, hs, hg, ht, hq⟩ := h
  exact ⟨ρ, G, _, hs, hg, ht, fun vs H1 ds G1 k1 g1 r1 q1 => hf G1 H1 ds vs QD Q g1 r1 q1 (hq.from k1)⟩
theorem xcallB (hc : CallR X (.builtin id) r) (hf : CallD X.K r f) (hm : X.mg x = none) (hv : bootBuiltins x = some (.builtin id)) (ha : XA X (e :: es) tl) (hg : Gl X x := by rfl) (hn : x ≠ "__name__" := by decide) (hdb : (x == ("__debug__" : Str)) = false := by decide)
    (he : starEach (e :: es) X.env = (false, eval e X.env) :: starEach es X.env := by rfl) (hpl : (backTo pos (starEach es X.env)).any (·.1) = false := by rfl) : XE X (.Call (.Name x p) (e :: es) [] pos) (dCB f tl) :=
  PE.imp (pe_callB hc hg hm hv ha hn hdb he hpl) fun _ _ _ h => low_cb hf h
theorem xcallT (hc : CallR X (.type T) r) (hf : CallD X.K r f) (hm : X.mg x = none) (hv : bootBuiltins x = some (.type T)) (ha : XA X (e :: es) tl) (hg : Gl X x := by rfl) (hn : x ≠ "__name__" := by decide) (hdb : (x == ("__debug__" : Str)) = false := by decide)
    (he : starEach (e :: es) X.env = (false, eval e X.env) :: starEach es X.env := by rfl) (hpl : (backTo pos (starEach es X.env)).any (·.1) = false := by rfl) : XE X (.Call (.Name x p) (e :: es) [] pos) (dCB f tl) :=
  PE.imp (pe_callTy hc hg hm hv ha hn hdb he hpl) fun _ _ _ h => low_cb hf h
theorem xcallF (hc : CallR X (.builtin id) r) (hf : CallD X.K r f) (hm : X.mg x = some (.builtin id)) (ha : XA X (e :: es) tl) (hg : Gl X x := by rfl) (hdb : (x == ("__debug__" : Str)) = false := by decide)
    (he : starEach (e :: es) X.env = (false, eval e X.env) :: starEach es X.env := by rfl) (hpl : (backTo pos (starEach es X.env)).any (·.1) = false := by rfl) : XE X (.Call (.Name x p) (e :: es) [] pos) (dCB f tl) :=
  PE.imp (pe_callBfun hc hg hm ha hdb he hpl) fun _ _ _ h => low_cb hf h
end
section
variable {K : PySem.W.Frag} {G : GH} {H : Hp}
theorem RpL.one {d : D} {vs : List V} (r : RpL K G H [d] vs) : ∃ v, vs = [v] ∧ Rp K G H d v := by
  cases r with
  | cons r t => cases t; exact ⟨_, rfl, r⟩
theorem RpL.two {d e : D} {vs : List V} (r : RpL K G H [d, e] vs) : ∃ v u, vs = [v, u] ∧ Rp K G H d v ∧ Rp K G H e u := by
  cases r with
  | cons r t =>
    cases t with
    | cons r2 t2 => cases t2; exact ⟨_, _, rfl, r, r2⟩
end
/-- of one thing -/
def on1 (k : D → GH → DE → Prop) : DF := fun ds G Q => match ds with
  | [d] => k d G Q
  | _ => False
theorem call1 {K : PySem.W.Frag} {r : List V → Hp → VK → Prop} {k : D → GH → DE → Prop} (h : ∀ (G : GH) (H : Hp) (d : D) (v : V) (QD : DE) (Q : VK), GOk K G H → Rp K G H d v → k d G QD → Fin K G H QD Q → r [v] H Q) : CallD K r (on1 k) := by
  intro G H ds vs QD Q g rl hk hq
  cases rl with
  | nil => exact hk.elim
  | cons r1 t =>
    cases t with
    | nil => exact h G H _ _ QD Q g r1 hk hq
    | cons _ _ => exact hk.elim
/-! len -/
def fLen : D → GH → DE → Prop := fun d G Q => match d with
  | .tup ds => Q (.int ds.length) G
  | .lst ds => Q (.int ds.length) G
  | .frl ds => Q (.int ds.length) G
  | .str x => x.length ≤ sizeLine ∧ Q (.int x.length) G
  | .ref a => (match G a with
    | some (.lst ds) => Q (.int ds.length) G
    | _ => False)
  | _ => False
abbrev rLenX (K : PySem.W.Frag) : List V → Hp → VK → Prop := fun xs H Q => ∃ x n, xs = [x] ∧ LenV K x H n ∧ Q (.int n) H
theorem cd_len {K : PySem.W.Frag} : CallD K (rLenX K) (on1 fLen) := call1 fun G H d v QD Q g r h hq => by
  cases r <;> first | exact h.elim | skip
  · rename_i x
    exact ⟨_, x.length, rfl, ⟨h.1, rfl⟩, hq _ H _ G Keep.refl g (.int _) h.2⟩
  · rename_i a
    have h1 : (match G a with
      | some (.lst ds) => QD (.int ds.length) G
      | _ => False) := h
    cases e : G a with
    | none => rw [e] at h1; exact h1.elim
    | some c =>
      rw [e] at h1
      cases c <;> first | exact h1.elim | skip
      obtain ⟨z, vs, hv, r⟩ := g a _ e
      exact ⟨_, vs.length, rfl, .inl ⟨vs, .inl (.inl hv), rfl⟩, by rw [← r.length]; exact hq _ H _ G Keep.refl g (.int _) h1⟩
  · rename_i a ds vs t z l
    exact ⟨_, vs.length, rfl, .inr ⟨vs, t.sq, rfl⟩, by rw [← l.length]; exact hq _ H _ G Keep.refl g (.int _) h⟩
  · rename_i a ds vs ga ha z l
    exact ⟨_, vs.length, rfl, .inl ⟨vs, .inl (.inl ha), rfl⟩, by rw [← l.length]; exact hq _ H _ G Keep.refl g (.int _) h⟩
  · rename_i a ds vs t z l
    exact ⟨_, vs.length, rfl, .inl ⟨vs, t.sq, rfl⟩, by rw [← l.length]; exact hq _ H _ G Keep.refl g (.int _) h⟩
/-! tuple(..) -/
def fTup : D → GH → DE → Prop := fun d G Q => match d with
  | .tup ds => Q (.tup ds) G
  | .lst ds => Q (.tup ds) G
  | .frl ds => Q (.tup ds) G
  | .ref a => (match G a with
    | some (.lst ds) => Q (.tup ds) G
    | _ => False)
  | _ => False
abbrev rTupX (K : PySem.W.Frag) : List V → Hp → VK → Prop := fun xs H Q => ∃ p ys, xs = [.ref p] ∧ ((SqL K H p ys ∧ ∀ l, H l = none → Q (.ref l) (upd H l (.tup ys))) ∨ (SqT K H p ys ∧ Q (.ref p) H))
theorem cd_tup {K : PySem.W.Frag} : CallD K (rTupX K) (on1 fTup) := call1 fun G H d v QD Q g r h hq => by
  cases r <;> first | exact h.elim | skip
  · rename_i a
    have h1 : (match G a with
      | some (.lst ds) => QD (.tup ds) G
      | _ => False) := h
    cases e : G a with
    | none => rw [e] at h1; exact h1.elim
    | some c =>
      rw [e] at h1
      cases c <;> first | exact h1.elim | skip
      obtain ⟨z, vs, hv, r⟩ := g a _ e
      exact ⟨a, vs, rfl, .inl ⟨.inl (.inl hv), fun l hl => hq _ _ _ G (Keep.lay g hl) (g.lay hl) (Rp.newTup g hl z r) h1⟩⟩
  · rename_i a ds vs t z l
    exact ⟨a, vs, rfl, .inr ⟨t.sq, hq _ H _ G Keep.refl g (.tup t z l) h⟩⟩
  · rename_i a ds vs ga ha z r
    exact ⟨a, vs, rfl, .inl ⟨.inl (.inl ha), fun l hl => hq _ _ _ G (Keep.lay g hl) (g.lay hl) (Rp.newTup g hl z r) h⟩⟩
  · rename_i a ds vs t z r
    exact ⟨a, vs, rfl, .inl ⟨t.sq, fun l hl => hq _ _ _ G (Keep.lay g hl) (g.lay hl) (Rp.newTup g hl z r) h⟩⟩
/-! list(..): as it is, or followed -/
def seqOf (d : D) (G : GH) : Option (List D) := match d with
  | .tup ds => some ds
  | .lst ds => some ds
  | .frl ds => some ds
  | .ref a => (match G a with
    | some (.lst ds) => some ds
    | _ => none)
  | _ => none
theorem seq_at {K : PySem.W.Frag} {G : GH} {H : Hp} {d : D} {v : V} {ds : List D} (g : GOk K G H) (r : Rp K G H d v) (h : seqOf d G = some ds) : ∃ a vs, v = .ref a ∧ (SqL K H a vs ∨ SqT K H a vs) ∧ ds.length ≤ sizeLine ∧ RpL K G H ds vs := by
  cases r <;> first | cases h | skip
  · rename_i a
    have h1 : (match G a with
      | some (.lst ds) => some ds
      | _ => none) = some ds := h
    cases e : G a with
    | none => rw [e] at h1; cases h1
    | some c =>
      rw [e] at h1
      cases c <;> first | cases h1 | skip
      obtain ⟨z, vs, hv, r⟩ := g a _ e
      exact ⟨a, vs, rfl, .inl (.inl (.inl hv)), z, r⟩
  · rename_i a vs t z l
    exact ⟨a, vs, rfl, .inr t.sq, z, l⟩
  · rename_i a vs ga ha z l
    exact ⟨a, vs, rfl, .inl (.inl (.inl ha)), z, l⟩
  · rename_i a vs t z l
    exact ⟨a, vs, rfl, .inl t.sq, z, l⟩
def onS (o : Option (List D)) (k : List D → Prop) : Prop := match o with
  | some d => k d
  | none => False
theorem onS_some {o : Option (List D)} {k : List D → Prop} (h : onS o k) : ∃ d, o = some d ∧ k d := by
  cases o with
  | none => exact h.elim
  | some d => exact ⟨d, rfl, h⟩
def fLstF : D → GH → DE → Prop := fun d G Q => onS (seqOf d G) fun ds => Q (.lst ds) G
def fLstT : D → GH → DE → Prop := fun d G Q => onS (seqOf d G) fun ds => ∀ p, G p = none → Q (.ref p) (gput G p (.lst ds))
abbrev rLstX (K : PySem.W.Frag) : List V → Hp → VK → Prop := fun xs H Q => ∃ p ys, xs = [.ref p] ∧ (SqL K H p ys ∨ SqT K H p ys) ∧ ∀ l, H l = none → Q (.ref l) (upd H l (.lst ys))
theorem cd_lstF {K : PySem.W.Frag} : CallD K (rLstX K) (on1 fLstF) := call1 fun G H d v QD Q g r h hq => by
  obtain ⟨ds, e, h⟩ := onS_some h
  obtain ⟨a, vs, rfl, s, z, l⟩ := seq_at g r e
  exact ⟨a, vs, rfl, s, fun p hp => hq _ _ _ G (Keep.lay g hp) (g.lay hp) (Rp.newLst g hp z l) h⟩
theorem cd_lstT {K : PySem.W.Frag} : CallD K (rLstX K) (on1 fLstT) := call1 fun G H d v QD Q g r h hq => by
  obtain ⟨ds, e, h⟩ := onS_some h
  obtain ⟨a, vs, rfl, s, z, l⟩ := seq_at g r e
  exact ⟨a, vs, rfl, s, fun p hp => hq _ _ _ _ (Keep.put hp) (g.put (c := .lst ds) hp ⟨z, vs, upd_same, l.keep (Keep.put hp)⟩) (.ref p) (h p (g.fresh hp))⟩
/-! all, any, sum -/
def fAll : D → GH → DE → Prop := fun d G Q => ∃ bs : List Bool, seqOf d G = some (bs.map D.bl) ∧ (∀ ds, d ≠ .tup ds) ∧ Q (.bl (bs.all id)) G
def fAny : D → GH → DE → Prop := fun d G Q => ∃ bs : List Bool, seqOf d G = some (bs.map D.bl) ∧ (∀ ds, d ≠ .tup ds) ∧ Q (.bl (bs.any id)) G
def fSum : D → GH → DE → Prop := fun d G Q => ∃ ns : List Int, seqOf d G = some (ns.map D.int) ∧ (∀ ds, d ≠ .tup ds) ∧ Q (.int ns.sum) G
theorem seq_lst {K : PySem.W.Frag} {G : GH} {H : Hp} {d : D} {v : V} {ds : List D} (g : GOk K G H) (r : Rp K G H d v) (h : seqOf d G = some ds) (n : ∀ es, d ≠ .tup es) : ∃ a vs, v = .ref a ∧ SqL K H a vs ∧ ds.length ≤ sizeLine ∧ RpL K G H ds vs := by
  cases r <;> first | cases h | skip
  · rename_i a
    have h1 : (match G a with
      | some (.lst ds) => some ds
      | _ => none) = some ds := h
    cases e : G a with
    | none => rw [e] at h1; cases h1
    | some c =>
      rw [e] at h1
      cases c <;> first | cases h1 | skip
      obtain ⟨z, vs, hv, r⟩ := g a _ e
      exact ⟨a, vs, rfl, .inl (.inl hv), z, r⟩
  · exact (n _ rfl).elim
  · rename_i a vs ga ha z l
    exact ⟨a, vs, rfl, .inl (.inl ha), z, l⟩
  · rename_i a vs t z l
    exact ⟨a, vs, rfl, t.sq, z, l⟩
theorem cd_all {K : PySem.W.Frag} : CallD K (rAll K) (on1 fAll) := call1 fun G H d v QD Q g r h hq => by
  obtain ⟨bs, e, n, h⟩ := h
  obtain ⟨a, vs, rfl, s, z, l⟩ := seq_lst g r e n
  rw [l.bools'] at s
  exact ⟨a, bs, rfl, s, hq _ H _ G Keep.refl g (.bl _) h⟩
theorem cd_any {K : PySem.W.Frag} : CallD K (rAny K) (on1 fAny) := call1 fun G H d v QD Q g r h hq => by
  obtain ⟨bs, e, n, h⟩ := h
  obtain ⟨a, vs, rfl, s, z, l⟩ := seq_lst g r e n
  rw [l.bools'] at s
  exact ⟨a, bs, rfl, s, hq _ H _ G Keep.refl g (.bl _) h⟩
theorem cd_sum {K : PySem.W.Frag} : CallD K (rSum K) (on1 fSum) := call1 fun G H d v QD Q g r h hq => by
  obtain ⟨bs, e, n, h⟩ := h
  obtain ⟨a, vs, rfl, s, z, l⟩ := seq_lst g r e n
  rw [l.ints'] at s
  exact ⟨a, bs, rfl, s, hq _ H _ G Keep.refl g (.int _) h⟩
/-! sorted of ints -/
def fSortI : D → GH → DE → Prop := fun d G Q => ∃ ns : List Int, seqOf d G = some (ns.map D.int) ∧ (∀ ds, d ≠ .tup ds) ∧ ∀ ns' : List Int, ns'.Perm ns → ns'.Pairwise (· ≤ ·) → Q (.lst (ns'.map D.int)) G
theorem cd_sortI {K : PySem.W.Frag} : CallD K (rSortedI K) (on1 fSortI) := call1 fun G H d v QD Q g r h hq => by
  obtain ⟨ns, e, n, h⟩ := h
  obtain ⟨a, vs, rfl, s, z, l⟩ := seq_lst g r e n
  rw [l.ints'] at s
  exact ⟨a, ns, rfl, s, fun ns' p h1 h2 hp => hq _ _ _ G (Keep.lay g hp) (g.lay hp) (Rp.newLst g hp (by rw [List.length_map, h1.length_eq]; rw [List.length_map] at z; exact z) (RpL.ints ns')) (h ns' h1 h2)⟩
/-! abs, int, gcd, max, min of two -/
def fAbs : D → GH → DE → Prop := fun d G Q => match d with
  | .int i => Q (.int (if i < 0 then -i else i)) G
  | _ => False
abbrev rAbsX : List V → Hp → VK → Prop := fun xs H Q => ∃ i, xs = [.int i] ∧ Q (.int (if i < 0 then -i else i)) H
theorem cd_abs {K : PySem.W.Frag} : CallD K rAbsX (on1 fAbs) := call1 fun G H d v QD Q g r h hq => by
  cases r <;> first | exact h.elim | skip
  exact ⟨_, rfl, hq _ H _ G Keep.refl g (.int _) h⟩
def fInt : D → GH → DE → Prop := fun d G Q => match d with
  | .int i => Q (.int i) G
  | .bl k => Q (.int (if k then 1 else 0)) G
  | _ => False
abbrev rIntX : List V → Hp → VK → Prop := fun xs H Q => (∃ i, xs = [.int i] ∧ Q (.int i) H) ∨ ∃ k, xs = [.bl k] ∧ Q (.int (if k then 1 else 0)) H
theorem cd_int {K : PySem.W.Frag} : CallD K rIntX (on1 fInt) := call1 fun G H d v QD Q g r h hq => by
  cases r <;> first | exact h.elim | skip
  · exact .inr ⟨_, rfl, hq _ H _ G Keep.refl g (.int _) h⟩
  · exact .inl ⟨_, rfl, hq _ H _ G Keep.refl g (.int _) h⟩
def onI2 (k : Int → Int → GH → DE → Prop) : DF := fun ds G Q => match ds with
  | [.int i, .int j] => k i j G Q
  | _ => False
theorem calli2 {K : PySem.W.Frag} {r : List V → Hp → VK → Prop} {k : Int → Int → GH → DE → Prop} (h : ∀ (G : GH) (H : Hp) (i j : Int) (QD : DE) (Q : VK), GOk K G H → k i j G QD → Fin K G H QD Q → r [.int i, .int j] H Q) : CallD K r (onI2 k) := by
  intro G H ds vs QD Q g rl hk hq
  unfold onI2 at hk
  split at hk
  · obtain ⟨v, u, rfl, r1, r2⟩ := rl.two
    cases r1
    cases r2
    exact h G H _ _ QD Q g hk hq
  · exact hk.elim
def fGcd : Int → Int → GH → DE → Prop := fun i j G Q => Q (.int ((Nat.gcd i.natAbs j.natAbs : Nat) : Int)) G
theorem cd_gcd {K : PySem.W.Frag} : CallD K rGcd (onI2 fGcd) := calli2 fun G H i j QD Q g h hq => ⟨i, j, rfl, hq _ H _ G Keep.refl g (.int _) h⟩
def fMax2 : Int → Int → GH → DE → Prop := fun i j G Q => Q (.int (if j > i then j else i)) G
abbrev rMax2X : List V → Hp → VK → Prop := fun xs H Q => ∃ i j, xs = [.int i, .int j] ∧ Q (.int (if j > i then j else i)) H
theorem cd_max2 {K : PySem.W.Frag} : CallD K rMax2X (onI2 fMax2) := calli2 fun G H i j QD Q g h hq => ⟨i, j, rfl, hq _ H _ G Keep.refl g (.int _) h⟩
def fMin2 : Int → Int → GH → DE → Prop := fun i j G Q => Q (.int (if j < i then j else i)) G
abbrev rMin2X : List V → Hp → VK → Prop := fun xs H Q => ∃ i j, xs = [.int i, .int j] ∧ Q (.int (if j < i then j else i)) H
theorem cd_min2 {K : PySem.W.Frag} : CallD K rMin2X (onI2 fMin2) := calli2 fun G H i j QD Q g h hq => ⟨i, j, rfl, hq _ H _ G Keep.refl g (.int _) h⟩
/-! isinstance -/
def tyD : D → Option String
  | .non => some "NoneType"
  | .bl _ => some "bool"
  | .int _ => some "int"
  | .str _ => some "str"
  | .tup _ => some "tuple"
  | .lst _ => some "list"
  | .frl _ => some "list"
  | .dct _ => some "dict"
  | _ => none
def isTupD : D → Bool
  | .tup _ => true
  | _ => false
def isIntD : D → Bool
  | .int _ => true
  | .bl _ => true
  | _ => false
def isBoolD : D → Bool
  | .bl _ => true
  | _ => false
def isStrD : D → Bool
  | .str _ => true
  | _ => false
theorem tyx {K : PySem.W.Frag} {G : GH} {H : Hp} {d : D} {v : V} {T : String} (r : Rp K G H d v) (h : tyD d = some T) : TyX K H v (.type T) := by
  cases r <;> first | cases h | skip
  · exact .base .non
  · exact .base (.bl _)
  · exact .base (.int _)
  · exact .base (.str _)
  · rename_i t z l
    rcases t with ⟨_, t | ⟨o, t⟩⟩ | t
    · exact .base (.tup t)
    · exact .fTuple t
    · rcases t with t | ⟨o, its, n, h1, h2, _⟩
      · rcases t with t | ⟨o, t⟩ <;> cases t
      · exact .kTuple h1 h2
  · rename_i g e z l
    exact .base (.lst e)
  · rename_i t z l
    rcases t with ⟨_, t | ⟨o, t⟩⟩ | t
    · exact .base (.lst t)
    · exact .base (.frz t)
    · rcases t with t | ⟨o, its, n, h1, h2, _⟩
      · rcases t with t | ⟨o, t⟩ <;> cases t
      · exact .kList h1 h2
  · rename_i g e z l
    exact .fDict e
def fIsi (T : String) (p : D → Bool) : DF := fun ds G Q => match ds with
  | [x, .ty S] => S = T ∧ (tyD x).isSome = true ∧ Q (.bl (p x)) G
  | _ => False
def isiOk (T : String) (p : D → Bool) : Prop := ∀ d S, tyD d = some S → kitB S T = some (p d)
theorem cd_isi {K : PySem.W.Frag} {T : String} {p : D → Bool} (hp : isiOk T p) : CallD K (rIsi K) (fIsi T p) := by
  intro G H ds vs QD Q g rl hk hq
  unfold fIsi at hk
  split at hk
  · obtain ⟨v, u, rfl, r1, r2⟩ := rl.two
    cases r2
    obtain ⟨rfl, h1, h2⟩ := hk
    obtain ⟨S, hS⟩ := Option.isSome_iff_exists.mp h1
    exact ⟨v, _, .type S, _, _, rfl, .ty _, tyx r1 hS, kit_ty (hp _ _ hS), hq _ H _ G Keep.refl g (.bl _) h2⟩
  · exact hk.elim
theorem isi_tup : isiOk "tuple" isTupD := fun d S h => by
  cases d <;> cases h <;> first | (show kitB _ _ = some true; decide +kernel) | (show kitB _ _ = some false; decide +kernel)
theorem isi_int : isiOk "int" isIntD := fun d S h => by
  cases d <;> cases h <;> first | (show kitB _ _ = some true; decide +kernel) | (show kitB _ _ = some false; decide +kernel)
theorem isi_bool : isiOk "bool" isBoolD := fun d S h => by
  cases d <;> cases h <;> first | (show kitB _ _ = some true; decide +kernel) | (show kitB _ _ = some false; decide +kernel)
theorem isi_str : isiOk "str" isStrD := fun d S h => by
  cases d <;> cases h <;> first | (show kitB _ _ = some true; decide +kernel) | (show kitB _ _ = some false; decide +kernel)
end DL
set_option Elab.async false
set_option linter.all false
set_option maxRecDepth 100000
set_option maxHeartbeats 2000000
/-! The D layer: what a loop goes over, lists and tuples alike. -/
namespace DL
open PySem PySem.Spec PyProof.Rows L2
/-- list or tuple -/
inductive SK where
  | l | t
def SK.Sq (K : PySem.W.Frag) (H : Hp) : SK → Addr → List V → Prop
  | .l => SqL K H
  | .t => SqT K H
def SK.It (h : Heap) : SK → Addr → Addr → Nat → Prop
  | .l => h.IsListIter
  | .t => h.IsTupleIter
def SK.Is (h : Heap) : SK → Addr → Array Value → Prop
  | .l => h.IsList
  | .t => h.IsTuple
def SK.ob (k : SK) (a : Addr) : Obj := match k with
  | .l => { cls := .type "list_iterator", data := .fields #[.ref a, .int 0 0] }
  | .t => { cls := .type "tuple_iterator", data := .fields #[.ref a, .int 0 0] }
theorem SK.draws {pg : Program} {wd : World} {A : Around} (hh : A.handled = none) (k : SK) {it a : Addr} (hne : a ≠ it) (xs : Array Value) :
    Draws pg wd A it [it, a] xs.size (fun i v => xs[i]? = some v) (fun i h => k.It h it a i ∧ k.Is h a xs) := match k with
  | .l => Draws.list hh it a hne xs
  | .t => Draws.tuple hh it a hne xs
theorem SK.begins (k : SK) (a : Addr) (xs : Array Value) : Begins (.ref a) (k.ob a) fun h => k.Is h a xs := match k with
  | .l => begins_list a xs
  | .t => begins_tuple a xs
theorem SK.new (k : SK) {h : Heap} {it a : Addr} (e : h.get? it = some (k.ob a)) : k.It h it a 0 := match k with
  | .l => ⟨_, e, rfl, rfl⟩
  | .t => ⟨_, e, rfl, rfl⟩
theorem SK.itAt (k : SK) {h h' : Heap} {it a : Addr} {i : Nat} (x : k.It h it a i) (e : ∀ o, h.get? it = some o → h'.get? it = some o) : k.It h' it a i := match k with
  | .l => Heap.IsListIter.at x e
  | .t => Heap.IsTupleIter.at x e
theorem SK.itOb (k : SK) {h : Heap} {it a : Addr} {i : Nat} (x : k.It h it a i) : ∃ o, h.get? it = some o ∧ ∀ v, o.data ≠ .cell v := match k with
  | .l => let ⟨o, e, _, d⟩ := x; ⟨o, e, fun v q => by rw [d] at q; cases q⟩
  | .t => let ⟨o, e, _, d⟩ := x; ⟨o, e, fun v q => by rw [d] at q; cases q⟩
theorem SK.isLt (k : SK) {h : Heap} {a : Addr} {xs : Array Value} (x : k.Is h a xs) : a < h.objs.size := match k with
  | .l => let ⟨_, e, _⟩ := x; Heap.lt_size e
  | .t => let ⟨_, e, _⟩ := x; Heap.lt_size e
section
variable {X : Cx} {pins : List (Addr × Obj)} {σ : L2.St} {H : Hp} {s : Shared} {a : Addr} {xs : List V}
theorem SK.of (k : SK) (I : Inv X pins σ H s) (q : k.Sq X.K H a xs) : ∃ us : List Value, us.length = xs.length ∧ k.Is s.heap a us.toArray ∧ ∀ (i : Nat) (x : V), xs[i]? = some x → ∃ u, us[i]? = some u ∧ RelV x u := by
  cases k with
  | l =>
    obtain ⟨us, rv, p, _⟩ := I.list q
    exact ⟨us, rv.length.symm, p.isList, fun i x e => rv.get e⟩
  | t =>
    obtain ⟨us, rv, p, _⟩ := I.tuple q
    exact ⟨us, rv.length.symm, p, fun i x e => rv.get e⟩
theorem SK.inj (k : SK) (I : Inv X pins σ H s) {ys : List V} (q : k.Sq X.K H a xs) (r : k.Sq X.K H a ys) : xs = ys := by
  cases k with
  | l => exact I.list_inj q r
  | t => exact I.tuple_inj q r
end
/-- both as they stand at each turn -/
def Itzk (K : PySem.W.Frag) (k1 k2 : SK) (a b : Addr) (xs ys : List V) : It :=
  ⟨fun i H => k1.Sq K H a xs ∧ k2.Sq K H b ys ∧ i < xs.length ∧ i < ys.length,
   fun i H v H' => ∃ T x y, v = .ref T ∧ H T = none ∧ H' = upd H T (.tup [x, y]) ∧ xs[i]? = some x ∧ ys[i]? = some y,
   fun i H => k1.Sq K H a xs ∧ k2.Sq K H b ys ∧ i ≤ xs.length ∧ i ≤ ys.length ∧ (xs.length ≤ i ∨ ys.length ≤ i)⟩
theorem turn_zk {pg : Program} {wd : World} {K : PySem.W.Frag} {es : List Expr} {kk : Nat} {tp : Pos} (k1 k2 : SK) {a b z TI TO i1 i2 : Addr} {xs ys : List V} (S : ZipSep2 z TI TO i1 i2 [i1, a] [i2, b]) (n1 : a ≠ i1) (n2 : b ≠ i2) :
    Turn pg wd K (.Tuple es kk tp) (Itzk K k1 k2 a b xs ys) [z, TI, TO, i1, i2] z (fun i h => IsZip h z TI TO .none ∧ IsTupOf2 h TI (.ref i1) (.ref i2) ∧ (∃ x y, IsTupOf2 h TO x y) ∧ k1.It h i1 a i ∧ k2.It h i2 b i) where
  mem := List.mem_cons_self ..
  obj := fun i h st c hc => by
    obtain ⟨hz, hI, ⟨x, y, hO⟩, t1, t2⟩ := st
    have e' : c = z ∨ c = TI ∨ c = TO ∨ c = i1 ∨ c = i2 := by simpa using hc
    rcases e' with rfl | rfl | rfl | rfl | rfl
    · exact ⟨_, hz, fun v q => nomatch q⟩
    · exact ⟨_, hI, fun v q => nomatch q⟩
    · exact ⟨_, hO, fun v q => nomatch q⟩
    · exact k1.itOb t1
    · exact k2.itOb t2
  keep := fun i h h' st hk => by
    obtain ⟨hz, hI, ⟨x, y, hO⟩, t1, t2⟩ := st
    have m : ∀ c, c ∈ [z, TI, TO, i1, i2] → ∀ o, h.get? c = some o → h'.get? c = some o := hk
    exact ⟨m z (by simp) _ hz, m TI (by simp) _ hI, ⟨x, y, m TO (by simp) _ hO⟩, k1.itAt t1 (m i1 (by simp)), k2.itAt t2 (m i2 (by simp))⟩
  item := by
    intro X hP hw hK hc i pins s σ H E I hf st hg
    subst hP
    subst hw
    subst hK
    obtain ⟨hz, hI, ⟨x0, y0, hO⟩, t1, t2⟩ := st
    obtain ⟨q1, q2, l1, l2⟩ := hg
    obtain ⟨us, ul, p1, get1⟩ := k1.of I q1
    obtain ⟨ws, wl, p2, get2⟩ := k2.of I q2
    have hh : X.A.in1.handled = none := I.ok.hd hc
    have sz1 : us.toArray.size = xs.length := by rw [List.size_toArray, ul]
    have sz2 : ws.toArray.size = ys.length := by rw [List.size_toArray, wl]
    have zlt : z < s.heap.objs.size := Heap.lt_size hz
    refine wpAny_pyNext_zipD2_item S (k1.draws hh n1 us.toArray) (k2.draws hh n2 ws.toArray) hz hI hO ⟨t1, p1⟩ ⟨t2, p2⟩ (by rw [sz1]; exact l1) (by rw [sz2]; exact l2) fun u1 u2 h' tk e1 e2 z' hO' st1 st2 hT hsz hk => ?_
    refine ⟨_, rfl, wpAny_letOwnedTupleGo_zip (s := { s with heap := h', toks := tk }) z' fun h2 z2 sb => ?_⟩
    have hT2 : h2.get? s.heap.objs.size = some { cls := .type "tuple", data := .seq #[u1, u2] } := (sb.2 _ (Nat.ne_of_gt zlt)).trans hT
    have e1' : us[i]? = some u1 := by simpa using e1
    have e2' : ws[i]? = some u2 := by simpa using e2
    obtain ⟨x, ex⟩ : ∃ x, xs[i]? = some x := ⟨xs[i], List.getElem?_eq_getElem l1⟩
    obtain ⟨y, ey⟩ : ∃ y, ys[i]? = some y := ⟨ys[i], List.getElem?_eq_getElem l2⟩
    obtain ⟨u1', g1, r1⟩ := get1 i x ex
    obtain ⟨u2', g2, r2⟩ := get2 i y ey
    rw [e1'] at g1
    rw [e2'] at g2
    cases g1
    cases g2
    have fresh : ObjOk X.prog X.w (upd H s.heap.objs.size (.tup [x, y])) h2 s.heap.objs.size (.tup [x, y]) :=
      ⟨by show 2 ≤ sizeLine; decide, [u1, u2], .cons r1 (.cons r2 .nil), ⟨_, hT2, rfl, _, rfl⟩⟩
    have old : ∀ c o, c ∉ [z, TI, TO, i1, i2] → s.heap.get? c = some o → h2.get? c = some o := fun c o hb q => by
      have n : ∀ d, d ∈ [z, TI, TO, i1, i2] → c ≠ d := fun d hd e => hb (e ▸ hd)
      exact (sb.2 c (n z (by simp))).trans (hk c o (n z (by simp)) (n TO (by simp)) (n i1 (by simp)) (n i2 (by simp)) q)
    have J : Inv X pins σ (upd H s.heap.objs.size (.tup [x, y])) { s with heap := h2, toks := tk } := I.turnedNew (t' := tk) (ch := [z, TI, TO, i1, i2]) old hf (Nat.le_refl _) fresh
    refine ⟨.ref s.heap.objs.size, _, J, rfl, ⟨_, x, y, rfl, I.hok.fresh (Nat.le_refl _), rfl, ex, ey⟩, ⟨z2, ?_, ⟨u1, u2, ?_⟩, ?_, ?_⟩, fun c hc' => ?_⟩
    · exact (sb.2 _ S.TIz).trans (hk _ _ S.TIz S.TITO S.TIi1 S.TIi2 hI)
    · exact (sb.2 _ S.TOz).trans hO'
    · exact k1.itAt st1.1 fun o q => (sb.2 _ S.zi1.symm).trans q
    · exact k2.itAt st2.1 fun o q => (sb.2 _ S.zi2.symm).trans q
    · have lt : c < s.heap.objs.size := by
        have e' : c = z ∨ c = TI ∨ c = TO ∨ c = i1 ∨ c = i2 := by simpa using hc'
        rcases e' with rfl | rfl | rfl | rfl | rfl
        · exact zlt
        · exact Heap.lt_size hI
        · exact Heap.lt_size hO
        · obtain ⟨_, e, _⟩ := k1.itOb t1; exact Heap.lt_size e
        · obtain ⟨_, e, _⟩ := k2.itOb t2; exact Heap.lt_size e
      rw [upd_ne (Nat.ne_of_lt lt)]
      exact (hf c hc').1
  done := by
    intro X hP hw hK hc i pins s σ H E I hf st hg
    subst hP
    subst hw
    subst hK
    obtain ⟨hz, hI, ⟨x0, y0, hO⟩, t1, t2⟩ := st
    obtain ⟨q1, q2, l1, l2, he⟩ := hg
    obtain ⟨us, ul, p1, get1⟩ := k1.of I q1
    obtain ⟨ws, wl, p2, get2⟩ := k2.of I q2
    have hh : X.A.in1.handled = none := I.ok.hd hc
    have sz1 : us.toArray.size = xs.length := by rw [List.size_toArray, ul]
    have sz2 : ws.toArray.size = ys.length := by rw [List.size_toArray, wl]
    refine wpAny_pyNext_zipD2_end S (k1.draws hh n1 us.toArray) (k2.draws hh n2 ws.toArray) hz hI hO ⟨t1, p1⟩ ⟨t2, p2⟩ (by rw [sz1]; exact l1) (by rw [sz2]; exact l2) (by rw [sz1, sz2]; omega) fun h' tk hk => ⟨rfl, ?_⟩
    refine I.turnedL (t' := tk) (ch := [z, TI, TO, i1, i2]) (fun c o hb q => ?_) hf
    have n : ∀ d, d ∈ [z, TI, TO, i1, i2] → c ≠ d := fun d hd e => hb (e ▸ hd)
    exact hk c o (n z (by simp)) (n TO (by simp)) (n i1 (by simp)) (n i2 (by simp)) q
  self := fun A i s Q E st hq => wpAny_pyIter_zip st.1 hq
def iZipK (K : PySem.W.Frag) (ta : TA) : TI := fun σ H R => ta σ H fun vs H1 => ∃ a b k1 k2 xs ys, vs = [.ref a, .ref b] ∧ SK.Sq K H1 k1 a xs ∧ SK.Sq K H1 k2 b ys ∧ R (Itzk K k1 k2 a b xs ys) H1
theorem pi_zipK {X : Cx} {e e2 : Expr} {ta : TA} {p pos tpos : Pos} {elts : List Expr} {kk : Nat} (hg : Gl X "zip") (hm : X.mg "zip" = none) (ha : PA X [e, e2] ta)
    (hst : starEach [e, e2] X.env = (false, eval e X.env) :: starEach [e2] X.env := by rfl) (hpl : (backTo pos (starEach [e2] X.env)).any (·.1) = false := by rfl) :
    PI X (.Tuple elts kk tpos) (.Call (.Name "zip" p) [e, e2] [] pos) (iZipK X.K ta) := by
  constructor
  intro pins s σ H R I h
  refine Call_ (ld_blt I hg hm PyProof.Rows.boot_zip (PyProof.Rows.callWith_type1 (thn (ha.run pos pins s σ H _ I h) fun us s1 ⟨vs, H1, I1, r1, w⟩ => ?_) hst hpl))
  obtain ⟨a, b, k1, k2, xs, ys, rfl, q1, q2, q⟩ := w
  cases r1 with
  | cons r rr =>
    cases rr with
    | cons r' rr =>
      cases rr
      cases r
      cases r'
      obtain ⟨us1, ul, p1, _⟩ := k1.of I1 q1
      obtain ⟨us2, wl, p2, _⟩ := k2.of I1 q2
      have lt1 := k1.isLt p1
      have lt2 := k2.isLt p2
      refine zip_begins2 (k1.begins a us1.toArray) (k2.begins b us2.toArray) p1 p2 fun h' hz hI hO g1 g2 hsz hk => wpAny_pyIter_zip hz ?_
      have I2 : Inv X pins σ H1 { s1 with heap := h' } := I1.kept (t' := s1.toks) hk
      refine ⟨s1.heap.objs.size + 4, _, _, _, H1, rfl, I2, turn_zk k1 k2 (zip_sep2 (fp1 := [a]) (fp2 := [b]) (fun c hc => by
        rw [List.mem_singleton.mp hc]; exact lt1) (fun c hc => by rw [List.mem_singleton.mp hc]; exact lt2)) (Nat.ne_of_lt lt1) (Nat.ne_of_lt (Nat.lt_succ_of_lt lt2)), ⟨hz, hI, ⟨_, _, hO⟩, k1.new g1, k2.new g2⟩, fun c hc => ?_, q⟩
      have le : s1.heap.objs.size ≤ c := by
        have e' : c = s1.heap.objs.size + 4 ∨ c = s1.heap.objs.size + 2 ∨ c = s1.heap.objs.size + 3 ∨ c = s1.heap.objs.size ∨ c = s1.heap.objs.size + 1 := by simpa using hc
        rcases e' with rfl | rfl | rfl | rfl | rfl
        · exact Nat.le_add_right _ _
        · exact Nat.le_add_right _ _
        · exact Nat.le_add_right _ _
        · exact Nat.le_refl _
        · exact Nat.le_add_right _ _
      exact I1.fpOk le (I1.hok.fresh le)
/-! ### enumerate -/
theorem meets_enum1 {v : Value} {o : Obj} {P : Heap → Prop} (B : Begins v o P) :
    Meets (Builtin.«enumerate.__new__» ⟨[.type "enumerate", v], []⟩) (fun _ R s => P s.heap ∧
      R (.ok (.ret (.ref (s.heap.push o).objs.size))) { s with heap := (s.heap.push o).push { cls := .type "enumerate", data := .fields #[.none, .bool false, .ref s.heap.objs.size, rawInt 0, .none, .none] } }) :=
  .of_wp fun pg wd A R s hs => by
    obtain ⟨hp, g, d, tk, os⟩ := s
    obtain ⟨h1, hs⟩ := hs
    have hsub := sub_enumerate
    have q1 : ∀ {A' : Around} {E' : Value → Shared → Prop} {Q : Value → Shared → Prop}, Q (.ref hp.objs.size) ⟨hp.push o, g, d, tk, os⟩ → wpAny (model pg wd) A' (pyIter v) Q E' ⟨hp, g, d, tk, os⟩ :=
      fun q => B.iter pg wd _ _ ⟨hp, g, d, tk, os⟩ _ h1 q
    wp_walk using q1
    refine wpAny_stack_any fun stk => wpAny_pure ?_
    split
    · rename_i c _ _ _ _ _
      cases (c == Value.type "enumerate") <;> (wp_walk using q1; exact ⟨_, rfl, hs⟩)
    · wp_walk using q1
      exact ⟨_, rfl, hs⟩
theorem enum1_begins {pg : Program} {wd : World} {A : Around} {E : Value → Shared → Prop} {s : Shared} {v : Value} {o : Obj} {P : Heap → Prop} {Q : Value → Shared → Prop} (B : Begins v o P) (h1 : P s.heap)
    (hq : ∀ h', IsEnum h' (s.heap.objs.size + 1) s.heap.objs.size 0 .none → h'.get? s.heap.objs.size = some o → h'.objs.size = s.heap.objs.size + 2 →
      (∀ c u, s.heap.get? c = some u → h'.get? c = some u) → Q (.ref (s.heap.objs.size + 1)) { s with heap := h' }) :
    wpAny (model pg wd) A (call (.type "enumerate") [v]) Q E s := by
  refine callType_new F.called_enumerate (by decide) (F.typeCall_enumerate_1 _) (F.newCall_enumerate_1 _) (fun ob => F.args_object_init_2 ob _) F.entry_enumerate_new (meets_enum1 B) ⟨h1, ?_⟩
  have zz : (s.heap.push o).objs.size = s.heap.objs.size + 1 := Heap.size_push ..
  show _ ∧ _
  rw [zz]
  have he : IsEnum ((s.heap.push o).push { cls := .type "enumerate", data := .fields #[.none, .bool false, .ref s.heap.objs.size, rawInt 0, .none, .none] }) (s.heap.objs.size + 1) s.heap.objs.size 0 .none := by
    have g := Heap.get?_push_size (s.heap.push o) (o := { cls := .type "enumerate", data := .fields #[.none, .bool false, .ref s.heap.objs.size, rawInt 0, .none, .none] }) rfl
    rw [zz] at g
    exact g
  exact ⟨⟨_, he, rfl⟩, hq _ he (Heap.get?_push_of_some _ (Heap.get?_push_size _ B.free)) (by rw [Heap.size_push, zz]) fun c u x => Heap.get?_push_of_some _ (Heap.get?_push_of_some _ x)⟩
def Itek (K : PySem.W.Frag) (k : SK) (a : Addr) (xs : List V) : It :=
  ⟨fun i H => k.Sq K H a xs ∧ i < xs.length,
   fun i H v H' => ∃ T x, v = .ref T ∧ H T = none ∧ H' = upd H T (.tup [.int (i : Nat), x]) ∧ xs[i]? = some x,
   fun i H => k.Sq K H a xs ∧ i = xs.length⟩
theorem turn_ek {pg : Program} {wd : World} {K : PySem.W.Frag} {es : List Expr} {kk : Nat} {tp : Pos} (k : SK) {a e it : Addr} {xs : List V} (n1 : a ≠ it) (n2 : e ≠ it) (n3 : e ≠ a) :
    Turn pg wd K (.Tuple es kk tp) (Itek K k a xs) [e, it] e (fun i h => (∃ old, IsEnum h e it ((i : Nat) : Int) old) ∧ k.It h it a i) where
  mem := List.mem_cons_self ..
  obj := fun i h st c hc => by
    obtain ⟨⟨old, he⟩, t1⟩ := st
    have e' : c = e ∨ c = it := by simpa using hc
    rcases e' with rfl | rfl
    · exact ⟨_, he, fun v q => nomatch q⟩
    · exact k.itOb t1
  keep := fun i h h' st hk => by
    obtain ⟨⟨old, he⟩, t1⟩ := st
    have m : ∀ c, c ∈ [e, it] → ∀ o, h.get? c = some o → h'.get? c = some o := hk
    exact ⟨⟨old, m e (by simp) _ he⟩, k.itAt t1 (m it (by simp))⟩
  item := by
    intro X hP hw hK hc i pins s σ H E I hf st hg
    subst hP
    subst hw
    subst hK
    obtain ⟨⟨old, he⟩, t1⟩ := st
    obtain ⟨q1, l1⟩ := hg
    obtain ⟨us, ul, p1, get1⟩ := k.of I q1
    have hh : X.A.in1.handled = none := I.ok.hd hc
    have sz1 : us.toArray.size = xs.length := by rw [List.size_toArray, ul]
    have elt : e < s.heap.objs.size := Heap.lt_size he
    refine wpAny_pyNext_enum_itemD (k.draws hh n1 us.toArray) he ⟨t1, p1⟩ (by rw [sz1]; exact l1) n2 (by simp [n2, n3]) fun u h' tk e1 z' st1 hT hsz hk => ?_
    refine ⟨_, rfl, wpAny_letOwnedTupleGo_enum (s := { s with heap := h', toks := tk + 1 }) z' fun h2 z2 sb => ?_⟩
    have hT2 : h2.get? s.heap.objs.size = some { cls := .type "tuple", data := .seq #[.int i tk, u] } := (sb.2 _ (Nat.ne_of_gt elt)).trans hT
    have e1' : us[i]? = some u := by simpa using e1
    obtain ⟨x, ex⟩ : ∃ x, xs[i]? = some x := ⟨xs[i], List.getElem?_eq_getElem l1⟩
    obtain ⟨u', g1, r1⟩ := get1 i x ex
    rw [e1'] at g1
    cases g1
    have fresh : ObjOk X.prog X.w (upd H s.heap.objs.size (.tup [.int (i : Nat), x])) h2 s.heap.objs.size (.tup [.int (i : Nat), x]) :=
      ⟨by show 2 ≤ sizeLine; decide, [.int i tk, u], .cons ⟨_, rfl⟩ (.cons r1 .nil), ⟨_, hT2, rfl, _, rfl⟩⟩
    have old' : ∀ c o, c ∉ [e, it] → s.heap.get? c = some o → h2.get? c = some o := fun c o hb q => by
      have n : ∀ d, d ∈ [e, it] → c ≠ d := fun d hd z => hb (z ▸ hd)
      exact (sb.2 c (n e (by simp))).trans (hk c o (n e (by simp)) (n it (by simp)) q)
    have J : Inv X pins σ (upd H s.heap.objs.size (.tup [.int (i : Nat), x])) { s with heap := h2, toks := tk + 1 } := I.turnedNew (t' := tk + 1) (ch := [e, it]) old' hf (Nat.le_refl _) fresh
    refine ⟨.ref s.heap.objs.size, _, J, rfl, ⟨_, x, rfl, I.hok.fresh (Nat.le_refl _), rfl, ex⟩, ⟨⟨u, ?_⟩, ?_⟩, fun c hc' => ?_⟩
    · have e1 : ((i + 1 : Nat) : Int) = (i : Int) + 1 := by omega
      rw [e1]
      exact z2
    · exact k.itAt st1.1 fun o q => (sb.2 _ (Ne.symm n2)).trans q
    · have lt : c < s.heap.objs.size := by
        have e' : c = e ∨ c = it := by simpa using hc'
        rcases e' with rfl | rfl
        · exact elt
        · obtain ⟨_, z, _⟩ := k.itOb t1; exact Heap.lt_size z
      rw [upd_ne (Nat.ne_of_lt lt)]
      exact (hf c hc').1
  done := by
    intro X hP hw hK hc i pins s σ H E I hf st hg
    subst hP
    subst hw
    subst hK
    obtain ⟨⟨old, he⟩, t1⟩ := st
    obtain ⟨q1, rfl⟩ := hg
    obtain ⟨us, ul, p1, get1⟩ := k.of I q1
    have hh : X.A.in1.handled = none := I.ok.hd hc
    obtain ⟨f0, f1, f2, f3, f4, f5⟩ := hf it (by simp)
    refine wpAny_pyNext_enum_endD (k.draws hh n1 us.toArray) he ⟨by rw [List.size_toArray, ul]; exact t1, p1⟩ fun h' eb => ⟨rfl, ?_⟩
    exact I.turned (t' := s.toks) (fun c o hb q => eb c o hb q) f0 f1 f3 f4 f5
  self := fun A i s Q E st hq => by
    obtain ⟨⟨_, he⟩, _⟩ := st
    exact wpAny_pyIter_enum he hq
def iEnumK (K : PySem.W.Frag) (ta : TA) : TI := fun σ H R => ta σ H fun vs H1 => ∃ a k xs, vs = [.ref a] ∧ SK.Sq K H1 k a xs ∧ R (Itek K k a xs) H1
theorem pi_enumK {X : Cx} {e : Expr} {ta : TA} {p pos tpos : Pos} {elts : List Expr} {kk : Nat} (hg : Gl X "enumerate") (hm : X.mg "enumerate" = none) (ha : PA X [e] ta) (hst : starEach [e] X.env = [(false, eval e X.env)] := by rfl) :
    PI X (.Tuple elts kk tpos) (.Call (.Name "enumerate" p) [e] [] pos) (iEnumK X.K ta) := by
  constructor
  intro pins s σ H R I h
  refine Call_ (ld_blt I hg hm boot_enumerate (PyProof.Rows.callWith_type1 (thn (ha.run pos pins s σ H _ I h) fun us s1 ⟨vs, H1, I1, r1, w⟩ => ?_) hst rfl))
  obtain ⟨a, k, xs, rfl, q1, q⟩ := w
  cases r1 with
  | cons r rr =>
    cases rr
    cases r
    obtain ⟨us1, ul, p1, _⟩ := k.of I1 q1
    have lt1 := k.isLt p1
    refine enum1_begins (k.begins a us1.toArray) p1 fun h' he g1 hsz hk => wpAny_pyIter_enum he ?_
    have I2 : Inv X pins σ H1 { s1 with heap := h' } := I1.kept (t' := s1.toks) hk
    refine ⟨s1.heap.objs.size + 1, _, _, _, H1, rfl, I2, turn_ek k (e := s1.heap.objs.size + 1) (Nat.ne_of_lt lt1) (Nat.succ_ne_self _) (Nat.ne_of_gt (Nat.lt_succ_of_lt lt1)), ⟨⟨.none, he⟩, k.new g1⟩, fun c hc => ?_, q⟩
    have le : s1.heap.objs.size ≤ c := by
      have e' : c = s1.heap.objs.size + 1 ∨ c = s1.heap.objs.size := by simpa using hc
      rcases e' with rfl | rfl
      · exact Nat.le_add_right _ _
      · exact Nat.le_refl _
    exact I1.fpOk le (I1.hok.fresh le)
/-! ### the thing itself -/
def iSq (K : PySem.W.Frag) (tl : TE) : TI := fun σ H R => tl σ H fun x H1 => ∃ a, x = .ref a ∧ (((∃ xs, SqL K H1 a xs) ∧ R (Itl K a) H1) ∨ ((∃ xs, SqT K H1 a xs) ∧ R (Itt K a) H1))
theorem pi_sq {X : Cx} {tg l : Expr} {tl : TE} (hl : PE X l tl) : PI X tg l (iSq X.K tl) := by
  constructor
  intro pins s σ H R I h
  refine thn (hl.run pins s σ H _ I h) fun v s1 ⟨x, H1, I1, r1, w⟩ => ?_
  obtain ⟨a, rfl, w⟩ := w
  cases r1
  have fp : ∀ c ∈ [s1.heap.objs.size], FpOk X pins H1 c := fun c hc => by
    rw [List.mem_singleton.mp hc]
    exact I1.fpOk (Nat.le_refl _) (I1.hok.fresh (Nat.le_refl _))
  rcases w with ⟨⟨xs, q⟩, w⟩ | ⟨⟨xs, q⟩, w⟩
  · obtain ⟨us, rv, p, _⟩ := I1.list q
    exact wpAny_pyIter_list p.isList ⟨s1.heap.objs.size, [s1.heap.objs.size], _, _, H1, rfl, I1.kept (t' := s1.toks) fun b o e => Heap.get?_push_of_some _ e, turn_list a _, ⟨_, Heap.get?_push_size _ rfl, rfl, rfl⟩, fp, w⟩
  · obtain ⟨us, rv, p, _⟩ := I1.tuple q
    exact wpAny_pyIter_tuple (show s1.heap.IsTuple a us.toArray from p) ⟨s1.heap.objs.size, [s1.heap.objs.size], _, _, H1, rfl, I1.kept (t' := s1.toks) fun b o e => Heap.get?_push_of_some _ e, turn_tuple a _, ⟨_, Heap.get?_push_size _ rfl, rfl, rfl⟩, fp, w⟩
end DL
set_option Elab.async false
set_option linter.all false
set_option maxRecDepth 100000
set_option maxHeartbeats 2000000
/-! The D layer: targets, what is gone over, loops, comprehensions. -/
namespace DL
open PySem PySem.Spec PyProof.Rows L2

/-! ### what is gone over -/
/-- an iterator hands out just these, as long as what is not followed stays -/
def Serves (K : PySem.W.Frag) (J : It) (G : GH) (H : Hp) (xs : List D) : Prop := ∀ G2 H2, Keep G H G2 H2 → GOk K G2 H2 → ∀ i : Nat,
  (∀ x, xs[i]? = some x → J.go i H2 ∧ ∀ v H3, J.yld i H2 v H3 → Keep G2 H2 G2 H3 ∧ GOk K G2 H3 ∧ Rp K G2 H3 x v) ∧ (i = xs.length → J.stop i H2)
def lowI (K : PySem.W.Frag) (t : DTA) : TI := fun σ H R => ∃ ρ G QD, RpS K G H ρ σ ∧ GOk K G H ∧ t ρ G QD ∧ ∀ J H' xs G', Keep G H G' H' → GOk K G' H' → Serves K J G' H' xs → QD xs G' → R J H'
abbrev XI (X : Cx) (tg e : Expr) (t : DTA) : Prop := PI X tg e (lowI X.K t)
theorem PI.imp {X : Cx} {tg e : Expr} {t u : TI} (h : PI X tg e t) (i : ∀ σ H Q, u σ H Q → t σ H Q) : PI X tg e u := ⟨fun pins s σ H Q I w => h.run pins s σ H Q I (i σ H Q w)⟩
def frzOf : D → Option (List D)
  | .tup ds => some ds
  | .lst ds => some ds
  | .frl ds => some ds
  | _ => none
section
variable {K : PySem.W.Frag} {G : GH} {H : Hp}
theorem frz_at {d : D} {v : V} {ds : List D} (r : Rp K G H d v) (h : frzOf d = some ds) : ∃ (a : Addr) (k : SK) (vs : List V), v = .ref a ∧ RpL K G H ds vs ∧ ∀ G2 H2, Keep G H G2 H2 → k.Sq K H2 a vs := by
  cases r <;> first | cases h | skip
  · rename_i a vs t z l
    exact ⟨a, .t, vs, rfl, l, fun G2 H2 k => (t.keep k).sq⟩
  · rename_i a vs ga ha z l
    exact ⟨a, .l, vs, rfl, l, fun G2 H2 k => .inl (.inl (k _ _ ga ha).2)⟩
  · rename_i a vs t z l
    exact ⟨a, .l, vs, rfl, l, fun G2 H2 k => (t.keep k).sq⟩
theorem some_lt {α : Type} {l : List α} {i : Nat} {x : α} (h : l[i]? = some x) : i < l.length := by
  rcases Nat.lt_or_ge i l.length with z | z
  · exact z
  · rw [List.getElem?_eq_none z] at h
    cases h
theorem serves_sq {k : SK} {a : Addr} {vs : List V} {ds : List D} (l : RpL K G H ds vs) (q : ∀ G2 H2, Keep G H G2 H2 → k.Sq K H2 a vs) : Serves K (match k with | .l => Itl K a | .t => Itt K a) G H ds := by
  intro G2 H2 kp g2 i
  have q2 := q G2 H2 kp
  have l2 := l.keep kp
  constructor
  · intro x e
    obtain ⟨v, e2, r⟩ := l2.get e
    cases k with
    | l =>
      refine ⟨⟨vs, v, q2, e2⟩, fun u H3 ⟨hh, hu⟩ => ?_⟩
      subst hh
      have e3 := hu vs q2
      rw [e2] at e3
      cases e3
      exact ⟨Keep.refl, g2, r⟩
    | t =>
      refine ⟨⟨vs, v, q2, e2⟩, fun u H3 ⟨hh, hu⟩ => ?_⟩
      subst hh
      have e3 := hu vs q2
      rw [e2] at e3
      cases e3
      exact ⟨Keep.refl, g2, r⟩
  · intro e
    have n : vs.length ≤ i := by rw [← l.length]; omega
    cases k with
    | l => exact ⟨vs, q2, n⟩
    | t => exact ⟨vs, q2, n⟩
theorem Rp.pair {p : Addr} {x y : D} {v u : V} (g : GOk K G H) (h : H p = none) (r : Rp K G H x v) (s : Rp K G H y u) : Rp K G (upd H p (.tup [v, u])) (.tup [x, y]) (.ref p) :=
  Rp.newTup g h (by show 2 ≤ sizeLine; decide) (.cons r (.cons s .nil))
end
def dSq (t : DTE) : DTA := fun ρ G Q => t ρ G fun d G1 => onS (frzOf d) fun ds => Q ds G1
def rngD : Int → Nat → List D
  | _, 0 => []
  | lo, n + 1 => .int lo :: rngD (lo + 1) n
theorem rngD_get : ∀ (n : Nat) (lo : Int) (i : Nat), i < n → (rngD lo n)[i]? = some (.int (lo + i))
  | 0, _, _, h => absurd h (Nat.not_lt_zero _)
  | n + 1, lo, 0, _ => by simp [rngD]
  | n + 1, lo, i + 1, h => by
    show (rngD (lo + 1) n)[i]? = _
    rw [rngD_get n (lo + 1) i (Nat.lt_of_succ_lt_succ h)]
    congr 2
    omega
theorem rngD_len : ∀ (n : Nat) (lo : Int), (rngD lo n).length = n
  | 0, _ => rfl
  | n + 1, lo => by
    show (rngD (lo + 1) n).length + 1 = n + 1
    rw [rngD_len n]
theorem serves_rng {K : PySem.W.Frag} {G : GH} {H : Hp} (lo : Int) (n : Nat) : Serves K (Itr lo n) G H (rngD lo n) := by
  intro G2 H2 kp g2 i
  constructor
  · intro x e
    have lt := some_lt e
    rw [rngD_len] at lt
    refine ⟨lt, fun v H3 ⟨h1, h2⟩ => ?_⟩
    subst h1
    subst h2
    rw [rngD_get n lo i lt] at e
    cases e
    exact ⟨Keep.refl, g2, .int _⟩
  · intro e
    rw [rngD_len] at e
    show n ≤ i
    omega
def dRng1 (t : DTE) : DTA := fun ρ G Q => t ρ G fun d G1 => match d with
  | .int j => (-(2 ^ 62) ≤ j ∧ j < 2 ^ 62) ∧ Q (rngD 0 j.toNat) G1
  | _ => False
def dRng2 (t u : DTE) : DTA := fun ρ G Q => t ρ G fun d G1 => u ρ G1 fun e G2 => match d, e with
  | .int i, .int j => (-(2 ^ 62) ≤ i ∧ i < 2 ^ 62 ∧ -(2 ^ 62) ≤ j ∧ j < 2 ^ 62) ∧ Q (rngD i (j - i).toNat) G2
  | _, _ => False
def enumD : Nat → List D → List D
  | _, [] => []
  | i, x :: r => .tup [.int (i : Nat), x] :: enumD (i + 1) r
theorem enumD_get : ∀ (l : List D) (k i : Nat), (enumD k l)[i]? = (l[i]?).map fun x => .tup [.int ((k + i : Nat) : Nat), x]
  | [], _, _ => by simp [enumD]
  | x :: r, k, 0 => by simp [enumD]
  | x :: r, k, i + 1 => by
    show (enumD (k + 1) r)[i]? = _
    rw [enumD_get r (k + 1) i, List.getElem?_cons_succ, Nat.add_right_comm, Nat.add_assoc]
theorem enumD_len : ∀ (l : List D) (k : Nat), (enumD k l).length = l.length
  | [], _ => rfl
  | x :: r, k => by
    show (enumD (k + 1) r).length + 1 = r.length + 1
    rw [enumD_len r]
def dEnum (t : DTE) : DTA := fun ρ G Q => t ρ G fun d G1 => onS (frzOf d) fun ds => Q (enumD 0 ds) G1
def zipD : List D → List D → List D
  | x :: r, y :: s => .tup [x, y] :: zipD r s
  | _, _ => []
theorem zipD_get : ∀ (l m : List D) (i : Nat) (d : D), (zipD l m)[i]? = some d → ∃ x y, l[i]? = some x ∧ m[i]? = some y ∧ d = .tup [x, y]
  | [], _, _, _, h => by simp [zipD] at h
  | _ :: _, [], _, _, h => by simp [zipD] at h
  | x :: r, y :: s, 0, d, h => by
    simp [zipD] at h
    exact ⟨x, y, rfl, rfl, h.symm⟩
  | x :: r, y :: s, i + 1, d, h => by
    obtain ⟨a, b, h1, h2, h3⟩ := zipD_get r s i d h
    exact ⟨a, b, by rw [List.getElem?_cons_succ]; exact h1, by rw [List.getElem?_cons_succ]; exact h2, h3⟩
theorem zipD_len : ∀ (l m : List D), (zipD l m).length = min l.length m.length
  | [], _ => by simp [zipD]
  | _ :: _, [] => by simp [zipD]
  | x :: r, y :: s => by
    show (zipD r s).length + 1 = _
    rw [zipD_len r s, List.length_cons, List.length_cons]
    omega
def dZip (t u : DTE) : DTA := fun ρ G Q => t ρ G fun d G1 => u ρ G1 fun e G2 => onS (frzOf d) fun ds => onS (frzOf e) fun es => Q (zipD ds es) G2
def keyD : Key → D
  | .inl i => .int i
  | .inr x => .str x
def onK (d : D) (k : List (Key × D) → Prop) : Prop := match d with
  | .dct ks => k ks
  | _ => False
theorem onK_some {d : D} {k : List (Key × D) → Prop} (h : onK d k) : ∃ ks, d = .dct ks ∧ k ks := by
  cases d <;> first | exact h.elim | exact ⟨_, rfl, h⟩
def keysD (ks : List (Key × D)) : List D := ks.map fun p => keyD p.1
def valsD (ks : List (Key × D)) : List D := ks.map fun p => p.2
def itemsD (ks : List (Key × D)) : List D := ks.map fun p => .tup [keyD p.1, p.2]
def dKeys (t : DTE) : DTA := fun ρ G Q => t ρ G fun d G1 => onK d fun ks => Q (keysD ks) G1
def dVals (t : DTE) : DTA := fun ρ G Q => t ρ G fun d G1 => onK d fun ks => Q (valsD ks) G1
def dItems (t : DTE) : DTA := fun ρ G Q => t ρ G fun d G1 => onK d fun ks => Q (itemsD ks) G1
section
variable {K : PySem.W.Frag} {G : GH} {H : Hp}
theorem Rp.key (k : Key) : Rp K G H (keyD k) (kV k) := by
  cases k with
  | inl i => exact .int i
  | inr x => exact .str x
theorem RpK.get : ∀ {ds : List (Key × D)} {vs : List (Key × V)} {i : Nat} {k : Key} {d : D}, RpK K G H ds vs → ds[i]? = some (k, d) → ∃ v, vs[i]? = some (k, v) ∧ Rp K G H d v
  | _, _, _, _, _, .nil, e => by simp at e
  | _, _, 0, _, _, .cons r _, e => by
    rw [List.getElem?_cons_zero] at e
    cases e
    exact ⟨_, rfl, r⟩
  | _, _, i + 1, _, _, .cons _ t, e => by
    rw [List.getElem?_cons_succ] at e
    obtain ⟨v, h1, h2⟩ := t.get e
    exact ⟨v, by rw [List.getElem?_cons_succ]; exact h1, h2⟩
end
section
variable {X : Cx} {tg l a b e : Expr} {p pos : Pos} {t u : DTE}
theorem xi_sq (h : XE X l t) : XI X tg l (dSq t) :=
  PI.imp (pi_sq h) fun σ H Q ⟨ρ, G, QD, hs, hg, ht, hf⟩ => ⟨ρ, G, _, hs, hg, ht, fun v H1 d G1 k1 g1 r1 q1 => by
    obtain ⟨ds, e, q⟩ := onS_some q1
    obtain ⟨a, k, vs, rfl, l, sq⟩ := frz_at r1 e
    refine ⟨a, rfl, ?_⟩
    have w := hf _ H1 ds G1 k1 g1 (serves_sq l sq) q
    have s1 := sq G1 H1 Keep.refl
    cases k with
    | l => exact .inl ⟨⟨vs, s1⟩, w⟩
    | t => exact .inr ⟨⟨vs, s1⟩, w⟩⟩
theorem xi_rng1 (hm : X.mg "range" = none) (h : XE X a t) (hg : Gl X "range" := by rfl) (hst : starEach [a] X.env = (false, eval a X.env) :: starEach [] X.env := by rfl) (hst' : starEach [a] X.env = [(false, eval a X.env)] := by rfl) : XI X tg (.Call (.Name "range" p) [a] [] pos) (dRng1 t) :=
  PI.imp (pi_range1 hg hm (pa_cons h pa_nil hst) hst') fun σ H Q ⟨ρ, G, QD, hs, hgk, ht, hf⟩ => ⟨ρ, G, _, hs, hgk, ht, fun v H1 d G1 k1 g1 r1 q1 => by
    cases d <;> first | exact q1.elim | skip
    cases r1
    exact ⟨_, rfl, q1.1.1, q1.1.2, hf _ H1 _ G1 k1 g1 (serves_rng _ _) q1.2⟩⟩
theorem xi_rng2 (hm : X.mg "range" = none) (ha : XE X a t) (hb : XE X b u) (hg : Gl X "range" := by rfl) (hst : starEach [a, b] X.env = (false, eval a X.env) :: starEach [b] X.env := by rfl) (hst2 : starEach [b] X.env = (false, eval b X.env) :: starEach [] X.env := by rfl) (hst3 : starEach [a, b] X.env = [(false, eval a X.env), (false, eval b X.env)] := by rfl) (hst4 : starEach [b] X.env = [(false, eval b X.env)] := by rfl) :
    XI X tg (.Call (.Name "range" p) [a, b] [] pos) (dRng2 t u) :=
  PI.imp (pi_range2 hg hm (pa_cons ha (pa_cons hb pa_nil hst2) hst) hst3 hst4) fun σ H Q ⟨ρ, G, QD, hs, hgk, ht, hf⟩ => ⟨ρ, G, _, hs, hgk, ht, fun v H1 d G1 k1 g1 r1 q1 => ⟨ρ, G1, _, hs.keep k1, g1, q1, fun v2 H2 d2 G2 k2 g2 r2 q2 => by
    cases d <;> first | exact q2.elim | skip
    cases d2 <;> first | exact q2.elim | skip
    cases r1
    cases r2
    exact ⟨_, _, rfl, q2.1, hf _ H2 _ G2 (k1.trans k2) g2 (serves_rng _ _) q2.2⟩⟩⟩
theorem xi_enum {es : List Expr} {kk : Nat} {tp : Pos} (hm : X.mg "enumerate" = none) (h : XE X l t) (hg : Gl X "enumerate" := by rfl) (hst : starEach [l] X.env = (false, eval l X.env) :: starEach [] X.env := by rfl) (hst' : starEach [l] X.env = [(false, eval l X.env)] := by rfl) :
    XI X (.Tuple es kk tp) (.Call (.Name "enumerate" p) [l] [] pos) (dEnum t) :=
  PI.imp (pi_enumK hg hm (pa_cons h pa_nil hst) hst') fun σ H Q ⟨ρ, G, QD, hs, hgk, ht, hf⟩ => ⟨ρ, G, _, hs, hgk, ht, fun v H1 d G1 k1 g1 r1 q1 => by
    obtain ⟨ds, e, q⟩ := onS_some q1
    obtain ⟨a, k, vs, rfl, l, sq⟩ := frz_at r1 e
    refine ⟨a, k, vs, rfl, sq G1 H1 Keep.refl, hf _ H1 _ G1 k1 g1 (fun G2 H2 kp g2 i => ⟨fun x ex => ?_, fun ei => ⟨sq G2 H2 kp, by rw [enumD_len] at ei; rw [ei, l.length]⟩⟩) q⟩
    rw [enumD_get, Option.map_eq_some_iff] at ex
    obtain ⟨y, ey, rfl⟩ := ex
    obtain ⟨w, ew, rw'⟩ := (l.keep kp).get ey
    refine ⟨⟨sq G2 H2 kp, some_lt ew⟩, fun v H3 ⟨T, z, e1, e2, e3, e4⟩ => ?_⟩
    subst e1
    subst e3
    rw [ew] at e4
    cases e4
    have n : ((0 + i : Nat) : Int) = ((i : Nat) : Int) := by rw [Nat.zero_add]
    rw [n]
    exact ⟨Keep.lay g2 e2, g2.lay e2, Rp.pair g2 e2 (.int _) rw'⟩⟩
theorem xi_zip {es : List Expr} {kk : Nat} {tp : Pos} (hm : X.mg "zip" = none) (ha : XE X a t) (hb : XE X b u) (hg : Gl X "zip" := by rfl) (hst : starEach [a, b] X.env = (false, eval a X.env) :: starEach [b] X.env := by rfl) (hst2 : starEach [b] X.env = (false, eval b X.env) :: starEach [] X.env := by rfl)
    (hpl : (backTo pos (starEach [b] X.env)).any (·.1) = false := by rfl) : XI X (.Tuple es kk tp) (.Call (.Name "zip" p) [a, b] [] pos) (dZip t u) :=
  PI.imp (pi_zipK hg hm (pa_cons ha (pa_cons hb pa_nil hst2) hst) hst hpl) fun σ H Q ⟨ρ, G, QD, hs, hgk, ht, hf⟩ => ⟨ρ, G, _, hs, hgk, ht, fun v H1 d G1 k1 g1 r1 q1 => ⟨ρ, G1, _, hs.keep k1, g1, q1, fun v2 H2 d2 G2 k2 g2 r2 q2 => by
    obtain ⟨ds, e, q⟩ := onS_some q2
    obtain ⟨es, e', q⟩ := onS_some q
    obtain ⟨a, k, vs, rfl, l, sq⟩ := frz_at (r1.keep k2) e
    obtain ⟨b, k', us, rfl, l', sq'⟩ := frz_at r2 e'
    refine ⟨a, b, k, k', vs, us, rfl, sq G2 H2 Keep.refl, sq' G2 H2 Keep.refl, hf _ H2 _ G2 (k1.trans k2) g2 (fun G3 H3 kp g3 i => ⟨fun x ex => ?_, fun ei => ⟨sq G3 H3 kp, sq' G3 H3 kp, ?_⟩⟩) q⟩
    · obtain ⟨x1, y1, ex1, ey1, rfl⟩ := zipD_get _ _ _ _ ex
      obtain ⟨w, ew, rw1⟩ := (l.keep kp).get ex1
      obtain ⟨w', ew', rw2⟩ := (l'.keep kp).get ey1
      refine ⟨⟨sq G3 H3 kp, sq' G3 H3 kp, some_lt ew, some_lt ew'⟩, fun v H4 ⟨T, z, z', e1, e2, e3, e4, e5⟩ => ?_⟩
      subst e1
      subst e3
      rw [ew] at e4
      rw [ew'] at e5
      cases e4
      cases e5
      exact ⟨Keep.lay g3 e2, g3.lay e2, Rp.pair g3 e2 rw1 rw2⟩
    · rw [zipD_len, l.length, l'.length] at ei
      omega⟩⟩
theorem xi_keys (h : XE X l t) : XI X tg l (dKeys t) :=
  PI.imp (pi_keys h) fun σ H Q ⟨ρ, G, QD, hs, hgk, ht, hf⟩ => ⟨ρ, G, _, hs, hgk, ht, fun v H1 d G1 k1 g1 r1 q1 => by
    obtain ⟨ks, rfl, q⟩ := onK_some q1
    cases r1 with
    | @dct a od _ kv ga ha z rk =>
      refine ⟨a, od, rfl, .inl ⟨kv, ha, hf _ H1 _ G1 k1 g1 (fun G2 H2 kp g2 i => ⟨fun x ex => ?_, fun ei => ⟨(kp _ _ ga ha).2, ?_⟩⟩) q⟩⟩
      · rw [keysD, List.getElem?_map, Option.map_eq_some_iff] at ex
        obtain ⟨⟨k, d⟩, ek, rfl⟩ := ex
        obtain ⟨w, ew, _⟩ := rk.get ek
        refine ⟨⟨(kp _ _ ga ha).2, some_lt ew⟩, fun v H3 ⟨e1, k', v', e2, e3⟩ => ?_⟩
        subst e1
        subst e3
        rw [ew] at e2
        cases e2
        exact ⟨Keep.refl, g2, Rp.key k⟩
      · rw [keysD, List.length_map, rk.length] at ei
        omega⟩
theorem xi_values {apos : Pos} (h : XE X l t) (hbase : attributeBase l "values" X.env (eval l X.env) = eval l X.env := by rfl) (hline : (apos.endLine == pos.line) = true := by rfl) : XI X tg (.Call (.Attribute l "values" apos) [] [] pos) (dVals t) :=
  PI.imp (pi_values h hbase hline) fun σ H Q ⟨ρ, G, QD, hs, hgk, ht, hf⟩ => ⟨ρ, G, _, hs, hgk, ht, fun v H1 d G1 k1 g1 r1 q1 => by
    obtain ⟨ks, rfl, q⟩ := onK_some q1
    cases r1 with
    | @dct a od _ kv ga ha z rk =>
      refine ⟨a, od, kv, rfl, ha, hf _ H1 _ G1 k1 g1 (fun G2 H2 kp g2 i => ⟨fun x ex => ?_, fun ei => ⟨(kp _ _ ga ha).2, ?_⟩⟩) q⟩
      · rw [valsD, List.getElem?_map, Option.map_eq_some_iff] at ex
        obtain ⟨⟨k, d⟩, ek, rfl⟩ := ex
        obtain ⟨w, ew, rw1⟩ := rk.get ek
        refine ⟨⟨(kp _ _ ga ha).2, some_lt ew⟩, fun v H3 ⟨e1, k', e2⟩ => ?_⟩
        subst e1
        rw [ew] at e2
        cases e2
        exact ⟨Keep.refl, g2, rw1.keep kp⟩
      · rw [valsD, List.length_map, rk.length] at ei
        omega⟩
theorem xi_items {apos : Pos} {es : List Expr} {kk : Nat} {tp : Pos} (h : XE X l t) (hbase : attributeBase l "items" X.env (eval l X.env) = eval l X.env := by rfl) (hline : (apos.endLine == pos.line) = true := by rfl) : XI X (.Tuple es kk tp) (.Call (.Attribute l "items" apos) [] [] pos) (dItems t) :=
  PI.imp (pi_items h hbase hline) fun σ H Q ⟨ρ, G, QD, hs, hgk, ht, hf⟩ => ⟨ρ, G, _, hs, hgk, ht, fun v H1 d G1 k1 g1 r1 q1 => by
    obtain ⟨ks, rfl, q⟩ := onK_some q1
    cases r1 with
    | @dct a od _ kv ga ha z rk =>
      refine ⟨a, od, kv, rfl, ha, hf _ H1 _ G1 k1 g1 (fun G2 H2 kp g2 i => ⟨fun x ex => ?_, fun ei => ⟨(kp _ _ ga ha).2, ?_⟩⟩) q⟩
      · rw [itemsD, List.getElem?_map, Option.map_eq_some_iff] at ex
        obtain ⟨⟨k, d⟩, ek, rfl⟩ := ex
        obtain ⟨w, ew, rw1⟩ := rk.get ek
        refine ⟨⟨(kp _ _ ga ha).2, some_lt ew⟩, fun v H3 ⟨T, k', v', e2, e3, e4, e5⟩ => ?_⟩
        subst e3
        subst e5
        rw [ew] at e2
        cases e2
        exact ⟨Keep.lay g2 e4, g2.lay e4, Rp.pair g2 e4 (Rp.key k) (rw1.keep kp)⟩
      · rw [itemsD, List.length_map, rk.length] at ei
        omega⟩
end
/-! ### targets: a name, a tuple -/
/-- slots but some stay -/
def Wr (ws : List Nat) (σ σ' : L2.St) : Prop := ∀ vs : List Nat, (∀ i ∈ ws, i ∈ vs) → wipe σ' vs = wipe σ vs
theorem Wr.refl {ws : List Nat} {σ : L2.St} : Wr ws σ σ := fun _ _ => rfl
theorem Wr.trans {ws us : List Nat} {σ σ1 σ2 : L2.St} (h : Wr ws σ σ1) (k : Wr us σ1 σ2) : Wr (ws ++ us) σ σ2 := fun vs m =>
  (k vs fun i hi => m i (List.mem_append_right _ hi)).trans (h vs fun i hi => m i (List.mem_append_left _ hi))
theorem wipe_set : ∀ {vs : List Nat} {σ : L2.St} {i : Nat} {o : Option V}, i ∈ vs → wipe (σ.set i o) vs = wipe σ vs
  | [], _, _, _, h => nomatch h
  | v :: vs, σ, i, o, h => by
    show (wipe (σ.set i o) vs).set v none = (wipe σ vs).set v none
    by_cases m : i ∈ vs
    · rw [wipe_set m]
    · have e : i = v := by
        rcases List.mem_cons.mp h with e | h
        · exact e
        · exact absurd h m
      subst e
      have sw : ∀ (us : List Nat) (τ : L2.St), i ∉ us → wipe (τ.set i o) us = (wipe τ us).set i o := by
        intro us
        induction us with
        | nil => intro τ _; rfl
        | cons w us ih =>
          intro τ hn
          show (wipe (τ.set i o) us).set w none = ((wipe τ us).set w none).set i o
          rw [ih τ fun z => hn (List.mem_cons_of_mem _ z), List.set_comm _ _ fun z => hn (by rw [z]; exact List.mem_cons_self ..)]
      rw [sw vs σ m, List.set_set]
theorem Wr.set {σ : L2.St} {i : Nat} {o : Option V} : Wr [i] σ (σ.set i o) := fun vs m => wipe_set (m i (List.mem_cons_self ..))
theorem wipe_wipe (σ : L2.St) (vs : List Nat) : wipe (wipe σ vs) vs = wipe σ vs := by
  have g : ∀ (us : List Nat), (∀ i ∈ us, i ∈ vs) → wipe (wipe σ us) vs = wipe σ vs := by
    intro us
    induction us with
    | nil => intro _; rfl
    | cons w us ih =>
      intro m
      show wipe ((wipe σ us).set w none) vs = _
      rw [wipe_set (m w (List.mem_cons_self ..)), ih fun i hi => m i (List.mem_cons_of_mem _ hi)]
  exact g vs fun _ h => h
def lowH (K : PySem.W.Frag) (ws : List Nat) (t : DTG) : TG := fun x σ H Q => ∃ d ρ G QD, Rp K G H d x ∧ RpS K G H ρ σ ∧ GOk K G H ∧ t d ρ G QD ∧ ∀ σ' H' ρ' G', Wr ws σ σ' → Keep G H G' H' → GOk K G' H' → RpS K G' H' ρ' σ' → QD ρ' G' → Q σ' H'
def lowHs (K : PySem.W.Frag) (ws : List Nat) (t : DTGs) : TGs := fun xs σ H Q => ∃ ds ρ G QD, RpL K G H ds xs ∧ RpS K G H ρ σ ∧ GOk K G H ∧ t ds ρ G QD ∧ ∀ σ' H' ρ' G', Wr ws σ σ' → Keep G H G' H' → GOk K G' H' → RpS K G' H' ρ' σ' → QD ρ' G' → Q σ' H'
abbrev XH (X : Cx) (ws : List Nat) (e : Expr) (t : DTG) : Prop := PG X e (lowH X.K ws t)
abbrev XHs (X : Cx) (ws : List Nat) (es : List Expr) (t : DTGs) : Prop := PGs X es (lowHs X.K ws t)
def gNm (i : Nat) : DTG := fun d ρ G Q => Q (ρ.set i (some d)) G
def gNil : DTGs := fun ds ρ G Q => ds = [] ∧ Q ρ G
def gCons (t : DTG) (u : DTGs) : DTGs := fun ds ρ G Q => match ds with
  | d :: r => t d ρ G fun ρ' G' => u r ρ' G' Q
  | [] => False
def gTp (n : Nat) (t : DTGs) : DTG := fun d ρ G Q => match d with
  | .tup ds => ds.length = n ∧ t ds ρ G Q
  | _ => False
section
variable {X : Cx} {e : Expr} {es : List Expr} {pos : Pos} {t : DTG} {u : DTGs} {ws us : List Nat}
theorem xh_name (i : Nat) {x : Str} (hN : X.N.Nodup) (hi : X.N[i]? = some x := by rfl) (hx : Loc X.env.scope x := by first | exact Or.inl rfl | exact Or.inr rfl) (hf : X.fn x = true ∨ X.env.scope.names.lookup x = some .local := by first | exact .inl rfl | exact .inr rfl | assumption) : XH X [i] (.Name x pos) (gNm i) :=
  PG.imp (pg_name hN hi hx hf) fun v σ H Q ⟨d, ρ, G, QD, hr, hs, hg, ht, hq⟩ => hq _ H _ G Wr.set Keep.refl hg (hs.set hr i) ht
theorem xhs_nil : XHs X [] [] gNil := PGs.imp pgs_nil fun v σ H Q ⟨d, ρ, G, QD, hr, hs, hg, ht, hq⟩ => by
  obtain ⟨rfl, q⟩ := ht
  cases hr
  exact ⟨rfl, hq σ H ρ G Wr.refl Keep.refl hg hs q⟩
theorem xhs_cons (h1 : XH X ws e t) (h2 : XHs X us es u) (hst : (assignEach (e :: es) X.env).map (·.2) = assign e X.env :: (assignEach es X.env).map (·.2) := by rfl) : XHs X (ws ++ us) (e :: es) (gCons t u) :=
  PGs.imp (pgs_cons h1 h2 hst) fun v σ H Q ⟨ds, ρ, G, QD, hr, hs, hg, ht, hq⟩ => by
    cases hr with
    | nil => exact ht.elim
    | @cons d v ds vs r rr =>
      refine ⟨v, vs, rfl, d, ρ, G, _, r, hs, hg, ht, fun σ1 H1 ρ1 G1 w1 k1 g1 s1 q1 => ?_⟩
      exact ⟨ds, ρ1, G1, QD, rr.keep k1, s1, g1, q1, fun σ2 H2 ρ2 G2 w2 k2 g2 s2 q2 => hq σ2 H2 ρ2 G2 (w1.trans w2) (k1.trans k2) g2 s2 q2⟩
theorem xh_tup {k n : Nat} (hc : X.calm = true) (h : XHs X ws es u) (hn : (assignEach es X.env).length = n := by rfl) (hst : (assignEach es X.env).findIdx? (·.1) = none := by rfl) : XH X ws (.Tuple es k pos) (gTp n u) :=
  PG.imp (pg_tup hc h hn hst) fun v σ H Q ⟨d, ρ, G, QD, hr, hs, hg, ht, hq⟩ => by
    cases d <;> first | exact ht.elim | skip
    cases hr with
    | tup tt z l => exact ⟨_, _, rfl, tt.sq, by rw [← l.length]; exact ht.1, _, ρ, G, QD, l, hs, hg, ht.2, hq⟩
end
/-! ### statements -/
section
variable {X : Cx} {e a b : Expr} {st : Stmt} {sts : List Stmt} {pos : Pos} {t u : DTS} {te tb : DTE} {tt : DTT} {g : DTG} {wi : DTA} {ws : List Nat}
def dNx : DTS := fun D ρ G => D.nx ρ G
def dSeq (t u : DTS) : DTS := fun D ρ G => t { D with nx := u D } ρ G
theorem FinS.from {K : PySem.W.Frag} {G G1 : GH} {H H1 : Hp} {DD : DEnds} {E : Ends} (h : FinS K G H DD E) (k : Keep G H G1 H1) : FinS K G1 H1 DD E :=
  ⟨fun σ' H' ρ' G' k' => h.nx σ' H' ρ' G' (k.trans k'), h.rt.from k, fun σ' H' ρ' G' k' => h.bk σ' H' ρ' G' (k.trans k'), fun σ' H' ρ' G' k' => h.ct σ' H' ρ' G' (k.trans k')⟩
theorem xs_nil : XSs X [] dNx := PSs.imp pss_nil fun E σ H ⟨ρ, G, DD, hs, hg, ht, hf⟩ => hf.nx σ H ρ G Keep.refl hg hs ht
theorem xs_one (h : XS X st t) : XSs X [st] t := pss_one h
theorem xs_cons (h : XS X st t) (hr : XSs X sts u) : XSs X (st :: sts) (dSeq t u) :=
  PSs.imp (pss_cons h hr) fun E σ H ⟨ρ, G, DD, hs, hg, ht, hf⟩ => ⟨ρ, G, { DD with nx := u DD }, hs, hg, ht,
    ⟨fun σ' H' ρ' G' k g s q => ⟨ρ', G', DD, s, g, q, hf.from k⟩, hf.rt, hf.bk, hf.ct⟩⟩
theorem xs_pass : XS X (.Pass pos) dNx := PS.imp ps_pass fun E σ H ⟨ρ, G, DD, hs, hg, ht, hf⟩ => hf.nx σ H ρ G Keep.refl hg hs ht
def dBk : DTS := fun D ρ G => D.bk ρ G
def dCt : DTS := fun D ρ G => D.ct ρ G
theorem xs_break : XS X (.Break pos) dBk := PS.imp ps_break fun E σ H ⟨ρ, G, DD, hs, hg, ht, hf⟩ => hf.bk σ H ρ G Keep.refl hg hs ht
theorem xs_continue : XS X (.Continue pos) dCt := PS.imp ps_continue fun E σ H ⟨ρ, G, DD, hs, hg, ht, hf⟩ => hf.ct σ H ρ G Keep.refl hg hs ht
def dDrop (t : DTE) : DTS := fun D ρ G => t ρ G fun _ G' => D.nx ρ G'
theorem xs_expr (h : XE X e te) (hs : swapsWith e none pos.line X.env = pure false := by rfl) : XS X (.Expr e pos) (dDrop te) :=
  PS.imp (ps_expr h hs) fun E σ H ⟨ρ, G, DD, hs, hg, ht, hf⟩ => ⟨ρ, G, _, hs, hg, ht, fun v H1 d G1 k1 g1 r1 q1 => hf.nx σ H1 ρ G1 k1 g1 (hs.keep k1) q1⟩
def dRet (t : DTE) : DTS := fun D ρ G => t ρ G D.rt
theorem xs_ret (h : XE X e te) : XS X (.Return (some e) pos) (dRet te) :=
  PS.imp (ps_ret h) fun E σ H ⟨ρ, G, DD, hs, hg, ht, hf⟩ => ⟨ρ, G, _, hs, hg, ht, hf.rt⟩
def dRetN : DTS := fun D _ G => D.rt .non G
theorem xs_retN : XS X (.Return none pos) dRetN :=
  PS.imp ps_retN fun E σ H ⟨ρ, G, DD, hs, hg, ht, hf⟩ => hf.rt .non H .non G Keep.refl hg .non ht
def dIfS (c : DTT) (t u : DTS) : DTS := fun D ρ G => c ρ G fun b G1 => if b = true then t D ρ G1 else u D ρ G1
theorem xs_if {p q : List Stmt} (hc : XT X e tt) (hp : XSs X p t) (hq : XSs X q u) : XS X (.If e p q pos) (dIfS tt t u) :=
  PS.imp (ps_if hc hp hq) fun E σ H ⟨ρ, G, DD, hs, hg, ht, hf⟩ => ⟨ρ, G, _, hs, hg, ht, fun b H1 G1 k1 g1 q1 => by
    cases b with
    | true => exact ⟨ρ, G1, DD, hs.keep k1, g1, q1, hf.from k1⟩
    | false => exact ⟨ρ, G1, DD, hs.keep k1, g1, q1, hf.from k1⟩⟩
def dAsg (t : DTE) (g : DTG) : DTS := fun D ρ G => t ρ G fun d G1 => g d ρ G1 D.nx
theorem low_asg {E : Ends} {σ : L2.St} {H : Hp} (h : lowS X.K (dAsg te g) E σ H) : tAsg (lowE X.K te) (lowH X.K ws g) E σ H := by
  obtain ⟨ρ, G, DD, hs, hgk, ht, hf⟩ := h
  exact ⟨ρ, G, _, hs, hgk, ht, fun v H1 d G1 k1 g1 r1 q1 => ⟨d, ρ, G1, _, r1, hs.keep k1, g1, q1, fun σ' H' ρ' G' _ k' g' s' q' => hf.nx σ' H' ρ' G' (k1.trans k') g' s' q'⟩⟩
theorem xs_asg (h : XE X e te) (hg : XH X ws a g) (hs : swapsWithSole [a] e pos.line X.env = pure false := by rfl) (hw : swappedStores [a] e X.env = pure none := by rfl)
    (h1 : (assignEach [a] X.env).map (·.2) = [assign a X.env] := by rfl) : XS X (.Assign [a] e pos) (dAsg te g) := PS.imp (ps_asg h hg hs hw h1) fun _ _ _ w => low_asg w
theorem xs_set (i : Nat) {x : Str} {pos' : Pos} (hN : X.N.Nodup) (h : XE X e te) (hi : X.N[i]? = some x := by rfl) (hx : Loc X.env.scope x := by first | exact Or.inl rfl | exact Or.inr rfl) (hs : swapsWith e (some (.Name x pos')) pos.line X.env = pure false := by rfl)
    (hf : X.fn x = true ∨ X.env.scope.names.lookup x = some .local := by first | exact .inl rfl | exact .inr rfl | assumption) : XS X (.Assign [.Name x pos'] e pos) (dAsg te (gNm i)) :=
  PS.imp (ps_set hN hi hx h hs hf) fun E σ H ⟨ρ, G, DD, hs, hgk, ht, hf⟩ => ⟨ρ, G, _, hs, hgk, ht, fun v H1 d G1 k1 g1 r1 q1 => hf.nx _ H1 _ G1 k1 g1 ((hs.keep k1).set r1 i) q1⟩
def dPar (i j : Nat) (t : DTA) : DTS := fun D ρ G => t ρ G fun ds G1 => match ds with
  | [x, y] => D.nx ((ρ.set i (some x)).set j (some y)) G1
  | _ => False
theorem xs_par (i j : Nat) {x y : Str} {px py pt : Pos} {kt k2 : Nat} {pt2 : Pos} {t : DTA} (hc : X.calm = true) (hN : X.N.Nodup) (ha : XA X [e, b] t)
    (hw : swappedStores [.Tuple [.Name x px, .Name y py] kt pt] (.Tuple [e, b] k2 pt2) X.env = pure (some [x, y]) := by rfl) (hi : X.N[i]? = some x := by rfl) (hj : X.N[j]? = some y := by rfl) (hij : i ≠ j := by decide)
    (hx : X.env.scope.names.lookup x = some .local := by rfl) (hy : X.env.scope.names.lookup y = some .local := by rfl)
    (hs : swapsWithSole [.Tuple [.Name x px, .Name y py] kt pt] (.Tuple [e, b] k2 pt2) pos.line X.env = pure false := by rfl) :
    XS X (.Assign [.Tuple [.Name x px, .Name y py] kt pt] (.Tuple [e, b] k2 pt2) pos) (dPar i j t) :=
  PS.imp (ps_par hc hN hi hj hij hx hy ha hw hs) fun E σ H ⟨ρ, G, DD, hs, hgk, ht, hf⟩ => ⟨ρ, G, _, hs, hgk, ht, fun v H1 ds G1 k1 g1 r1 q1 => by
    match ds, r1, q1 with
    | [d1, d2], .cons r1 (.cons r2 .nil), q1 => exact ⟨_, _, rfl, hf.nx _ H1 _ G1 k1 g1 (((hs.keep k1).set r1 i).set r2 j) q1⟩⟩
/-! loops -/
def forGo (g : DTG) (tb : DTS) (E : DEnds) : List D → Dt → GH → Prop
  | [], ρ, G => E.nx ρ G
  | x :: r, ρ, G => g x ρ G fun ρ2 G2 => tb { nx := fun ρ' G' => forGo g tb E r ρ' G', rt := E.rt, bk := E.nx, ct := fun ρ' G' => forGo g tb E r ρ' G' } ρ2 G2
def dFor (wi : DTA) (g : DTG) (tb : DTS) : DTS := fun D ρ G => wi ρ G fun xs G1 => forGo g tb D xs ρ G1
theorem drop_cons {α : Type} {l r : List α} {x : α} {i : Nat} (h : l.drop i = x :: r) : l[i]? = some x ∧ l.drop (i + 1) = r := by
  refine ⟨?_, ?_⟩
  · have z := congrArg List.head? h
    rw [List.head?_drop] at z
    exact z
  · rw [← List.tail_drop, h]
    rfl
theorem drop_nil {α : Type} {l : List α} {i : Nat} (h : l.drop i = []) (hi : i ≤ l.length) : i = l.length := by
  have z := congrArg List.length h
  rw [List.length_drop] at z
  simp at z
  omega
theorem xs_for {iter tg : Expr} {body : List Stmt} {tb : DTS} (hp : PassesOwn (model X.prog X.w) X.A X.env X.xe) (hc : X.calm = true) (hi : XI X tg iter wi) (hg : XH X ws tg g) (hb : XSs X body tb)
    (hst : ∀ x, foldedSetIterable iter X.env x = pure x := by intro _; rfl) : XS X (.For tg iter body [] pos) (dFor wi g tb) :=
  PS.imp (ps_for hp hc hi hg hb hst) fun E σ H ⟨ρ, G, DD, hs, hgk, ht, hf⟩ => ⟨ρ, G, _, hs, hgk, ht, fun J H1 xs G1 k1 g1 sv q1 => by
    refine ⟨fun i m σ' H' => ∃ ρ' G' rest, xs.drop i = rest ∧ i ≤ xs.length ∧ m = rest.length ∧ RpS X.K G' H' ρ' σ' ∧ GOk X.K G' H' ∧ Keep G1 H1 G' H' ∧ forGo g tb DD rest ρ' G', ⟨xs.length, ρ, G1, xs, rfl, Nat.zero_le _, rfl, hs.keep k1, g1, Keep.refl, q1⟩, ?_⟩
    rintro i m σ' H' ⟨ρ', G', rest, hd, hle, hm, s', g', k', q'⟩
    cases rest with
    | nil => exact .inl ⟨(sv G' H' k' g' i).2 (drop_nil hd hle), hf.nx σ' H' ρ' G' (k1.trans k') g' s' q'⟩
    | cons x r =>
      obtain ⟨ex, er⟩ := drop_cons hd
      obtain ⟨hgo, hy⟩ := (sv G' H' k' g' i).1 x ex
      refine .inr ⟨hgo, fun σ2 H2 => ∃ ρ2 G2, RpS X.K G2 H2 ρ2 σ2 ∧ GOk X.K G2 H2 ∧ Keep G1 H1 G2 H2 ∧ forGo g tb DD r ρ2 G2, fun σ2 H2 ⟨ρ2, G2, s2, g2, k2, q2⟩ => ⟨r.length, by rw [hm]; exact Nat.lt_succ_self _, ρ2, G2, r, er, some_lt ex, rfl, s2, g2, k2, q2⟩, fun v H3 yv => ?_⟩
      obtain ⟨k3, g3, r3⟩ := hy v H3 yv
      refine ⟨x, ρ', G', _, r3, s'.keep k3, g3, q', fun σ4 H4 ρ4 G4 _ k4 g4 s4 q4 => ⟨ρ4, G4, _, s4, g4, q4, ?_⟩⟩
      have kk := k'.trans (k3.trans k4)
      exact ⟨fun σ5 H5 ρ5 G5 k5 g5 s5 q5 => ⟨ρ5, G5, s5, g5, kk.trans k5, q5⟩, hf.rt.from (k1.trans kk), fun σ5 H5 ρ5 G5 k5 g5 s5 q5 => hf.nx σ5 H5 ρ5 G5 ((k1.trans kk).trans k5) g5 s5 q5, fun σ5 H5 ρ5 G5 k5 g5 s5 q5 => ⟨ρ5, G5, s5, g5, kk.trans k5, q5⟩⟩⟩
def dWhile (c : DTT) (tb : DTS) : DTS := fun D ρ G => ∃ W : Nat → Dt → GH → Prop, (∃ m, W m ρ G) ∧ ∀ m ρ G, W m ρ G → c ρ G fun b G1 =>
  if b = true then ∃ N : Dt → GH → Prop, (∀ ρ' G', N ρ' G' → ∃ m', m' < m ∧ W m' ρ' G') ∧ tb { nx := N, rt := D.rt, bk := D.nx, ct := N } ρ G1 else D.nx ρ G1
theorem xs_while {c : Expr} {body : List Stmt} {tb : DTS} (hp : PassesOwn (model X.prog X.w) X.A X.env X.xe) (hc : XT X c tt) (hb : XSs X body tb) : XS X (.While c body [] pos) (dWhile tt tb) :=
  PS.imp (ps_while hp hc hb) fun E σ H ⟨ρ, G, DD, hs, hgk, ht, hf⟩ => by
    obtain ⟨W, ⟨m0, w0⟩, turn⟩ := ht
    refine ⟨fun m σ' H' => ∃ ρ' G', W m ρ' G' ∧ RpS X.K G' H' ρ' σ' ∧ GOk X.K G' H' ∧ Keep G H G' H', ⟨m0, ρ, G, w0, hs, hgk, Keep.refl⟩, ?_⟩
    rintro m σ' H' ⟨ρ', G', w', s', g', k'⟩
    refine ⟨ρ', G', _, s', g', turn m ρ' G' w', fun b H1 G1 k1 g1 q1 => ?_⟩
    cases b with
    | true =>
      obtain ⟨N, hN, q1⟩ := q1
      refine ⟨fun σ2 H2 => ∃ ρ2 G2, N ρ2 G2 ∧ RpS X.K G2 H2 ρ2 σ2 ∧ GOk X.K G2 H2 ∧ Keep G H G2 H2, fun σ2 H2 ⟨ρ2, G2, n2, s2, g2, k2⟩ => ?_, ρ', G1, _, s'.keep k1, g1, q1, ?_⟩
      · obtain ⟨m', lt, w2⟩ := hN ρ2 G2 n2
        exact ⟨m', lt, ρ2, G2, w2, s2, g2, k2⟩
      · have kk := k'.trans k1
        exact ⟨fun σ5 H5 ρ5 G5 k5 g5 s5 q5 => ⟨ρ5, G5, q5, s5, g5, kk.trans k5⟩, hf.rt.from kk, fun σ5 H5 ρ5 G5 k5 g5 s5 q5 => hf.nx σ5 H5 ρ5 G5 (kk.trans k5) g5 s5 q5, fun σ5 H5 ρ5 G5 k5 g5 s5 q5 => ⟨ρ5, G5, q5, s5, g5, kk.trans k5⟩⟩
    | false => exact hf.nx σ' H1 ρ' G1 (k'.trans k1) g1 (s'.keep k1) q1
end
end DL
set_option Elab.async false
set_option linter.all false
set_option maxRecDepth 100000
set_option maxHeartbeats 2000000
/-! The D layer: comprehensions; dicts that are locked. -/
namespace DL
open PySem PySem.Spec PyProof.Rows L2
def wipeD (ρ : Dt) : List Nat → Dt
  | [] => ρ
  | v :: vs => (wipeD ρ vs).set v none
theorem RpS.wipe {K : PySem.W.Frag} {G : GH} {H : Hp} {ρ : Dt} {σ : L2.St} (h : RpS K G H ρ σ) : ∀ vs : List Nat, RpS K G H (wipeD ρ vs) (L2.wipe σ vs)
  | [] => h
  | v :: vs => (RpS.wipe h vs).forget v
abbrev XTs (X : Cx) (ifs : List Expr) (t : DTT) : Prop := PTs X ifs (lowT X.K t)
theorem PTs.imp {X : Cx} {ifs : List Expr} {t u : TT} (h : PTs X ifs t) (i : ∀ σ H Q, u σ H Q → t σ H Q) : PTs X ifs u := ⟨fun pins s σ H Q I w => h.run pins s σ H Q I (i σ H Q w)⟩
def dYes : DTT := fun _ G Q => Q true G
theorem xts_nil {X : Cx} : XTs X [] dYes := PTs.imp pts_nil fun σ H Q ⟨ρ, G, QD, hs, hg, ht, hf⟩ => hf true H G Keep.refl hg ht
theorem xts_one {X : Cx} {c : Expr} {t : DTT} (h : XT X c t) : XTs X [c] t := pts_one h
/-- over one thing: what is put to the list at p -/
def lcIn (g : DTG) (tt : DTT) (te : DTE) (ρ : Dt) (p : Addr) (k : List D → GH → Prop) : List D → List D → GH → Prop
  | [], acc, G => k acc G
  | x :: r, acc, G => g x ρ G fun ρ2 G2 => tt ρ2 G2 fun b G3 =>
    if b = true then te ρ2 G3 fun y G4 => (G4 p = some (.lst acc) ∧ acc.length < sizeLine) ∧ lcIn g tt te ρ p k r (acc ++ [y]) (gput G4 p (.lst (acc ++ [y]))) else lcIn g tt te ρ p k r acc G3
def lcOut (g : DTG) (tt : DTT) (wi1 : DTA) (g1 : DTG) (tt1 : DTT) (te : DTE) (vs1 : List Nat) (ρ : Dt) (p : Addr) (k : List D → GH → Prop) : List D → List D → GH → Prop
  | [], acc, G => k acc G
  | x :: r, acc, G => g x ρ G fun ρ2 G2 => tt ρ2 G2 fun b G3 =>
    if b = true then wi1 ρ2 G3 fun ys G4 => lcIn g1 tt1 te (wipeD ρ2 vs1) p (fun acc' G' => lcOut g tt wi1 g1 tt1 te vs1 ρ p k r acc' G') ys acc G4 else lcOut g tt wi1 g1 tt1 te vs1 ρ p k r acc G3
/-- its end: followed no more, or followed -/
def lcEnd (fz : Bool) (Q : DE) (p : Addr) (acc : List D) (G : GH) : Prop := G p = some (.lst acc) ∧ match fz with
  | true => Q (.lst acc) (gdel G p)
  | false => Q (.ref p) G
def dLc (fz : Bool) (wi : DTA) (g : DTG) (tt : DTT) (te : DTE) (vs : List Nat) : DTE := fun ρ G Q => wi ρ G fun xs G1 => ∀ p, G1 p = none →
  lcIn g tt te (wipeD ρ vs) p (lcEnd fz Q p) xs [] (gput G1 p (.lst []))
def dLc2 (fz : Bool) (wi : DTA) (g : DTG) (tt : DTT) (wi1 : DTA) (g1 : DTG) (tt1 : DTT) (te : DTE) (vs vs1 : List Nat) : DTE := fun ρ G Q => wi ρ G fun xs G1 => ∀ p, G1 p = none →
  lcOut g tt wi1 g1 tt1 te vs1 (wipeD ρ vs) p (lcEnd fz Q p) xs [] (gput G1 p (.lst []))
section
variable {K : PySem.W.Frag} {G G1 : GH} {H H1 : Hp} {p : Addr} {acc : List D}
theorem cell_lst (g : GOk K G H) (h : G p = some (.lst acc)) : acc.length ≤ sizeLine ∧ ∃ vs, H p = some (.lst vs) ∧ RpL K G H acc vs := g p _ h
theorem put_one {y : D} {v : V} (g : GOk K G H) (h : G p = some (.lst acc)) (l : acc.length < sizeLine) (r : Rp K G H y v) : ∃ vs, H p = some (.lst vs) ∧ vs.length < sizeLine ∧ Keep G H (gput G p (.lst (acc ++ [y]))) (upd H p (.lst (vs ++ [v]))) ∧ GOk K (gput G p (.lst (acc ++ [y]))) (upd H p (.lst (vs ++ [v]))) := by
  obtain ⟨_, vs, hv, rl⟩ := cell_lst g h
  have kp : Keep G H (gput G p (.lst (acc ++ [y]))) (upd H p (.lst (vs ++ [v]))) := Keep.set h
  refine ⟨vs, hv, by rw [← rl.length]; exact l, kp, g.set h ⟨?_, vs ++ [v], upd_same, (rl.append (.cons r .nil)).keep kp⟩⟩
  rw [List.length_append]
  exact l
theorem lc_end {fz : Bool} {QD : DE} {Q : VK} (k : Keep G1 H1 G H) (g : GOk K G H) (hq : Fin K G1 H1 QD Q) (h : lcEnd fz QD p acc G) : Q (.ref p) H := by
  obtain ⟨e, h⟩ := h
  obtain ⟨z, vs, hv, rl⟩ := cell_lst g e
  cases fz with
  | true => exact hq _ H _ _ (k.trans Keep.del) g.del (.lst gdel_same hv z (rl.keep Keep.del)) h
  | false => exact hq _ H _ G k g (.ref p) h
end
section
variable {X : Cx} {elt tg iter tg1 iter1 : Expr} {ifs ifs1 : List Expr} {pos : Pos} {wi wi1 : DTA} {g g1 : DTG} {tt tt1 : DTT} {te : DTE} {ws ws1 vs vs1 : List Nat} {fz : Bool}
/-- one thing gone over, in the hand layer's words -/
theorem low_in {σ : L2.St} {ρ : Dt} {G1 : GH} {H1 : Hp} {p : Addr} {k : List D → GH → Prop} {Fi : Hp → Prop} {J : It} {xs : List D} {acc : List D} (hw : ∀ i ∈ ws, i ∈ vs) (s0 : RpS X.K G1 H1 (wipeD ρ vs) (L2.wipe σ vs)) (g0 : GOk X.K G1 H1)
    (sv : Serves X.K J G1 H1 xs) (hk : ∀ acc' G' H', Keep G1 H1 G' H' → GOk X.K G' H' → k acc' G' → Fi H') (q0 : lcIn g tt te (wipeD ρ vs) p k xs acc G1) :
    ∃ W : Nat → Nat → Hp → Prop, (∃ m, W 0 m H1) ∧ ∀ i m H, W i m H → (J.stop i H ∧ Fi H) ∨ (J.go i H ∧ ∃ Nx : Hp → Prop, (∀ H', Nx H' → ∃ m', m' < m ∧ W (i + 1) m' H') ∧ ∀ x H', J.yld i H x H' → lowH X.K ws g x (L2.wipe σ vs) H' fun σ2 H2 => L2.wipe σ2 vs = L2.wipe σ vs ∧ lowT X.K tt σ2 H2 fun b H3 =>
      if b = true then lowE X.K te σ2 H3 fun y H4 => ∃ a, H4 p = some (.lst a) ∧ a.length < sizeLine ∧ Nx (upd H4 p (.lst (a ++ [y]))) else Nx H3) := by
  refine ⟨fun i m H => ∃ G rest acc, xs.drop i = rest ∧ i ≤ xs.length ∧ m = rest.length ∧ GOk X.K G H ∧ Keep G1 H1 G H ∧ lcIn g tt te (wipeD ρ vs) p k rest acc G, ⟨xs.length, G1, xs, acc, rfl, Nat.zero_le _, rfl, g0, Keep.refl, q0⟩, ?_⟩
  rintro i m H ⟨G, rest, acc, hd, hle, hm, gk, kp, q⟩
  cases rest with
  | nil => exact .inl ⟨(sv G H kp gk i).2 (drop_nil hd hle), hk acc G H kp gk q⟩
  | cons x r =>
    obtain ⟨ex, er⟩ := drop_cons hd
    obtain ⟨hgo, hy⟩ := (sv G H kp gk i).1 x ex
    refine .inr ⟨hgo, fun H2 => ∃ G2 acc2, GOk X.K G2 H2 ∧ Keep G1 H1 G2 H2 ∧ lcIn g tt te (wipeD ρ vs) p k r acc2 G2, fun H2 ⟨G2, acc2, g2, k2, q2⟩ => ⟨r.length, by rw [hm]; exact Nat.lt_succ_self _, G2, r, acc2, er, some_lt ex, rfl, g2, k2, q2⟩, fun v H3 yv => ?_⟩
    obtain ⟨k3, g3, r3⟩ := hy v H3 yv
    have kk := kp.trans k3
    refine ⟨x, wipeD ρ vs, G, _, r3, s0.keep kk, g3, q, fun σ4 H4 ρ4 G4 w4 k4 g4 s4 q4 => ⟨?_, ρ4, G4, _, s4, g4, q4, fun b H5 G5 k5 g5 q5 => ?_⟩⟩
    · rw [w4 vs hw, wipe_wipe]
    · cases b with
      | false => exact ⟨G5, acc, g5, kk.trans (k4.trans k5), q5⟩
      | true =>
        refine ⟨ρ4, G5, _, s4.keep k5, g5, q5, fun u H6 y G6 k6 g6 r6 ⟨⟨e6, l6⟩, q6⟩ => ?_⟩
        obtain ⟨a, ha, la, k7, g7⟩ := put_one g6 e6 l6 r6
        exact ⟨a, ha, la, _, _, g7, (kk.trans (k4.trans (k5.trans k6))).trans k7, q6⟩
theorem low_lc {σ : L2.St} {H : Hp} {Q : VK} (hw : ∀ i ∈ ws, i ∈ vs) (h : lowE X.K (dLc fz wi g tt te vs) σ H Q) : tLc (lowI X.K wi) (lowH X.K ws g) (lowT X.K tt) (lowE X.K te) vs σ H Q := by
  obtain ⟨ρ, G, QD, hs, hg, ht, hf⟩ := h
  refine ⟨ρ, G, _, hs, hg, ht, fun J H1 xs G1 k1 g1 sv q1 p hp => ?_⟩
  have kp : Keep G1 H1 (gput G1 p (.lst [])) (upd H1 p (.lst [])) := Keep.put hp
  have gp : GOk X.K (gput G1 p (.lst [])) (upd H1 p (.lst [])) := g1.put hp ⟨Nat.zero_le _, [], upd_same, .nil⟩
  exact low_in hw (((hs.keep k1).keep kp).wipe vs) gp (fun G2 H2 k2 => sv G2 H2 (kp.trans k2)) (fun acc' G' H' k' g' e => lc_end ((k1.trans kp).trans k') g' hf e) (q1 p (g1.fresh hp))
theorem low_lc2 {σ : L2.St} {H : Hp} {Q : VK} (hw : ∀ i ∈ ws, i ∈ vs) (hw1 : ∀ i ∈ ws1, i ∈ vs1) (h : lowE X.K (dLc2 fz wi g tt wi1 g1 tt1 te vs vs1) σ H Q) :
    tLc2 (lowI X.K wi) (lowH X.K ws g) (lowT X.K tt) (lowI X.K wi1) (lowH X.K ws1 g1) (lowT X.K tt1) (lowE X.K te) vs vs1 σ H Q := by
  obtain ⟨ρ, G, QD, hs, hg, ht, hf⟩ := h
  refine ⟨ρ, G, _, hs, hg, ht, fun J H1 xs G1 k1 gk1 sv q1 p hp => ?_⟩
  have kp : Keep G1 H1 (gput G1 p (.lst [])) (upd H1 p (.lst [])) := Keep.put hp
  have gp : GOk X.K (gput G1 p (.lst [])) (upd H1 p (.lst [])) := gk1.put hp ⟨Nat.zero_le _, [], upd_same, .nil⟩
  have s0 := ((hs.keep k1).keep kp).wipe vs
  have q0 := q1 p (gk1.fresh hp)
  refine ⟨fun i m H' => ∃ G' rest acc, xs.drop i = rest ∧ i ≤ xs.length ∧ m = rest.length ∧ GOk X.K G' H' ∧ Keep (gput G1 p (.lst [])) (upd H1 p (.lst [])) G' H' ∧ lcOut g tt wi1 g1 tt1 te vs1 (wipeD ρ vs) p (lcEnd fz QD p) rest acc G', ⟨xs.length, _, xs, [], rfl, Nat.zero_le _, rfl, gp, Keep.refl, q0⟩, ?_⟩
  rintro i m H' ⟨G', rest, acc, hd, hle, hm, g', k', q'⟩
  cases rest with
  | nil => exact .inl ⟨(sv G' H' (kp.trans k') g' i).2 (drop_nil hd hle), lc_end ((k1.trans kp).trans k') g' hf q'⟩
  | cons x r =>
    obtain ⟨ex, er⟩ := drop_cons hd
    obtain ⟨hgo, hy⟩ := (sv G' H' (kp.trans k') g' i).1 x ex
    refine .inr ⟨hgo, fun H2 => ∃ G2 acc2, GOk X.K G2 H2 ∧ Keep (gput G1 p (.lst [])) (upd H1 p (.lst [])) G2 H2 ∧ lcOut g tt wi1 g1 tt1 te vs1 (wipeD ρ vs) p (lcEnd fz QD p) r acc2 G2, fun H2 ⟨G2, acc2, g2, k2, q2⟩ => ⟨r.length, by rw [hm]; exact Nat.lt_succ_self _, G2, r, acc2, er, some_lt ex, rfl, g2, k2, q2⟩, fun v H3 yv => ?_⟩
    obtain ⟨k3, g3, r3⟩ := hy v H3 yv
    have kk := k'.trans k3
    refine ⟨x, wipeD ρ vs, G', _, r3, s0.keep kk, g3, q', fun σ4 H4 ρ4 G4 w4 k4 g4 s4 q4 => ⟨?_, ρ4, G4, _, s4, g4, q4, fun b H5 G5 k5 g5 q5 => ?_⟩⟩
    · rw [w4 vs hw, wipe_wipe]
    · cases b with
      | false => exact ⟨G5, acc, g5, kk.trans (k4.trans k5), q5⟩
      | true =>
        refine ⟨ρ4, G5, _, s4.keep k5, g5, q5, fun J1 H6 ys G6 k6 g6 sv6 q6 => ?_⟩
        have k46 := k4.trans (k5.trans k6)
        exact low_in (σ := σ4) (ρ := ρ4) hw1 (((s4.keep k5).keep k6).wipe vs1) g6 sv6 (fun acc' G7 H7 k7 g7 e => ⟨G7, acc', g7, (kk.trans k46).trans k7, e⟩) q6
theorem xlc {scope : Scope} {own : List (Str × Nat)} (hc : X.calm = true) (hN : X.N.Nodup) (hi : XI X tg iter wi) (ok : BlkOk X.N X.env.scope scope own) (hw : ∀ i ∈ ws, i ∈ own.map (·.2))
    (hg : ∀ (s : Shared) (H : Hp) (C : Addr) (cl : List (Str × Addr)) (fp : List Addr), XH (X.blk s H scope (compEnvC scope cl C X.env) fp) ws tg g) (ht : ∀ (s : Shared) (H : Hp) (C : Addr) (cl : List (Str × Addr)) (fp : List Addr), XTs (X.blk s H scope (compEnvC scope cl C X.env) fp) ifs tt)
    (he : ∀ (s : Shared) (H : Hp) (C : Addr) (cl : List (Str × Addr)) (fp : List Addr), XE (X.blk s H scope (compEnvC scope cl C X.env) fp) elt te) (hst : ∀ x, foldedSetIterable iter X.env x = pure x := by intro _; rfl) :
    XE X (.ListComp elt [⟨tg, iter, ifs, 0⟩] scope pos) (dLc fz wi g tt te (own.map (·.2))) :=
  PE.imp (pe_lc hc hN hi ok hg ht he hst) fun σ H Q h => low_lc hw h
theorem xlc2 {scope : Scope} {own : List (Str × Nat)} (hc : X.calm = true) (hN : X.N.Nodup) (hi : XI X tg iter wi) (ok : BlkOk X.N X.env.scope scope own) (hv : ∀ i ∈ vs1, i ∈ own.map (·.2)) (hw : ∀ i ∈ ws, i ∈ own.map (·.2)) (hw1 : ∀ i ∈ ws1, i ∈ vs1)
    (hg : ∀ (s : Shared) (H : Hp) (C : Addr) (cl : List (Str × Addr)) (fp : List Addr), XH (X.blk s H scope (compEnvC scope cl C X.env) fp) ws tg g) (ht : ∀ (s : Shared) (H : Hp) (C : Addr) (cl : List (Str × Addr)) (fp : List Addr), XTs (X.blk s H scope (compEnvC scope cl C X.env) fp) ifs tt)
    (hi1 : ∀ (s : Shared) (H : Hp) (C : Addr) (cl : List (Str × Addr)) (fp : List Addr), XI (X.blk s H scope (compEnvC scope cl C X.env) fp) tg1 iter1 wi1)
    (hg1 : ∀ (s : Shared) (H : Hp) (C : Addr) (cl : List (Str × Addr)) (fp : List Addr), XH (X.blk s H scope (compEnvC scope cl C X.env) fp) ws1 tg1 g1) (ht1 : ∀ (s : Shared) (H : Hp) (C : Addr) (cl : List (Str × Addr)) (fp : List Addr), XTs (X.blk s H scope (compEnvC scope cl C X.env) fp) ifs1 tt1)
    (he : ∀ (s : Shared) (H : Hp) (C : Addr) (cl : List (Str × Addr)) (fp : List Addr), XE (X.blk s H scope (compEnvC scope cl C X.env) fp) elt te) (hst : ∀ x, foldedSetIterable iter X.env x = pure x := by intro _; rfl) (hst1 : ∀ env x, foldedSetIterable iter1 env x = pure x := by intro _ _; rfl) :
    XE X (.ListComp elt [⟨tg, iter, ifs, 0⟩, ⟨tg1, iter1, ifs1, 0⟩] scope pos) (dLc2 fz wi g tt wi1 g1 tt1 te (own.map (·.2)) vs1) :=
  PE.imp (pe_lc2 hc hN hi ok hv hg ht hi1 hg1 ht1 he hst hst1) fun σ H Q h => low_lc2 hw hw1 h
/-- name = [..] -/
theorem xs_setLc {scope : Scope} {own : List (Str × Nat)} (i : Nat) {y : Str} {py spos : Pos} (hc : X.calm = true) (hN : X.N.Nodup) (hi : XI X tg iter wi) (ok : BlkOk X.N X.env.scope scope own) (hw : ∀ i ∈ ws, i ∈ own.map (·.2))
    (hg : ∀ (s : Shared) (H : Hp) (C : Addr) (cl : List (Str × Addr)) (fp : List Addr), XH (X.blk s H scope (compEnvC scope cl C X.env) fp) ws tg g) (ht : ∀ (s : Shared) (H : Hp) (C : Addr) (cl : List (Str × Addr)) (fp : List Addr), XTs (X.blk s H scope (compEnvC scope cl C X.env) fp) ifs tt)
    (he : ∀ (s : Shared) (H : Hp) (C : Addr) (cl : List (Str × Addr)) (fp : List Addr), XE (X.blk s H scope (compEnvC scope cl C X.env) fp) elt te)
    (hsw : swapsWith (.ListComp elt [⟨tg, iter, ifs, 0⟩] scope pos) (some (.Name y py)) spos.line X.env = pure true := by rfl) (hy : X.N[i]? = some y := by rfl) (hyl : X.env.scope.names.lookup y = some .local := by rfl) (hst : ∀ x, foldedSetIterable iter X.env x = pure x := by intro _; rfl) :
    XS X (.Assign [.Name y py] (.ListComp elt [⟨tg, iter, ifs, 0⟩] scope pos) spos) (dAsg (dLc fz wi g tt te (own.map (·.2))) (gNm i)) :=
  PS.imp (ps_setLc hc hN hy hyl hsw hi ok hg ht he hst) fun E σ H ⟨ρ, G, DD, hs, hgk, ht', hf⟩ =>
    low_lc hw ⟨ρ, G, _, hs, hgk, ht', fun v H1 d G1 k1 g1 r1 q1 => hf.nx _ H1 _ G1 k1 g1 ((hs.keep k1).set r1 i) q1⟩
end
/-! ### dicts -/
def putKD (ks : List (Key × D)) (k : Key) (d : D) : List (Key × D) :=
  if (ks.any fun p => decide (p.1 = k)) = true then ks.map (fun p => if p.1 = k then (p.1, d) else p) else ks ++ [(k, d)]
def valKD : List (Key × D) → Key → Option D
  | [], _ => none
  | p :: r, k => if p.1 = k then some p.2 else valKD r k
section
variable {K : PySem.W.Frag} {G : GH} {H : Hp}
theorem RpK.any (k : Key) : ∀ {ks : List (Key × D)} {kv : List (Key × V)}, RpK K G H ks kv → (kv.any fun p => decide (p.1 = k)) = ks.any fun p => decide (p.1 = k)
  | _, _, .nil => rfl
  | _, _, .cons _ t => by
    rw [List.any_cons, List.any_cons, t.any k]
theorem RpK.append : ∀ {ks ls : List (Key × D)} {kv lv : List (Key × V)}, RpK K G H ks kv → RpK K G H ls lv → RpK K G H (ks ++ ls) (kv ++ lv)
  | _, _, _, _, .nil, s => s
  | _, _, _, _, .cons r t, s => .cons r (t.append s)
theorem RpK.mapSet {k : Key} {d : D} {v : V} (r : Rp K G H d v) : ∀ {ks : List (Key × D)} {kv : List (Key × V)}, RpK K G H ks kv → RpK K G H (ks.map fun p => if p.1 = k then (p.1, d) else p) (kv.map fun p => if p.1 = k then (p.1, v) else p)
  | _, _, .nil => .nil
  | _, _, @RpK.cons _ _ _ k' d' v' _ _ q t => by
    rw [List.map_cons, List.map_cons]
    by_cases e : k' = k
    · rw [if_pos (show (k', d').1 = k from e), if_pos (show (k', v').1 = k from e)]
      exact .cons r (t.mapSet r)
    · rw [if_neg (show ¬ (k', d').1 = k from e), if_neg (show ¬ (k', v').1 = k from e)]
      exact .cons q (t.mapSet r)
theorem RpK.put {k : Key} {d : D} {v : V} {ks : List (Key × D)} {kv : List (Key × V)} (h : RpK K G H ks kv) (r : Rp K G H d v) : RpK K G H (putKD ks k d) (putK kv k v) := by
  unfold putKD putK
  rw [h.any k]
  split
  · exact h.mapSet r
  · exact h.append (.cons r .nil)
theorem RpK.val (k : Key) : ∀ {ks : List (Key × D)} {kv : List (Key × V)}, RpK K G H ks kv → (∀ d, valKD ks k = some d → ∃ v, valV kv k = some v ∧ Rp K G H d v) ∧ (valKD ks k = none → valV kv k = none)
  | _, _, .nil => ⟨fun d h => (nomatch h), fun _ => rfl⟩
  | _, _, @RpK.cons _ _ _ k' d' v' ds vs q t => by
    by_cases e : k' = k
    · rw [valV_pos (p := (k', v')) e]
      refine ⟨fun d h => ?_, fun h => ?_⟩
      · have h' : (if k' = k then some d' else valKD ds k) = some d := h
        rw [if_pos e] at h'
        cases h'
        exact ⟨_, rfl, q⟩
      · have h' : (if k' = k then some d' else valKD ds k) = none := h
        rw [if_pos e] at h'
        cases h'
    · rw [valV_neg (p := (k', v')) e]
      have e2 : valKD ((k', d') :: ds) k = valKD ds k := if_neg e
      rw [e2]
      exact t.val k
theorem putKD_len (ks : List (Key × D)) (k : Key) (d : D) : (putKD ks k d).length ≤ ks.length + 1 := by
  unfold putKD
  split
  · rw [List.length_map]; exact Nat.le_succ _
  · rw [List.length_append]; exact Nat.le_refl _
theorem cell_dct {p : Addr} {ks : List (Key × D)} (g : GOk K G H) (h : G p = some (.dct ks)) : ks.length ≤ sizeLine ∧ ∃ kv, H p = some (.dK kv) ∧ RpK K G H ks kv := g p _ h
theorem put_key {p : Addr} {ks : List (Key × D)} {k : Key} {y : D} {v : V} (g : GOk K G H) (h : G p = some (.dct ks)) (l : ks.length < sizeLine) (r : Rp K G H y v) :
    ∃ kv, H p = some (.dK kv) ∧ kv.length < sizeLine ∧ Keep G H (gput G p (.dct (putKD ks k y))) (upd H p (.dK (putK kv k v))) ∧ GOk K (gput G p (.dct (putKD ks k y))) (upd H p (.dK (putK kv k v))) := by
  obtain ⟨_, kv, hv, rl⟩ := cell_dct g h
  have kp : Keep G H (gput G p (.dct (putKD ks k y))) (upd H p (.dK (putK kv k v))) := Keep.set h
  exact ⟨kv, hv, by rw [← rl.length]; exact l, kp, g.set h ⟨Nat.le_trans (putKD_len ks k y) l, _, upd_same, (rl.put r).keep kp⟩⟩
/-- a followed dict, locked, is followed no more -/
theorem Keep.lockD {p : Addr} {c : DO} {o : HO} (h : G p = some c) : Keep G H (gdel G p) (upd H p o) := fun b u gb hb => by
  have n : b ≠ p := fun e => by
    rw [e, h] at gb
    cases gb
  rw [gdel_ne n, upd_ne n]
  exact ⟨gb, hb⟩
theorem GOk.lockD {p : Addr} {c : DO} {o : HO} (g : GOk K G H) (h : G p = some c) : GOk K (gdel G p) (upd H p o) := fun b u e => by
  by_cases hb : b = p
  · rw [hb, gdel_same] at e
    cases e
  · rw [gdel_ne hb] at e
    exact (g b u e).keep (Keep.lockD h) (by rw [upd_ne hb])
end
theorem pe_frz {X : Cx} {e : Expr} {t : TE} (h : PE X e t) : PE X e (fun σ H Q => t σ H fun x H1 => Q x H1 ∨ ∃ d kv, x = .ref d ∧ H1 d = some (.dK kv) ∧ ∀ od, Q x (upd H1 d (.frz od (.dK kv)))) := by
  constructor
  intro pins s σ H Q I w
  refine thn (h.run pins s σ H _ I w) fun v s1 ⟨x, H1, I1, r, q⟩ => ?_
  rcases q with q | ⟨d, kv, rfl, e2, q⟩
  · exact ⟨x, H1, I1, r, q⟩
  · obtain ⟨od, I2⟩ := I1.lock e2 trivial
    exact ⟨_, _, I2, r, q od⟩
def keyOf : D → Option Key
  | .int i => some (.inl i)
  | .str x => some (.inr x)
  | _ => none
theorem keyOf_rp {K : PySem.W.Frag} {G : GH} {H : Hp} {d : D} {v : V} {k : Key} (r : Rp K G H d v) (h : keyOf d = some k) : v = kV k := by
  cases r <;> first | cases h | skip
  · rfl
  · rfl
def onY (o : Option Key) (k : Key → Prop) : Prop := match o with
  | some d => k d
  | none => False
theorem onY_some {o : Option Key} {k : Key → Prop} (h : onY o k) : ∃ d, o = some d ∧ k d := by
  cases o with
  | none => exact h.elim
  | some d => exact ⟨d, rfl, h⟩
def dcIn (g : DTG) (tt : DTT) (tk tv : DTE) (ρ : Dt) (p : Addr) (k : List (Key × D) → GH → Prop) : List D → List (Key × D) → GH → Prop
  | [], acc, G => k acc G
  | x :: r, acc, G => g x ρ G fun ρ2 G2 => tt ρ2 G2 fun b G3 =>
    if b = true then tk ρ2 G3 fun y G4 => tv ρ2 G4 fun z G5 => onY (keyOf y) fun q => (G5 p = some (.dct acc) ∧ acc.length < sizeLine) ∧ dcIn g tt tk tv ρ p k r (putKD acc q z) (gput G5 p (.dct (putKD acc q z))) else dcIn g tt tk tv ρ p k r acc G3
def dcEnd (fz : Bool) (Q : DE) (p : Addr) (acc : List (Key × D)) (G : GH) : Prop := G p = some (.dct acc) ∧ match fz with
  | true => Q (.dct acc) (gdel G p)
  | false => Q (.ref p) G
def dDc (fz : Bool) (wi : DTA) (g : DTG) (tt : DTT) (tk tv : DTE) (vs : List Nat) : DTE := fun ρ G Q => wi ρ G fun xs G1 => ∀ p, G1 p = none →
  dcIn g tt tk tv (wipeD ρ vs) p (dcEnd fz Q p) xs [] (gput G1 p (.dct []))
theorem dc_end {K : PySem.W.Frag} {G G1 : GH} {H H1 : Hp} {p : Addr} {acc : List (Key × D)} {fz : Bool} {QD : DE} {Q : VK} (k : Keep G1 H1 G H) (g : GOk K G H) (hq : Fin K G1 H1 QD Q) (h : dcEnd fz QD p acc G) :
    Q (.ref p) H ∨ ∃ d kv, V.ref p = .ref d ∧ H d = some (.dK kv) ∧ ∀ od, Q (.ref p) (upd H d (.frz od (.dK kv))) := by
  obtain ⟨e, h⟩ := h
  obtain ⟨z, kv, hv, rl⟩ := cell_dct g e
  cases fz with
  | true => exact .inr ⟨p, kv, rfl, hv, fun od => hq _ _ _ _ (k.trans (Keep.lockD e)) (g.lockD e) (.dct gdel_same upd_same z (rl.keep (Keep.lockD e))) h⟩
  | false => exact .inl (hq _ H _ G k g (.ref p) h)
section
variable {X : Cx} {kx vx tg iter : Expr} {ifs : List Expr} {pos : Pos} {wi : DTA} {g : DTG} {tt : DTT} {tk tv : DTE} {ws vs : List Nat} {fz : Bool}
theorem low_dcIn {σ : L2.St} {ρ : Dt} {G1 : GH} {H1 : Hp} {p : Addr} {k : List (Key × D) → GH → Prop} {Fi : Hp → Prop} {J : It} {xs : List D} {acc : List (Key × D)} (hw : ∀ i ∈ ws, i ∈ vs) (s0 : RpS X.K G1 H1 (wipeD ρ vs) (L2.wipe σ vs)) (g0 : GOk X.K G1 H1)
    (sv : Serves X.K J G1 H1 xs) (hk : ∀ acc' G' H', Keep G1 H1 G' H' → GOk X.K G' H' → k acc' G' → Fi H') (q0 : dcIn g tt tk tv (wipeD ρ vs) p k xs acc G1) :
    ∃ W : Nat → Nat → Hp → Prop, (∃ m, W 0 m H1) ∧ ∀ i m H, W i m H → (J.stop i H ∧ Fi H) ∨ (J.go i H ∧ ∃ Nx : Hp → Prop, (∀ H', Nx H' → ∃ m', m' < m ∧ W (i + 1) m' H') ∧ ∀ x H', J.yld i H x H' → lowH X.K ws g x (L2.wipe σ vs) H' fun σ2 H2 => L2.wipe σ2 vs = L2.wipe σ vs ∧ lowT X.K tt σ2 H2 fun b H3 =>
      if b = true then lowE X.K tk σ2 H3 fun y H4 => lowE X.K tv σ2 H4 fun z H5 => ∃ kvs k, y = kV k ∧ H5 p = some (.dK kvs) ∧ kvs.length < sizeLine ∧ Nx (upd H5 p (.dK (putK kvs k z))) else Nx H3) := by
  refine ⟨fun i m H' => ∃ G' rest acc, xs.drop i = rest ∧ i ≤ xs.length ∧ m = rest.length ∧ GOk X.K G' H' ∧ Keep G1 H1 G' H' ∧ dcIn g tt tk tv (wipeD ρ vs) p k rest acc G', ⟨xs.length, _, xs, acc, rfl, Nat.zero_le _, rfl, g0, Keep.refl, q0⟩, ?_⟩
  rintro i m H' ⟨G', rest, acc, hd, hle, hm, g', k', q'⟩
  cases rest with
  | nil => exact .inl ⟨(sv G' H' k' g' i).2 (drop_nil hd hle), hk acc G' H' k' g' q'⟩
  | cons x r =>
    obtain ⟨ex, er⟩ := drop_cons hd
    obtain ⟨hgo, hy⟩ := (sv G' H' k' g' i).1 x ex
    refine .inr ⟨hgo, fun H2 => ∃ G2 acc2, GOk X.K G2 H2 ∧ Keep G1 H1 G2 H2 ∧ dcIn g tt tk tv (wipeD ρ vs) p k r acc2 G2, fun H2 ⟨G2, acc2, g2, k2, q2⟩ => ⟨r.length, by rw [hm]; exact Nat.lt_succ_self _, G2, r, acc2, er, some_lt ex, rfl, g2, k2, q2⟩, fun v H3 yv => ?_⟩
    obtain ⟨k3, g3, r3⟩ := hy v H3 yv
    have kk := k'.trans k3
    refine ⟨x, wipeD ρ vs, G', _, r3, s0.keep kk, g3, q', fun σ4 H4 ρ4 G4 w4 k4 g4 s4 q4 => ⟨?_, ρ4, G4, _, s4, g4, q4, fun b H5 G5 k5 g5 q5 => ?_⟩⟩
    · rw [w4 vs hw, wipe_wipe]
    · cases b with
      | false => exact ⟨G5, acc, g5, kk.trans (k4.trans k5), q5⟩
      | true =>
        refine ⟨ρ4, G5, _, s4.keep k5, g5, q5, fun u H6 y G6 k6 g6 r6 q6 => ⟨ρ4, G6, _, (s4.keep k5).keep k6, g6, q6, fun u2 H7 z G7 k7 g7 r7 q7 => ?_⟩⟩
        obtain ⟨q, eq, ⟨e7, l7⟩, q7⟩ := onY_some q7
        obtain ⟨a, ha, la, k8, g8⟩ := put_key (k := q) g7 e7 l7 r7
        exact ⟨a, q, keyOf_rp r6 eq, ha, la, _, _, g8, (kk.trans (k4.trans (k5.trans (k6.trans k7)))).trans k8, q7⟩
theorem low_dc {σ : L2.St} {H : Hp} {Q : VK} (hw : ∀ i ∈ ws, i ∈ vs) (h : lowE X.K (dDc fz wi g tt tk tv vs) σ H Q) :
    tDc (lowI X.K wi) (lowH X.K ws g) (lowT X.K tt) (lowE X.K tk) (lowE X.K tv) vs σ H (fun x H1 => Q x H1 ∨ ∃ d kv, x = .ref d ∧ H1 d = some (.dK kv) ∧ ∀ od, Q x (upd H1 d (.frz od (.dK kv)))) := by
  obtain ⟨ρ, G, QD, hs, hg, ht, hf⟩ := h
  refine ⟨ρ, G, _, hs, hg, ht, fun J H1 xs G1 k1 gk1 sv q1 p hp => ?_⟩
  have kp : Keep G1 H1 (gput G1 p (.dct [])) (upd H1 p (.dK [])) := Keep.put hp
  have gp : GOk X.K (gput G1 p (.dct [])) (upd H1 p (.dK [])) := gk1.put hp ⟨Nat.zero_le _, [], upd_same, .nil⟩
  exact low_dcIn hw (((hs.keep k1).keep kp).wipe vs) gp (fun G2 H2 k2 => sv G2 H2 (kp.trans k2)) (fun acc' G' H' k' g' e => dc_end ((k1.trans kp).trans k') g' hf e) (q1 p (gk1.fresh hp))
theorem low_dcT {σ : L2.St} {H : Hp} {Q : VK} (hw : ∀ i ∈ ws, i ∈ vs) (h : lowE X.K (dDc false wi g tt tk tv vs) σ H Q) :
    tDc (lowI X.K wi) (lowH X.K ws g) (lowT X.K tt) (lowE X.K tk) (lowE X.K tv) vs σ H Q := by
  obtain ⟨ρ, G, QD, hs, hg, ht, hf⟩ := h
  refine ⟨ρ, G, _, hs, hg, ht, fun J H1 xs G1 k1 gk1 sv q1 p hp => ?_⟩
  have kp : Keep G1 H1 (gput G1 p (.dct [])) (upd H1 p (.dK [])) := Keep.put hp
  have gp : GOk X.K (gput G1 p (.dct [])) (upd H1 p (.dK [])) := gk1.put hp ⟨Nat.zero_le _, [], upd_same, .nil⟩
  exact low_dcIn hw (((hs.keep k1).keep kp).wipe vs) gp (fun G2 H2 k2 => sv G2 H2 (kp.trans k2)) (fun acc' G' H' k' g' e => hf _ H' _ G' ((k1.trans kp).trans k') g' (.ref p) e.2) (q1 p (gk1.fresh hp))
theorem xdc {scope : Scope} {own : List (Str × Nat)} (hc : X.calm = true) (hN : X.N.Nodup) (hi : XI X tg iter wi) (ok : BlkOk X.N X.env.scope scope own) (hw : ∀ i ∈ ws, i ∈ own.map (·.2))
    (hg : ∀ (s : Shared) (H : Hp) (C : Addr) (cl : List (Str × Addr)) (fp : List Addr), XH (X.blk s H scope (compEnvC scope cl C X.env) fp) ws tg g) (ht : ∀ (s : Shared) (H : Hp) (C : Addr) (cl : List (Str × Addr)) (fp : List Addr), XTs (X.blk s H scope (compEnvC scope cl C X.env) fp) ifs tt)
    (hk : ∀ (s : Shared) (H : Hp) (C : Addr) (cl : List (Str × Addr)) (fp : List Addr), XE (X.blk s H scope (compEnvC scope cl C X.env) fp) kx tk)
    (he : ∀ (s : Shared) (H : Hp) (C : Addr) (cl : List (Str × Addr)) (fp : List Addr), XE (X.blk s H scope (compEnvC scope cl C X.env) fp) vx tv) (hst : ∀ x, foldedSetIterable iter X.env x = pure x := by intro _; rfl) :
    XE X (.DictComp kx vx [⟨tg, iter, ifs, 0⟩] scope pos) (dDc fz wi g tt tk tv (own.map (·.2))) :=
  PE.imp (pe_frz (pe_dc hc hN hi ok hg ht hk he hst)) fun σ H Q h => low_dc hw h
end
/-- d.items() of a followed dict, which is locked -/
def dItemsT (t : DTE) : DTE := fun ρ G Q => t ρ G fun d G1 => match d with
  | .ref a => (match G1 a with
    | some (.dct ks) => Q (.dct ks) (gdel G1 a)
    | _ => False)
  | _ => False
/-- a followed dict, locked from here on -/
theorem xlock {X : Cx} {e : Expr} {t : DTE} (h : XE X e t) : XE X e (dItemsT t) :=
  PE.imp (pe_frz h) fun σ H Q ⟨ρ, G, QD, hs, hg, ht, hf⟩ => ⟨ρ, G, _, hs, hg, ht, fun v H1 d G1 k1 g1 r1 q1 => by
    cases d <;> first | exact q1.elim | skip
    rename_i a
    cases r1
    cases e : G1 a with
    | none => simp only [e] at q1
    | some c =>
      simp only [e] at q1
      cases c <;> first | exact q1.elim | skip
      obtain ⟨z, kv, hv, rl⟩ := cell_dct g1 e
      exact .inr ⟨a, kv, rfl, hv, fun od => hf _ _ _ _ (k1.trans (Keep.lockD e)) (g1.lockD e) (.dct gdel_same upd_same z (rl.keep (Keep.lockD e))) q1⟩⟩
end DL
set_option Elab.async false
set_option linter.all false
set_option maxRecDepth 100000
set_option maxHeartbeats 2000000
/-! The D layer: dicts, lists that are changed, slices, instances, calls. -/
namespace DL
open PySem PySem.Spec PyProof.Rows L2
/-! ### dicts read -/
def dctOf (d : D) (G : GH) : Option (List (Key × D)) := match d with
  | .dct ks => some ks
  | .ref a => (match G a with
    | some (.dct ks) => some ks
    | _ => none)
  | _ => none
def onKs (o : Option (List (Key × D))) (k : List (Key × D) → Prop) : Prop := match o with
  | some d => k d
  | none => False
theorem onKs_some {o : Option (List (Key × D))} {k : List (Key × D) → Prop} (h : onKs o k) : ∃ d, o = some d ∧ k d := by
  cases o with
  | none => exact h.elim
  | some d => exact ⟨d, rfl, h⟩
theorem dct_at {K : PySem.W.Frag} {G : GH} {H : Hp} {d : D} {v : V} {ks : List (Key × D)} (g : GOk K G H) (r : Rp K G H d v) (h : dctOf d G = some ks) : ∃ a kv, v = .ref a ∧ Rd H a (.dK kv) ∧ ks.length ≤ sizeLine ∧ RpK K G H ks kv := by
  cases r <;> first | cases h | skip
  · rename_i a
    have h1 : (match G a with
      | some (.dct ks) => some ks
      | _ => none) = some ks := h
    cases e : G a with
    | none => rw [e] at h1; cases h1
    | some c =>
      rw [e] at h1
      cases c <;> first | cases h1 | skip
      obtain ⟨z, kv, hv, rl⟩ := cell_dct g e
      exact ⟨a, kv, rfl, .inl hv, z, rl⟩
  · rename_i a od kv ga ha z l
    exact ⟨a, kv, rfl, .inr ⟨od, ha⟩, z, l⟩
def dDGet (t u : DTE) : DTE := fun ρ G Q => t ρ G fun d G1 => u ρ G1 fun y G2 => onKs (dctOf d G2) fun ks => onY (keyOf y) fun q => onD (valKD ks q) fun e => Q e G2
def dDGet2 (t u w : DTE) : DTE := fun ρ G Q => t ρ G fun d G1 => onKs (dctOf d G1) fun _ => u ρ G1 fun y G2 => w ρ G2 fun z G3 => onKs (dctOf d G3) fun ks => onY (keyOf y) fun q => Q ((valKD ks q).getD z) G3
section
variable {X : Cx} {o i e f tg : Expr} {pos apos cpos p p2 : Pos} {t u w : DTE}
theorem xdget (hu : X.A.units + 1 < cLine) (ho : XE X o t) (hi : XE X i u) (hs : NoSl i := by intro _ _; rfl) : XE X (.Subscript o i pos) (dDGet t u) :=
  PE.imp (pe_dget hu ho hi hs) fun σ H Q ⟨ρ, G, QD, hs, hg, ht, hf⟩ => ⟨ρ, G, _, hs, hg, ht, fun v H1 d G1 k1 g1 r1 q1 => ⟨ρ, G1, _, hs.keep k1, g1, q1, fun v2 H2 y G2 k2 g2 r2 q2 => by
    obtain ⟨ks, e1, q⟩ := onKs_some q2
    obtain ⟨k, e2, q⟩ := onY_some q
    obtain ⟨e, e3, q⟩ := onD_some q
    obtain ⟨a, kv, rfl, rd, z, rl⟩ := dct_at g2 (r1.keep k2) e1
    obtain ⟨x, ex, rx⟩ := (rl.val k).1 e e3
    exact ⟨a, x, rfl, .inl ⟨kv, k, rd, keyOf_rp r2 e2, ex.symm⟩, hf _ H2 _ G2 (k1.trans k2) g2 rx q⟩⟩⟩
theorem xdget2 (hu : X.A.units + 1 < cLine) (ho : XE X o t) (he : XE X e u) (hf : XE X f w) (m : M2 X o "get" apos e f cpos := by exact ⟨rfl, rfl, rfl, rfl⟩) : XE X (.Call (.Attribute o "get" apos) [e, f] [] cpos) (dDGet2 t u w) :=
  PE.imp (pe_dget2 hu ho he hf m) fun σ H Q ⟨ρ, G, QD, hs, hg, ht, hq⟩ => ⟨ρ, G, _, hs, hg, ht, fun v H1 d G1 k1 g1 r1 q1 => by
    obtain ⟨ks0, e0, q0⟩ := onKs_some q1
    obtain ⟨a, kv0, rfl, rd0, _, _⟩ := dct_at g1 r1 e0
    refine ⟨a, rfl, .inl ⟨kv0, rd0⟩, ρ, G1, _, hs.keep k1, g1, q0, fun v2 H2 y G2 k2 g2 r2 q2 => ⟨ρ, G2, _, (hs.keep k1).keep k2, g2, q2, fun v3 H3 z G3 k3 g3 r3 q3 => ?_⟩⟩
    obtain ⟨ks, e1, q⟩ := onKs_some q3
    obtain ⟨k, e2, q⟩ := onY_some q
    obtain ⟨b, kv, eb, rd, _, rl⟩ := dct_at g3 (r1.keep (k2.trans k3)) e1
    cases eb
    refine ⟨valV kv k, .inl ⟨kv, k, rd, keyOf_rp r2 e2, rfl⟩, ?_⟩
    have kk := k1.trans (k2.trans k3)
    cases ev : valKD ks k with
    | none =>
      rw [ev] at q
      rw [(rl.val k).2 ev]
      exact hq _ H3 _ G3 kk g3 r3 q
    | some c =>
      rw [ev] at q
      obtain ⟨x, ex, rx⟩ := (rl.val k).1 c ev
      rw [ex]
      exact hq _ H3 _ G3 kk g3 rx q⟩
/-! ### o[i] = v -/
def onN (o : Option Nat) (k : Nat → Prop) : Prop := match o with
  | some d => k d
  | none => False
theorem onN_some {o : Option Nat} {k : Nat → Prop} (h : onN o k) : ∃ d, o = some d ∧ k d := by
  cases o with
  | none => exact h.elim
  | some d => exact ⟨d, rfl, h⟩
def gSubL (t u : DTE) : DTG := fun v ρ G Q => t ρ G fun d G1 => u ρ G1 fun y G2 => match d, y with
  | .ref a, .int i => (match G2 a with
    | some (.lst ds) => onN (ixN ds.length i) fun j => Q ρ (gput G2 a (.lst (ds.set j v)))
    | _ => False)
  | _, _ => False
def gSubD (t u : DTE) : DTG := fun v ρ G Q => t ρ G fun d G1 => u ρ G1 fun y G2 => match d with
  | .ref a => (match G2 a with
    | some (.dct ks) => onY (keyOf y) fun q => ks.length < sizeLine ∧ Q ρ (gput G2 a (.dct (putKD ks q v)))
    | _ => False)
  | _ => False
theorem xh_subL (ho : XE X o t) (hi : XE X i u) (ha : ∀ v, assign (.Subscript o i pos) X.env v = (do
      let ov ← holding [v] (eval o X.env)
      let iv ← holding [v, ov] (eval i X.env)
      standAt pos
      holding [v, ov, iv] (setItem ov iv v)
      release [v, ov, iv] []) := by intro _; rfl) : XH X [] (.Subscript o i pos) (gSubL t u) :=
  PG.imp (pg_sub ho hi set_list ha) fun v σ H Q ⟨x, ρ, G, QD, hr, hs, hg, ht, hq⟩ => ⟨ρ, G, _, hs, hg, ht, fun v1 H1 d G1 k1 g1 r1 q1 => ⟨ρ, G1, _, hs.keep k1, g1, q1, fun v2 H2 y G2 k2 g2 r2 q2 => by
    cases d <;> first | exact q2.elim | skip
    cases y <;> first | exact q2.elim | skip
    rename_i a j
    cases r1
    cases r2
    cases e : G2 a with
    | none => simp only [e] at q2
    | some c =>
      simp only [e] at q2
      cases c <;> first | exact q2.elim | skip
      rename_i ds
      obtain ⟨n, en, q⟩ := onN_some q2
      obtain ⟨z, vs, hv, rl⟩ := cell_lst g2 e
      have kp : Keep G2 H2 (gput G2 a (.lst (ds.set n x))) (upd H2 a (.lst (vs.set n v))) := Keep.set e
      have gk := g2.set (c' := .lst (ds.set n x)) e ⟨by rw [List.length_set]; exact z, vs.set n v, upd_same, ((rl.set (hr.keep (k1.trans k2)) n).keep kp)⟩
      exact ⟨a, vs, j, n, rfl, rfl, hv, by rw [← rl.length]; exact en, hq σ _ ρ _ Wr.refl ((k1.trans k2).trans kp) gk (hs.keep ((k1.trans k2).trans kp)) q⟩⟩⟩
theorem xh_subD (hu : X.A.units + 1 < cLine) (ho : XE X o t) (hi : XE X i u) (ha : ∀ v, assign (.Subscript o i pos) X.env v = (do
      let ov ← holding [v] (eval o X.env)
      let iv ← holding [v, ov] (eval i X.env)
      standAt pos
      holding [v, ov, iv] (setItem ov iv v)
      release [v, ov, iv] []) := by intro _; rfl) : XH X [] (.Subscript o i pos) (gSubD t u) :=
  PG.imp (pg_sub ho hi (set_dict hu) ha) fun v σ H Q ⟨x, ρ, G, QD, hr, hs, hg, ht, hq⟩ => ⟨ρ, G, _, hs, hg, ht, fun v1 H1 d G1 k1 g1 r1 q1 => ⟨ρ, G1, _, hs.keep k1, g1, q1, fun v2 H2 y G2 k2 g2 r2 q2 => by
    cases d <;> first | exact q2.elim | skip
    rename_i a
    cases r1
    cases e : G2 a with
    | none => simp only [e] at q2
    | some c =>
      simp only [e] at q2
      cases c <;> first | exact q2.elim | skip
      obtain ⟨k, ek, l, q⟩ := onY_some q2
      obtain ⟨kv, hv, lv, kp, gk⟩ := put_key (k := k) g2 e l (hr.keep (k1.trans k2))
      exact ⟨a, _, rfl, .inl ⟨kv, k, hv, keyOf_rp r2 ek, lv, rfl⟩, hq σ _ ρ _ Wr.refl ((k1.trans k2).trans kp) gk (hs.keep ((k1.trans k2).trans kp)) q⟩⟩⟩
/-! ### append, pop(i) -/
def IsLst (d : D) (G : GH) : Prop := match d with
  | .ref a => (match G a with
    | some (.lst _) => True
    | _ => False)
  | _ => False
def dApp (t : DTE) (u : DTA) : DTE := fun ρ G Q => t ρ G fun d G1 => IsLst d G1 ∧ u ρ G1 fun ys G2 => match d, ys with
  | .ref a, [y] => (match G2 a with
    | some (.lst ds) => ds.length < sizeLine ∧ Q .non (gput G2 a (.lst (ds ++ [y])))
    | _ => False)
  | _, _ => False
def dPopAt (t : DTE) (u : DTA) : DTE := fun ρ G Q => t ρ G fun d G1 => IsLst d G1 ∧ u ρ G1 fun ys G2 => match d, ys with
  | .ref a, [.int i] => (match G2 a with
    | some (.lst ds) => (0 ≤ i ∧ i < ds.length) ∧ onD (nthL ds i.toNat) fun y => Q y (gput G2 a (.lst (ds.eraseIdx i.toNat)))
    | _ => False)
  | _, _ => False
theorem is_lst {K : PySem.W.Frag} {G : GH} {H : Hp} {d : D} {v : V} (g : GOk K G H) (r : Rp K G H d v) (h : IsLst d G) : ∃ a ds, d = .ref a ∧ v = .ref a ∧ G a = some (.lst ds) := by
  cases d <;> first | exact h.elim | skip
  rename_i a
  cases r
  have h1 : (match G a with
    | some (.lst _) => True
    | _ => False) := h
  cases e : G a with
  | none => simp only [e] at h1
  | some c =>
    simp only [e] at h1
    cases c <;> first | exact h1.elim | skip
    exact ⟨a, _, rfl, rfl, e⟩
variable {ta : DTA}
theorem xapp (ho : XE X o t) (ha : XA X [e] ta) (hbase : attributeBase o "append" X.env (eval o X.env) = eval o X.env := by rfl)
    (hfew : ((backTo cpos (starEach [e] X.env)).all (fun x => !x.1) && (backToKw cpos (keywordEach [] X.env)).all (fun x => x.1.isSome)
      && decide ([e].length + ([] : List Keyword).length + (if ([] : List Keyword).isEmpty then 0 else 1) < 30)) = true := by rfl)
    (hline : (apos.endLine == cpos.line) = true := by rfl) (hs : starEach [e] X.env = (false, eval e X.env) :: starEach [] X.env := by rfl) (hplain : (backTo cpos (starEach [] X.env)).any (·.1) = false := by rfl) : XE X (.Call (.Attribute o "append" apos) [e] [] cpos) (dApp t ta) :=
  PE.imp (pe_bm PySem.F.plainAttrs_list PySem.F.slot_list_append PySem.F.type_list_append mt_append ho ha hbase hfew hline hs hplain) fun σ H Q ⟨ρ, G, QD, hs, hg, ht, hq⟩ => ⟨ρ, G, _, hs, hg, ht, fun v H1 d G1 k1 g1 r1 q1 => by
    obtain ⟨il, q1⟩ := q1
    obtain ⟨a, ds0, rfl, rfl, e0⟩ := is_lst g1 r1 il
    obtain ⟨_, vs0, hv0, _⟩ := cell_lst g1 e0
    refine ⟨.inl ⟨rfl, vs0, .inl (.inl hv0)⟩, ρ, G1, _, hs.keep k1, g1, q1, fun vs H2 ys G2 k2 g2 r2 q2 => ?_⟩
    match ys, r2, q2 with
    | [y], .cons ry .nil, q2 =>
      cases e2 : G2 a with
      | none => simp only [e2] at q2
      | some c =>
        simp only [e2] at q2
        cases c <;> first | exact q2.elim | skip
        obtain ⟨us, hu, lu, kp, gk⟩ := put_one g2 e2 q2.1 ry
        exact ⟨a, us, _, rfl, rfl, hu, lu, hq _ _ _ _ ((k1.trans k2).trans kp) gk .non q2.2⟩⟩
theorem seqIx {n : Nat} {i : Int} (h0 : 0 ≤ i) (h1 : i < n) : seqIndex? i n = some i.toNat := by
  unfold seqIndex?
  have a : ¬ i < 0 := by omega
  simp only [if_neg a]
  rw [if_pos]
  simp
  omega
theorem xpopAt (ho : XE X o t) (ha : XA X [e] ta) (hbase : attributeBase o "pop" X.env (eval o X.env) = eval o X.env := by rfl)
    (hfew : ((backTo cpos (starEach [e] X.env)).all (fun x => !x.1) && (backToKw cpos (keywordEach [] X.env)).all (fun x => x.1.isSome)
      && decide ([e].length + ([] : List Keyword).length + (if ([] : List Keyword).isEmpty then 0 else 1) < 30)) = true := by rfl)
    (hline : (apos.endLine == cpos.line) = true := by rfl) (hs : starEach [e] X.env = (false, eval e X.env) :: starEach [] X.env := by rfl) (hplain : (backTo cpos (starEach [] X.env)).any (·.1) = false := by rfl) : XE X (.Call (.Attribute o "pop" apos) [e] [] cpos) (dPopAt t ta) :=
  PE.imp (pe_bm PySem.F.plainAttrs_list PySem.F.slot_list_pop PySem.F.type_list_pop mt_popAt ho ha hbase hfew hline hs hplain) fun σ H Q ⟨ρ, G, QD, hs, hg, ht, hq⟩ => ⟨ρ, G, _, hs, hg, ht, fun v H1 d G1 k1 g1 r1 q1 => by
    obtain ⟨il, q1⟩ := q1
    obtain ⟨a, ds0, rfl, rfl, e0⟩ := is_lst g1 r1 il
    obtain ⟨_, vs0, hv0, _⟩ := cell_lst g1 e0
    refine ⟨.inl ⟨rfl, vs0, .inl (.inl hv0)⟩, ρ, G1, _, hs.keep k1, g1, q1, fun vs H2 ys G2 k2 g2 r2 q2 => ?_⟩
    match ys, r2, q2 with
    | [.int i], .cons (.int _) .nil, q2 =>
      cases e2 : G2 a with
      | none => simp only [e2] at q2
      | some c =>
        simp only [e2] at q2
        cases c <;> first | exact q2.elim | skip
        rename_i ds
        obtain ⟨⟨h0, h1⟩, q2⟩ := q2
        obtain ⟨y, ey, q2⟩ := onD_some q2
        rw [nthL_eq] at ey
        obtain ⟨z, us, hu, rl⟩ := cell_lst g2 e2
        obtain ⟨x, ex, rx⟩ := rl.get ey
        have kp : Keep G2 H2 (gput G2 a (.lst (ds.eraseIdx i.toNat))) (upd H2 a (.lst (us.eraseIdx i.toNat))) := Keep.set e2
        have gk := g2.set (c' := .lst (ds.eraseIdx i.toNat)) e2 ⟨Nat.le_trans (List.length_eraseIdx_le ..) z, us.eraseIdx i.toNat, upd_same, (rl.eraseIdx i.toNat).keep kp⟩
        have zz : sizeLine ≤ 2 ^ 24 := by rw [sizeLine_eq]; decide
        refine ⟨a, us, i, i.toNat, x, rfl, rfl, hu, by omega, by omega, seqIx h0 (by rw [← rl.length]; exact h1), ex, hq _ _ _ _ ((k1.trans k2).trans kp) gk (rx.keep kp) q2⟩⟩
/-! ### slices -/
abbrev DTO := Dt → GH → (Option Int → GH → Prop) → Prop
def lowO (K : PySem.W.Frag) (t : DTO) : TO := fun σ H Q => ∃ ρ G QD, RpS K G H ρ σ ∧ GOk K G H ∧ t ρ G QD ∧ ∀ b H' G', Keep G H G' H' → GOk K G' H' → QD b G' → Q b H'
abbrev XO (X : Cx) (e : Option Expr) (t : DTO) : Prop := PO X e (lowO X.K t)
theorem PO.imp {X : Cx} {e : Option Expr} {t u : TO} (h : PO X e t) (i : ∀ σ H Q, u σ H Q → t σ H Q) : PO X e u := ⟨fun pins s σ H Q I w => h.run pins s σ H Q I (i σ H Q w)⟩
def dNoPart : DTO := fun _ G Q => Q none G
def dPart (t : DTE) : DTO := fun ρ G Q => t ρ G fun d G1 => match d with
  | .int i => Q (some i) G1
  | _ => False
theorem xo_none : XO X none dNoPart := PO.imp po_none fun σ H Q ⟨ρ, G, QD, hs, hg, ht, hf⟩ => hf none H G Keep.refl hg ht
theorem xo_some (h : XE X e t) : XO X (some e) (dPart t) := PO.imp (po_some h) fun σ H Q ⟨ρ, G, QD, hs, hg, ht, hf⟩ => ⟨ρ, G, _, hs, hg, ht, fun v H1 d G1 k1 g1 r1 q1 => by
  cases d <;> first | exact q1.elim | skip
  cases r1
  exact ⟨_, rfl, hf _ H1 G1 k1 g1 q1⟩⟩
def cutD (ds : List D) (lo hi : Option Int) : List D := (ds.drop (HT.sIx ds.length 0 lo)).take (HT.sIx ds.length ds.length hi - HT.sIx ds.length 0 lo)
theorem cut_rp {K : PySem.W.Frag} {G : GH} {H : Hp} {ds : List D} {vs : List V} (r : RpL K G H ds vs) (lo hi : Option Int) : RpL K G H (cutD ds lo hi) (cutV vs lo hi) := by
  unfold cutD cutV
  rw [r.length]
  exact (r.drop _).take _
theorem cutD_len (ds : List D) (lo hi : Option Int) : (cutD ds lo hi).length ≤ ds.length := by
  unfold cutD
  rw [List.length_take, List.length_drop]
  omega
def fSlc (d : D) (lo hi : Option Int) (G : GH) (Q : DE) : Prop := match d with
  | .tup ds => Q (.tup (cutD ds lo hi)) G
  | .lst ds => Q (.lst (cutD ds lo hi)) G
  | .frl ds => Q (.lst (cutD ds lo hi)) G
  | _ => False
def dSlc (t : DTE) (lo hi : DTO) : DTE := fun ρ G Q => t ρ G fun d G1 => lo ρ G1 fun l G2 => hi ρ G2 fun h G3 => fSlc d l h G3 Q
variable {lo hi : Option Expr} {tlo thi : DTO}
theorem xslc (he : XE X e t) (hl : XO X lo tlo) (hh : XO X hi thi) : XE X (.Subscript e (.Slice lo hi none p2) pos) (dSlc t tlo thi) :=
  PE.imp (pe_slice (sl_tupA.or sl_list) he hl hh) fun σ H Q ⟨ρ, G, QD, hs, hg, ht, hf⟩ => ⟨ρ, G, _, hs, hg, ht, fun v H1 d G1 k1 g1 r1 q1 => ⟨ρ, G1, _, hs.keep k1, g1, q1, fun l H2 G2 k2 g2 q2 => ⟨ρ, G2, _, (hs.keep k1).keep k2, g2, q2, fun h H3 G3 k3 g3 q3 => by
    have r3 := r1.keep (k2.trans k3)
    have kk := k1.trans (k2.trans k3)
    cases r3 <;> first | exact q3.elim | skip
    · rename_i a ds vs tt z rl
      have nw : ∀ p, H3 p = none → Q (.ref p) (upd H3 p (.tup (cutV vs l h))) := fun p hp => hf _ _ _ G3 (kk.trans (Keep.lay g3 hp)) (g3.lay hp) (Rp.newTup g3 hp (Nat.le_trans (cutD_len ..) z) (cut_rp rl l h)) q3
      refine .inl ⟨a, vs, rfl, tt.sq, fun ⟨e1, e2⟩ => ?_, fun _ => nw⟩
      have ec : cutD ds l h = ds := by
        unfold cutD
        rw [rl.length, e1, e2, List.drop_zero, Nat.sub_zero, ← rl.length, List.take_length]
      have q3' : QD (.tup (cutD ds l h)) G3 := q3
      rw [ec] at q3'
      exact hf _ H3 _ G3 kk g3 (.tup tt z rl) q3'
    · rename_i a ds vs ga ha z rl
      exact .inr ⟨a, vs, rfl, .inl (.inl ha), fun p hp => hf _ _ _ G3 (kk.trans (Keep.lay g3 hp)) (g3.lay hp) (Rp.newLst g3 hp (Nat.le_trans (cutD_len ..) z) (cut_rp rl l h)) q3⟩
    · rename_i a ds vs tt z rl
      exact .inr ⟨a, vs, rfl, tt.sq, fun p hp => hf _ _ _ G3 (kk.trans (Keep.lay g3 hp)) (g3.lay hp) (Rp.newLst g3 hp (Nat.le_trans (cutD_len ..) z) (cut_rp rl l h)) q3⟩⟩⟩⟩
/-! ### fields -/
def putFD (f : Str) (v : D) : List (Str × D) → List (Str × D)
  | [] => [(f, v)]
  | (g, x) :: r => if g = f then (g, v) :: r else (g, x) :: putFD f v r
def getFD (f : Str) : List (Str × D) → Option D
  | [] => none
  | (g, x) :: r => if f = g then some x else getFD f r
theorem RpF.put {K : PySem.W.Frag} {G : GH} {H : Hp} {f : Str} {d : D} {v : V} (r : Rp K G H d v) : ∀ {fs : List (Str × D)} {fv : List (Str × V)}, RpF K G H fs fv → RpF K G H (putFD f d fs) (putF f v fv)
  | _, _, .nil => .cons r .nil
  | _, _, @RpF.cons _ _ _ g x u fs fv q t => by
    show RpF K G H (if g = f then (g, d) :: fs else (g, x) :: putFD f d fs) (if g = f then (g, v) :: fv else (g, u) :: putF f v fv)
    split
    · exact .cons r t
    · exact .cons q (t.put r)
theorem RpF.get {K : PySem.W.Frag} {G : GH} {H : Hp} {f : Str} {d : D} : ∀ {fs : List (Str × D)} {fv : List (Str × V)}, RpF K G H fs fv → getFD f fs = some d → ∃ v, fv.lookup f = some v ∧ Rp K G H d v
  | _, _, .nil, h => by cases h
  | _, _, @RpF.cons _ _ _ g x u fs fv q t, h => by
    have h' : (if f = g then some x else getFD f fs) = some d := h
    by_cases e : f = g
    · rw [if_pos e] at h'
      cases h'
      exact ⟨u, by rw [List.lookup_cons, show (f == g) = true from beq_iff_eq.mpr e], q⟩
    · rw [if_neg e] at h'
      obtain ⟨v, h1, h2⟩ := t.get h'
      exact ⟨v, by rw [List.lookup_cons, show (f == g) = false from beq_false_of_ne e]; exact h1, h2⟩
theorem RpF.none {K : PySem.W.Frag} {G : GH} {H : Hp} {f : Str} : ∀ {fs : List (Str × D)} {fv : List (Str × V)}, RpF K G H fs fv → getFD f fs = Option.none → fv.lookup f = Option.none
  | _, _, .nil, _ => rfl
  | _, _, @RpF.cons _ _ _ g x u fs fv q t, h => by
    have h' : (if f = g then some x else getFD f fs) = Option.none := h
    by_cases e : f = g
    · rw [if_pos e] at h'
      cases h'
    · rw [if_neg e] at h'
      rw [List.lookup_cons, show (f == g) = false from beq_false_of_ne e]
      exact t.none h'
/-- an instance's class and fields -/
def insOf (d : D) (G : GH) : Option (Addr × List (Str × D)) := match d with
  | .ins C fs => some (C, fs)
  | .ref a => (match G a with
    | some (.ins C fs) => some (C, fs)
    | _ => none)
  | _ => none
def onI (o : Option (Addr × List (Str × D))) (k : Addr → List (Str × D) → Prop) : Prop := match o with
  | some d => k d.1 d.2
  | none => False
theorem onI_some {o : Option (Addr × List (Str × D))} {k : Addr → List (Str × D) → Prop} (h : onI o k) : ∃ C fs, o = some (C, fs) ∧ k C fs := by
  cases o with
  | none => exact h.elim
  | some d => exact ⟨d.1, d.2, rfl, h⟩
theorem ins_at {K : PySem.W.Frag} {G : GH} {H : Hp} {d : D} {v : V} {C : Addr} {fs : List (Str × D)} (g : GOk K G H) (r : Rp K G H d v) (h : insOf d G = some (C, fs)) : ∃ a dx fv, v = .ref a ∧ H a = some (.ins C dx fv) ∧ RpF K G H fs fv := by
  cases r <;> first | cases h | skip
  · rename_i a
    have h1 : (match G a with
      | some (.ins C fs) => some (C, fs)
      | _ => none) = some (C, fs) := h
    cases e : G a with
    | none => rw [e] at h1; cases h1
    | some c =>
      rw [e] at h1
      cases c <;> first | cases h1 | skip
      obtain ⟨dx, fv, hv, rl⟩ := g a _ e
      exact ⟨a, dx, fv, rfl, hv, rl⟩
  · rename_i a dx fv ga ha l
    exact ⟨a, dx, fv, rfl, ha, l⟩
def dFld (C : Addr) (t : DTE) (f : Str) : DTE := fun ρ G Q => t ρ G fun d G1 => onI (insOf d G1) fun C' fs => C' = C ∧ onD (getFD f fs) fun e => Q e G1
theorem xfld {C : Addr} {f : Str} (c : Cls X.K C) (n : NoAttr X.K C f) (he : XE X e t) (hb : attributeBase e f X.env (eval e X.env) = eval e X.env := by rfl) : XE X (.Attribute e f pos) (dFld C t f) :=
  PE.imp (pe_fld he hb) fun σ H Q ⟨ρ, G, QD, hs, hg, ht, hf⟩ => ⟨ρ, G, _, hs, hg, ht, fun v H1 d G1 k1 g1 r1 q1 => by
    obtain ⟨C', fs, e1, rfl, q⟩ := onI_some q1
    obtain ⟨x, e2, q⟩ := onD_some q
    obtain ⟨a, dx, fv, rfl, ha, rl⟩ := ins_at g1 r1 e1
    obtain ⟨u, eu, ru⟩ := rl.get e2
    exact ⟨a, _, dx, fv, u, rfl, ha, c, n, eu, hf _ H1 _ G1 k1 g1 ru q⟩⟩
def dFldS (C : Addr) (t u : DTE) (f : Str) : DTS := fun E ρ G => u ρ G fun y G1 => t ρ G1 fun d G2 => match d with
  | .ref a => (match G2 a with
    | some (.ins C' fs) => C' = C ∧ fs.length < 1000 ∧ E.nx ρ (gput G2 a (.ins C (putFD f y fs)))
    | _ => False)
  | _ => False
theorem xs_fld {C : Addr} {f : Str} {value : Expr} (c : Cls X.K C) (n : NoAttr X.K C f) (ho : XE X o t) (hv : XE X value u) (hs : swapsWith value (some (.Attribute o f p)) pos.line X.env = pure false := by rfl) : XS X (.Assign [.Attribute o f p] value pos) (dFldS C t u f) :=
  PS.imp (ps_fld ho hv hs) fun E σ H ⟨ρ, G, DD, hs, hg, ht, hf⟩ => ⟨ρ, G, _, hs, hg, ht, fun v H1 y G1 k1 g1 r1 q1 => ⟨ρ, G1, _, hs.keep k1, g1, q1, fun v2 H2 d G2 k2 g2 r2 q2 => by
    cases d <;> first | exact q2.elim | skip
    rename_i a
    cases r2
    cases e : G2 a with
    | none => simp only [e] at q2
    | some c' =>
      simp only [e] at q2
      cases c' with
      | lst _ => exact q2.elim
      | dct _ => exact q2.elim
      | ins C' fs =>
      obtain ⟨rfl, l, q⟩ := q2
      obtain ⟨dx, fv, ha, rl⟩ := g2 a _ e
      have kp : Keep G2 H2 (gput G2 a (.ins C' (putFD f y fs))) (upd H2 a (.ins C' dx (putF f v fv))) := Keep.set e
      have gk : GOk X.K (gput G2 a (.ins C' (putFD f y fs))) (upd H2 a (.ins C' dx (putF f v fv))) := g2.set e ⟨dx, _, upd_same, (rl.put (r1.keep k2)).keep kp⟩
      have kk := (k1.trans k2).trans kp
      exact ⟨a, C', dx, fv, rfl, ha, c, n, by rw [← rl.length]; exact l, hf.nx σ _ ρ _ kk gk (hs.keep kk) q⟩⟩⟩
end
/-! ### calls -/
abbrev DSp := List D → GH → DE → Prop
def lowSp (K : PySem.W.Frag) (n : Nat) (S : DSp) : Sp := fun vs H Q _ => ∃ ds G QD, ds.length = n ∧ RpL K G H ds vs ∧ GOk K G H ∧ S ds G QD ∧ Fin K G H QD Q
theorem lowSp_len {K : PySem.W.Frag} {n : Nat} {S : DSp} {ps : List Str} (h : ps.length = n) : ∀ vs H Q E, lowSp K n S vs H Q E → vs.length = ps.length := fun vs H Q E ⟨ds, G, QD, l, r, _⟩ => by rw [h, ← r.length, l]
def dCall (n : Nat) (S : DSp) (t : DTA) : DTE := fun ρ G Q => t ρ G fun ds G1 => ds.length = n ∧ S ds G1 Q
def dMeth (C : Addr) (m : Str) (n : Nat) (S : DSp) (to : DTE) (t : DTA) : DTE := fun ρ G Q => to ρ G fun d G1 => onI (insOf d G1) fun C' fs => (C' = C ∧ getFD m fs = none) ∧ t ρ G1 fun ds G2 => ds.length + 1 = n ∧ S (d :: ds) G2 Q
/-- a new instance, followed, or frozen behind its __init__ -/
def mkEnd (fz : Bool) (C : Addr) (Q : DE) (p : Addr) : DE := fun v G => v = .non ∧ match fz with
  | false => Q (.ref p) G
  | true => (match G p with
    | some (.ins C' fs) => C' = C ∧ Q (.ins C fs) (gdel G p)
    | _ => False)
def dMk (fz : Bool) (C : Addr) (n : Nat) (S : DSp) (t : DTA) : DTE := fun ρ G Q => t ρ G fun ds G1 => ds.length + 1 = n ∧ ∀ p, G1 p = none → S (.ref p :: ds) (gput G1 p (.ins C [])) (mkEnd fz C Q p)
/-- a def that is called by its name -/
structure CalD (P : Program) (w : World) (K : PySem.W.Frag) (mg : Str → Option Value) (base : Heap) (k : Nat) (x : Str) (n : Nat) (S : DSp) : Prop where
  ex : ∃ (f : Addr) (fd : FuncData) (ps : List Str), FnOk P w K mg base CX0 k f fd ps (lowSp K n S) ∧ mg x = some (.ref f) ∧ PySem.W.keepIn K (.ref f) = true ∧ Binds K fd ps []
structure MetD (P : Program) (w : World) (K : PySem.W.Frag) (mg : Str → Option Value) (base : Heap) (k : Nat) (C : Addr) (m : Str) (n : Nat) (S : DSp) : Prop where
  ex : ∃ (f : Addr) (fd : FuncData) (ps : List Str), Cls K C ∧ L2.Meth K C m f ∧ FnOk P w K mg base CX0 k f fd ps (lowSp K n S) ∧ Binds K fd ps []
structure MakD (P : Program) (w : World) (K : PySem.W.Frag) (mg : Str → Option Value) (base : Heap) (k : Nat) (x : Str) (C : Addr) (n : Nat) (S : DSp) : Prop where
  ex : ∃ (f : Addr) (fd : FuncData) (ps : List Str), Mk K C f ∧ FnOk P w K mg base CX0 k f fd ps (lowSp K n S) ∧ mg x = some (.ref C) ∧ Binds K fd ps []
section
variable {X : Cx} {k j n : Nat} {C : Addr} {x m : Str} {S : DSp} {p pos apos : Pos} {e o : Expr} {es : List Expr} {to : DTE} {t : DTA} {fz : Bool}
theorem xcall (c : CalD X.prog X.w X.K X.mg X.base k x n S) (hr : Room j X.A) (hk : k ≤ j) (ha : XA X (e :: es) t) (hg : Gl X x := by rfl)
    (hdb : (x == ("__debug__" : Str)) = false := by decide) (he : starEach (e :: es) X.env = (false, eval e X.env) :: starEach es X.env := by rfl) (hpl : (backTo pos (starEach es X.env)).any (·.1) = false := by rfl) :
    XE X (.Call (.Name x p) (e :: es) [] pos) (dCall n S t) := by
  obtain ⟨f, fd, ps, F, hm, kp, b⟩ := c.ex
  refine PE.imp (pe_call F (hr.mono hk) hg hm kp b .nil pass0 ha hdb he hpl) fun σ H Q ⟨ρ, G, QD, hs, hgk, ht, hf⟩ => ⟨ρ, G, _, hs, hgk, ht, fun vs H1 ds G1 k1 g1 r1 ⟨l, q⟩ => ?_⟩
  show lowSp X.K n S (vs ++ []) H1 Q _
  rw [List.append_nil]
  exact ⟨ds, G1, QD, l, r1, g1, q, hf.from k1⟩
theorem xmeth {pl : Sem Bool} (c : MetD X.prog X.w X.K X.mg X.base k C m n S) (hr : Room j X.A) (hk : k ≤ j) (ho : XE X o to) (ha : XA X (e :: es) t)
    (hst : starEach (e :: es) X.env = (false, eval e X.env) :: starEach es X.env := by rfl) (hpl : (backTo pos (starEach es X.env)).any (·.1) = false := by rfl)
    (ht : eval (.Call (.Attribute o m apos) (e :: es) [] pos) X.env = (do
      let ov ← eval o X.env
      standAt apos.atName
      let (f, first) ← holding [ov] (getMethod ov m pl)
      callWith pos f first (backTo pos (starEach (e :: es) X.env)) (backToKw pos (keywordEach [] X.env))) := by rfl) : XE X (.Call (.Attribute o m apos) (e :: es) [] pos) (dMeth C m n S to t) := by
  obtain ⟨f, fd, ps, hc, hm, F, b⟩ := c.ex
  refine PE.imp (pe_meth (pl := pl) ho hc hm F (hr.mono hk) b .nil pass0 ha hst hpl ht) fun σ H Q ⟨ρ, G, QD, hs, hgk, ht, hf⟩ => ⟨ρ, G, _, hs, hgk, ht, fun v H1 d G1 k1 g1 r1 q1 => ?_⟩
  obtain ⟨C', fs, e1, ⟨rfl, nf⟩, q⟩ := onI_some q1
  obtain ⟨a, dx, fv, rfl, ha, rl⟩ := ins_at g1 r1 e1
  refine ⟨a, dx, fv, rfl, ha, rl.none nf, ρ, G1, _, hs.keep k1, g1, q, fun vs H2 ds G2 k2 g2 r2 ⟨l, q2⟩ => ?_⟩
  show lowSp X.K n S (V.ref a :: (vs ++ [])) H2 Q _
  rw [List.append_nil]
  exact ⟨d :: ds, G2, QD, l, .cons (r1.keep k2) r2, g2, q2, hf.from (k1.trans k2)⟩
theorem xmeth0 {pl : Sem Bool} (c : MetD X.prog X.w X.K X.mg X.base k C m n S) (hr : Room j X.A) (hk : k ≤ j) (ho : XE X o to)
    (ht : eval (.Call (.Attribute o m apos) [] [] pos) X.env = (do
      let ov ← eval o X.env
      standAt apos.atName
      let (f, first) ← holding [ov] (getMethod ov m pl)
      callWith pos f first (backTo pos (starEach [] X.env)) (backToKw pos (keywordEach [] X.env))) := by rfl) : XE X (.Call (.Attribute o m apos) [] [] pos) (dMeth C m n S to dNil) := by
  obtain ⟨f, fd, ps, hc, hm, F, b⟩ := c.ex
  refine PE.imp (pe_meth0 (pl := pl) ho hc hm F (hr.mono hk) b .nil pass0 ht) fun σ H Q ⟨ρ, G, QD, hs, hgk, ht, hf⟩ => ⟨ρ, G, _, hs, hgk, ht, fun v H1 d G1 k1 g1 r1 q1 => ?_⟩
  obtain ⟨C', fs, e1, ⟨rfl, nf⟩, l, q⟩ := onI_some q1
  obtain ⟨a, dx, fv, rfl, ha, rl⟩ := ins_at g1 r1 e1
  exact ⟨a, dx, fv, rfl, ha, rl.none nf, [d], G1, QD, l, .cons r1 .nil, g1, q, hf.from k1⟩
theorem make_core {H H1 : Hp} {Q : VK} {G G1 : GH} {QD : DE} {ds : List D} {vs : List V} (k1 : Keep G H G1 H1) (g1 : GOk X.K G1 H1) (r1 : RpL X.K G1 H1 ds vs) (hf : Fin X.K G H QD Q) (l : ds.length + 1 = n) (q : ∀ p, G1 p = none → S (.ref p :: ds) (gput G1 p (.ins C [])) (mkEnd fz C QD p)) :
    ∀ x dx, H1 x = none → H1 dx = none → dx ≠ x → lowSp X.K n S (.ref x :: (vs ++ [])) (upd (upd H1 dx (.own x)) x (.ins C dx [])) (fun v H2 => v = .non ∧ Q (.ref x) H2) E0 := by
  intro p dx hp hdx ne
  have kd : Keep G1 H1 G1 (upd H1 dx (.own p)) := Keep.lay g1 hdx
  have gd := g1.lay (o := .own p) hdx
  have hp' : upd H1 dx (.own p) p = none := by rw [upd_ne (Ne.symm ne)]; exact hp
  have kp : Keep G1 (upd H1 dx (.own p)) (gput G1 p (.ins C [])) (upd (upd H1 dx (.own p)) p (.ins C dx [])) := Keep.put hp'
  have gp : GOk X.K (gput G1 p (.ins C [])) (upd (upd H1 dx (.own p)) p (.ins C dx [])) := gd.put hp' ⟨dx, [], upd_same, .nil⟩
  rw [List.append_nil]
  refine ⟨.ref p :: ds, _, _, l, .cons (.ref p) (r1.keep (kd.trans kp)), gp, q p (g1.fresh hp), fun v H2 d G2 k2 g2 r2 ⟨ev, q2⟩ => ?_⟩
  subst ev
  cases r2
  refine ⟨rfl, ?_⟩
  have kk := (k1.trans (kd.trans kp)).trans k2
  cases fz with
  | false => exact hf _ H2 _ G2 kk g2 (.ref p) q2
  | true =>
    cases e : G2 p with
    | none => simp only [e] at q2
    | some c =>
      simp only [e] at q2
      cases c <;> first | exact q2.elim | skip
      obtain ⟨rfl, q2⟩ := q2
      obtain ⟨dx', fv, ha, rl⟩ := g2 p _ e
      exact hf _ H2 _ _ (kk.trans Keep.del) g2.del (.ins gdel_same ha (rl.keep Keep.del)) q2
theorem low_make {σ : L2.St} {H : Hp} {Q : VK} (h : lowE X.K (dMk fz C n S t) σ H Q) : tMake C (lowSp X.K n S) [] E0 (lowA X.K t) σ H Q := by
  obtain ⟨ρ, G, QD, hs, hgk, ht, hf⟩ := h
  exact ⟨ρ, G, _, hs, hgk, ht, fun vs H1 ds G1 k1 g1 r1 ⟨l, q⟩ => make_core k1 g1 r1 hf l q⟩
theorem xmk (c : MakD X.prog X.w X.K X.mg X.base k x C n S) (hr : Room j X.A) (hk : k + 1 ≤ j) (ha : XA X (e :: es) t) (hg : Gl X x := by rfl)
    (hdb : (x == ("__debug__" : Str)) = false := by decide) (he : starEach (e :: es) X.env = (false, eval e X.env) :: starEach es X.env := by rfl) (hpl : (backTo pos (starEach es X.env)).any (·.1) = false := by rfl) :
    XE X (.Call (.Name x p) (e :: es) [] pos) (dMk fz C n S t) := by
  obtain ⟨f, fd, ps, M, F, hm, b⟩ := c.ex
  exact PE.imp (pe_make M F (hr.mono hk) hg hm b .nil pass0 ha hdb he hpl) fun σ H Q h => low_make h
theorem xmk0 (c : MakD X.prog X.w X.K X.mg X.base k x C n S) (hr : Room j X.A) (hk : k + 1 ≤ j) (hg : Gl X x := by rfl) (hdb : (x == ("__debug__" : Str)) = false := by decide) :
    XE X (.Call (.Name x p) [] [] pos) (dMk fz C n S dNil) := by
  obtain ⟨f, fd, ps, M, F, hm, b⟩ := c.ex
  exact PE.imp (pe_make0 M F (hr.mono hk) hg hm b .nil pass0 hdb) fun σ H Q ⟨ρ, G, QD, hs, hgk, ht, hf⟩ => make_core (ds := []) (vs := []) Keep.refl hgk .nil hf ht.1 ht.2
end
/-! ### defs -/
section
variable {P : Program} {w : World} {K : PySem.W.Frag} {mg : Str → Option Value} {base : Heap}
def startD (N : List Str) (ds : List D) : Dt := ds.map some ++ List.replicate (N.length - ds.length) none
theorem start_rp {G : GH} {H : Hp} {N : List Str} {ds : List D} {vs : List V} (r : RpL K G H ds vs) : RpS K G H (startD N ds) (L2.start N vs) := by
  unfold startD L2.start
  rw [r.length]
  exact RpS.of_args r
/-- what a def's body has to be -/
def Body (P : Program) (w : World) (K : PySem.W.Frag) (mg : Str → Option Value) (base : Heap) (N : List Str) (qual : Str) (body : List Stmt) (scope : Scope) (f : Addr) (k n : Nat) (S : DSp) : Prop :=
  ∀ (cdv : Value) (A : Around) (outer : List Env) (s : Shared) (H : Hp) (E : XK), Room k (A.deeper (envOfC qual scope s.heap.objs.size f cdv)) →
    ∃ t : DTS, XSs (cxOf CX0 P w K mg base N qual scope f cdv A outer s H E).nox body t ∧ ∀ ds G Q, ds.length = n → S ds G Q → t { nx := fun _ G' => Q .non G', rt := Q } (startD N ds) G
theorem Body.ok {N ps : List Str} {x qual : Str} {params : Arguments} {body : List Stmt} {scope : Scope} {kws : List (Str × V)} {f : Addr} {fd : FuncData} {dvs : List V} {k n : Nat} {S : DSp} (F : FunD K x qual params body scope dvs kws f fd) (sc : FnScope N ps scope) (hn : ps.length = n)
    (b : Body P w K mg base N qual body scope f k n S) : FnOk P w K mg base CX0 (k + 1) f fd ps (lowSp K n S) :=
  F.ok sc (lowSp_len hn) fun cdv A outer s H vs Q E hr h => by
    obtain ⟨t, ht, hS⟩ := b cdv A outer s H E hr
    obtain ⟨ds, G, QD, l, r, g, q, hf⟩ := h
    exact ⟨_, ht.nox, startD N ds, G, _, start_rp r, g, hS ds G QD l q, fun σ' H' ρ' G' k' g' s' q' => hf _ H' _ G' k' g' .non q', hf, fun σ' H' ρ' G' k' g' s' q' => q'.elim, fun σ' H' ρ' G' k' g' s' q' => q'.elim⟩
end
end DL
set_option Elab.async false
set_option linter.all false
set_option maxRecDepth 100000
set_option maxHeartbeats 4000000
/-! The D layer: what the hand layer lacks: t * 1, t[::-1], f(k = v). -/
namespace DL
open PySem PySem.Spec PyProof.Rows L2
/-! ### t * 1: the tuple itself -/
theorem tuple_mul_one (l : Addr) (xs : Array Value) (n : Nat) (dd : Option Addr) (sl : Array (Option Value)) (u : Tok) :
    Meets (Builtin.«tuple.__mul__» ⟨[.ref l, .int 1 u], []⟩) (fun _ R s => s.heap.get? l = some { cls := .type "tuple", dict := dd, data := .seq xs n, slots := sl } ∧ R (.ok (.ret (Value.ref l))) s) :=
  .of_wp fun pg wd A R s hs => by
    obtain ⟨hp, g, d, tk, os⟩ := s
    obtain ⟨hl, hs⟩ := hs
    have f1 := AutoSeq1.idx_int
    have c0 : (decide ((1 : Int) < -(2 ^ 63)) || decide ((1 : Int) ≥ 2 ^ 63)) = false := by decide
    have c1 : (xs.isEmpty || (1 : Int) == 1) = true := by rw [show ((1 : Int) == 1) = true from rfl, Bool.or_true]
    wp_walk using wpAny_loadPart' hl
    repeat (first
      | (refine wpAny_ite_false (decide_eq_false (by rw [c0]; exact Bool.false_ne_true)) ?_; wp_walk using wpAny_loadPart' hl)
      | (refine wpAny_ite_true (decide_eq_true c1) ?_; wp_walk using wpAny_loadPart' hl))
    exact ⟨_, rfl, hs⟩
def rRep1 (K : PySem.W.Frag) : R2 := fun x y H Q => ∃ l xs, x = .ref l ∧ y = .int 1 ∧ SqT K H l xs ∧ Q (.ref l) H
theorem op_rep1 {X : Cx} : OpR X (binaryOp .Mult) (rRep1 X.K) := by
  intro pins s σ H x y v u Q I rx ry h
  obtain ⟨l, xs, rfl, rfl, hT, q⟩ := h
  cases rx
  obtain ⟨t, rfl⟩ := ry
  obtain ⟨us, r, ⟨⟨cls, dd, data, sl⟩, ho, hc, n, hd⟩, hs⟩ := I.tuple hT
  simp only at hc hd
  subst hc
  subst hd
  exact wpAny_binaryOp_repeat_ref (T := "tuple") (U := "int") (by decide) ⟨_, ho, rfl⟩ (fun s' => typeIs_int s' 1 t) noFill_tuple_mul F.fills_int_mul F.slot_int_rmul repeat_tuple F.slot_int_index.lookup
    (call_meets F.slot_int_rmul (typeIs_int s 1 t) F.entry_int_rmul (F.args_int_rmul_2 _ _) (int_rmul_tuple 1 t l us.toArray n dd sl)
      ⟨ho, rfl, ⟨_, ho, rfl⟩, call_meets F.slot_tuple_mul ⟨_, ho, rfl⟩ F.entry_tuple_mul (F.args_tuple_mul_2 _ _) (tuple_mul_one l us.toArray n dd sl t) ⟨ho, ⟨.ref l, H, I, rfl, q⟩⟩⟩)
/-- int * int, tuple * int -/
def fMul : D2 := fun x y G Q => match x, y with
  | .int i, .int j => IntMulOk i j ∧ Q (.int (i * j)) G
  | .tup ds, .int k => (ds ≠ [] ∧ 1 ≤ k ∧ k ≤ 1000 ∧ ds.length ≤ 1000) ∧ Q (.tup (List.replicate k.toNat ds).flatten) G
  | _, _ => False
def rMulAll (K : PySem.W.Frag) : R2 := fun x y H Q => rI IntMulOk (fun i j => .int (i * j)) x y H Q ∨ (rRep1 K x y H Q ∨ rRepT K x y H Q)
theorem op_mulAll {X : Cx} : OpR X (binaryOp .Mult) (rMulAll X.K) := op_mulI.or (op_rep1.or op_repT)
theorem RpL.flatten {K : PySem.W.Frag} {G : GH} {H : Hp} {ds : List D} {vs : List V} (r : RpL K G H ds vs) : ∀ n : Nat, RpL K G H (List.replicate n ds).flatten (List.replicate n vs).flatten
  | 0 => .nil
  | n + 1 => by
    rw [List.replicate_succ, List.replicate_succ, List.flatten_cons, List.flatten_cons]
    exact r.append (r.flatten n)
theorem flat_len (ds : List D) : ∀ n : Nat, (List.replicate n ds).flatten.length = n * ds.length
  | 0 => by simp
  | n + 1 => by
    rw [List.replicate_succ, List.flatten_cons, List.length_append, flat_len ds n, Nat.succ_mul]
    omega
theorem opd_mul {K : PySem.W.Frag} : OpD K (rMulAll K) fMul := by
  intro G H x y v u QD Q g rx ry h hq
  cases rx <;> cases ry <;> first | exact h.elim | skip
  · exact .inl ⟨_, _, rfl, rfl, h.1, hq _ H _ G Keep.refl g (.int _) h.2⟩
  · rename_i a ds vs t z l k
    obtain ⟨⟨h1, h2, h3, h4⟩, h5⟩ := h
    have e0 : vs ≠ [] := fun e => h1 (l.nil_iff.mpr e)
    by_cases e : k = 1
    · subst e
      have e2 : (List.replicate (1 : Int).toNat ds).flatten = ds := by simp
      rw [e2] at h5
      exact .inr (.inl ⟨a, vs, rfl, rfl, t.sq, hq _ H _ G Keep.refl g (.tup t z l) h5⟩)
    · refine .inr (.inr ⟨a, k, vs, rfl, rfl, t.sq, e0, by omega, h3, by rw [← l.length]; exact h4, fun p hp => hq _ _ _ G (Keep.lay g hp) (g.lay hp) (Rp.newTup g hp ?_ (l.flatten k.toNat)) h5⟩)
      rw [flat_len, sizeLine_eq]
      have a1 : k.toNat * ds.length ≤ 1000 * 1000 := Nat.mul_le_mul (by omega) h4
      omega
/-! ### t[::-1] -/
section
variable {pg : Program} {wd : World} {A : Around} {E : Value → Shared → Prop} {s : Shared}
theorem adjust_rev (n : Nat) : Builtin.Slice.sliceAdjust none none (-1) (n : Int) = ((n : Int) - 1, -1) := by
  unfold Builtin.Slice.sliceAdjust
  rfl
theorem places_rev (n : Nat) : Builtin.Slice.slicePlaces ((n : Int) - 1) (-1) (-1) = n := by
  unfold Builtin.Slice.slicePlaces
  rw [if_neg (by decide)]
  split
  · rw [show (- -1 : Int) = 1 from rfl, Int.ediv_one]
    omega
  · omega
theorem applied_rev {sl : Addr} {vl vu vs : Value} {n : Nat} {Q : Int × Int × Nat → Shared → Prop} (hs : s.heap.IsSliceOf sl vl vu vs) (pl : IsPart vl none) (pu : IsPart vu none) (ps : IsPart vs (some (-1)))
    (h : Q ((n : Int) - 1, -1, n) s) : wpAny (model pg wd) A (Builtin.Slice.sliceApplied (.ref sl) (pure (n : Int))) Q E s := by
  obtain ⟨os, hos, hcs, hds⟩ := id hs
  unfold Builtin.Slice.sliceApplied Builtin.Slice.sliceFields
  refine wpAny_bind (wpAny_bind (wpAny_field hos hds (x := vl) rfl (wpAny_bind (wpAny_field hos hds (x := vu) rfl (wpAny_bind (wpAny_field hos hds (x := vs) rfl (wpAny_pure ?_)))))))
  refine wpAny_bind (HT.slicePart_ ps ?_)
  show wpAny _ _ (if ((-1 : Int) == 0) = true then _ else _) _ _ s
  rw [if_neg (by decide)]
  refine wpAny_bind (HT.slicePart_ pl (wpAny_bind (HT.slicePart_ pu (wpAny_bind (wpAny_pure ?_)))))
  show wpAny _ _ (match Builtin.Slice.sliceAdjust none none (-1) (n : Int) with | (lo, hi) => pure (lo, (-1 : Int), Builtin.Slice.slicePlaces lo hi (-1))) _ _ s
  rw [adjust_rev]
  show wpAny _ _ (pure ((n : Int) - 1, (-1 : Int), Builtin.Slice.slicePlaces ((n : Int) - 1) (-1) (-1))) _ _ s
  rw [places_rev]
  exact wpAny_pure h
theorem pick_rev (xs : Array Value) : ((List.range xs.size).filterMap fun (m : Nat) => xs[(((xs.size : Nat) : Int) - 1 + (m : Int) * -1).toNat]?) = xs.toList.reverse := by
  have e : ∀ m ∈ List.range xs.size, xs[(((xs.size : Nat) : Int) - 1 + (m : Int) * -1).toNat]? = xs.toList.reverse[m]? := by
    intro m hm
    have hm' := List.mem_range.mp hm
    have lt : m < xs.toList.length := by rw [Array.length_toList]; exact hm'
    rw [List.getElem?_reverse lt, Array.length_toList, Array.getElem?_toList]
    congr 1
    omega
  have fc : ∀ (l : List Nat) (f g : Nat → Option Value), (∀ m ∈ l, f m = g m) → l.filterMap f = l.filterMap g := by
    intro l f g
    induction l with
    | nil => intro _; rfl
    | cons a l ih =>
      intro h
      rw [List.filterMap_cons, List.filterMap_cons, h a (List.mem_cons_self ..), ih fun m hm => h m (List.mem_cons_of_mem _ hm)]
  rw [fc _ _ _ e]
  have z : xs.size = xs.toList.reverse.length := by rw [List.length_reverse, Array.length_toList]
  rw [z]
  generalize xs.toList.reverse = l
  clear z e
  induction l with
  | nil => rfl
  | cons a l ih =>
    rw [List.length_cons, List.range_succ_eq_map]
    show a :: List.filterMap (fun m => (a :: l)[m]?) (List.map Nat.succ (List.range l.length)) = a :: l
    rw [List.filterMap_map]
    exact congrArg (a :: ·) ih
theorem getItem_tuple_rev {t sl : Addr} {xs : Array Value} {vl vu vs : Value} {Q : Value → Shared → Prop} (ht : IsTup s.heap t xs) (hs : s.heap.IsSliceOf sl vl vu vs) (pl : IsPart vl none) (pu : IsPart vu none) (ps : IsPart vs (some (-1)))
    (h : Q (.ref s.heap.objs.size) { s with heap := s.heap.push { cls := .type "tuple", data := .seq xs.toList.reverse.toArray } }) (hsz : xs.size ≤ sizeLine) : wpAny (model pg wd) A (getItem (.ref t) (.ref sl)) Q E s := by
  have hok : sizeOk (.seq xs.toList.reverse.toArray) := by
    show xs.toList.reverse.toArray.size ≤ sizeLine
    rw [List.size_toArray, List.length_reverse, Array.length_toList]
    exact hsz
  obtain ⟨os, hos, hcs, hds⟩ := id hs
  have hTs : s.TypeIs (.ref sl) "slice" := ⟨os, hos, hcs⟩
  unfold getItem
  try with_reducible refine wpAny_holding ?_
  first | refine wpAny_bind (wpAny_pure ?_) | skip
  refine wpAny_bind (wpAny_sequenceKey ht.typeIs (by decide) ?_)
  refine wpAny_bind (wpAny_callSpecial?_slot (name := Str.ofString "__getitem__") ht.typeIs PyProof.Rows.slot_tuple_getitem (wpAny_call_entry PyProof.Rows.slot_tuple_getitem ht.typeIs entry_tuple_getitem ?_ (args_tuple_getitem _ _)))
  show wpAny _ _ (Builtin.Tuple.tupleItemsOf (.ref t) >>= _) _ _ s
  refine wpAny_bind (tupleItemsOf_ ht ?_)
  refine wpAny_bind (wpAny_typeOf hTs ?_)
  rw [if_pos (by decide)]
  refine wpAny_bind (applied_rev hs pl pu ps ?_)
  have hno : ¬ ((((xs.size : Nat) : Int) - 1 == 0 && (-1 : Int) == 1 && xs.size == xs.size) = true) := by
    intro q
    rw [Bool.and_eq_true, Bool.and_eq_true] at q
    exact absurd (eq_of_beq q.1.2) (by decide)
  show wpAny _ _ (if (((xs.size : Nat) : Int) - 1 == 0 && (-1 : Int) == 1 && xs.size == xs.size) = true then _ else _) _ _ s
  rw [if_neg hno, pick_rev]
  first
    | exact wpAny_bind (m := Builtin.Tuple.tupleExact _) (wpAny_newObj_type (wpAny_pure ⟨_, rfl, wpAny_pure h⟩) hok)
    | exact wpAny_bind (m := Builtin.Tuple.tupleExact _) (wpAny_newObj_type (wpAny_bind (wpAny_pure (wpAny_pure ⟨_, rfl, wpAny_pure h⟩))) hok)
    | exact wpAny_bind (wpAny_bind (m := Builtin.Tuple.tupleExact _) (wpAny_newObj_type (wpAny_pure (wpAny_pure ⟨_, rfl, wpAny_pure h⟩)) hok))
    | exact wpAny_bind (wpAny_bind (m := Builtin.Tuple.tupleExact _) (wpAny_newObj_type (wpAny_pure ⟨_, rfl, wpAny_pure h⟩) hok))
end
def tRevT (K : PySem.W.Frag) (te : TE) : TE := fun σ H Q => te σ H fun x H1 => ∃ a xs, x = .ref a ∧ SqT K H1 a xs ∧ ∀ p, H1 p = none → Q (.ref p) (upd H1 p (.tup xs.reverse))
theorem pe_revT {X : Cx} {e : Expr} {te : TE} {k : Nat} {p1 p2 p3 pos : Pos} (he : PE X e te) : PE X (.Subscript e (.Slice none none (some (.UnaryOp .USub (.Constant (.int 1) k p1) p2)) p3) pos) (tRevT X.K te) := by
  constructor
  intro pins s σ H Q I h
  refine Subscript_ (thn (he.run pins s σ H _ I h) fun v s1 ⟨x, H1, I1, r1, a, xs, ex, hx, q⟩ => ?_)
  subst ex
  cases r1
  have hst : PO X (some (.UnaryOp .USub (.Constant (.int 1) k p1) p2)) (tPart (tUn (rU fun i => .int (-i)) (tC (.int 1)))) := po_some (pe_un un_neg pe_int)
  refine wpAny_Slice (thn (po_none.run pins s1 σ H1 (fun o H2 => o = none ∧ H2 = H1) I1 ⟨rfl, rfl⟩) fun vl s2 ⟨l, H2, I2, pl, el, e2⟩ => ?_)
  subst el
  subst e2
  refine thn (po_none.run pins s2 σ H2 (fun o H3 => o = none ∧ H3 = H2) I2 ⟨rfl, rfl⟩) fun vu s3 ⟨u, H3, I3, pu, eu, e3⟩ => ?_
  subst eu
  subst e3
  refine thn (hst.run pins s3 σ H3 (fun o H4 => o = some (-1) ∧ H4 = H3) I3 ⟨1, rfl, -1, rfl, rfl, rfl⟩) fun vs s4 ⟨o, H4, I4, ps, eo, e4⟩ => ?_
  subst eo
  subst e4
  have I5 : Inv X pins σ H4 { s4 with heap := s4.heap.push { cls := .type "slice", data := .fields #[vl, vu, vs] } } := I4.kept (t' := s4.toks) fun b ob q => Heap.get?_push_of_some _ q
  obtain ⟨us, r, ht, hz⟩ := I5.tuple hx
  have hlen := r.length
  show wpAny (model X.prog X.w) X.A (subscriptTail e (.Slice none none (some (.UnaryOp .USub (.Constant (.int 1) k p1) p2)) p3) (.ref a) (.ref s4.heap.objs.size)) (EP X pins σ Q) X.xe { s4 with heap := s4.heap.push { cls := .type "slice", data := .fields #[vl, vu, vs] } }
  refine tail_any (ops := [.ref a, .ref s4.heap.objs.size]) ht.typeIs (PyProof.Rows.slot_tuple_getitem.lookup) ?_ (by with_unfolding_all rfl)
  refine getItem_tuple_rev ht (Heap.IsSliceOf.new _ vl vu vs) pl pu ps ?_ (by rw [List.size_toArray]; omega)
  refine ⟨.ref _, _, I5.laid (t' := s4.toks) (o := .tup xs.reverse) (fun b ob q => Heap.get?_push_of_some _ q) (Nat.le_refl _) ?_, rfl, q _ (I5.hok.fresh (Nat.le_refl _))⟩
  exact ⟨by rw [List.length_reverse]; exact hz, _, r.reverse, IsTup.new _ _⟩
def dRevT (t : DTE) : DTE := fun ρ G Q => t ρ G fun d G1 => match d with
  | .tup ds => Q (.tup ds.reverse) G1
  | _ => False
theorem xrevT {X : Cx} {e : Expr} {t : DTE} {k : Nat} {p1 p2 p3 pos : Pos} (he : XE X e t) : XE X (.Subscript e (.Slice none none (some (.UnaryOp .USub (.Constant (.int 1) k p1) p2)) p3) pos) (dRevT t) :=
  PE.imp (pe_revT he) fun σ H Q ⟨ρ, G, QD, hs, hg, ht, hf⟩ => ⟨ρ, G, _, hs, hg, ht, fun v H1 d G1 k1 g1 r1 q1 => by
    cases r1 <;> first | exact q1.elim | skip
    rename_i a ds vs t z l
    exact ⟨a, vs, rfl, t.sq, fun p hp => hf _ _ _ G1 (k1.trans (Keep.lay g1 hp)) (g1.lay hp) (Rp.newTup g1 hp (by rw [List.length_reverse]; exact z) l.reverse) q1⟩⟩
/-! ### f(k = v, ..) -/
section
variable {X : Cx} {CX : CXT} {k : Nat} {f : Addr} {fd : FuncData} {ps ks : List Str} {sp : Sp} {E : XK} {x : Str} {p pos : Pos} {kws : List Keyword} {tk : TA} {gf : List Value → List Value → List Value} {gV : List V → List V → List V}
theorem pe_kwOnly (F : FnOk X.prog X.w X.K X.mg X.base CX k f fd ps sp) (hr : Room k X.A) (hg : Gl X x) (hm : X.mg x = some (.ref f)) (hk : PySem.W.keepIn X.K (.ref f) = true) (hb : KBinds X.K fd ps ks gf gV) (hx : Passes CX X E)
    (hkw : PK X kws tk) (hall : (backToKw pos (keywordEach kws X.env)).all (·.1.isSome) = true := by rfl) (hks : (backToKw pos (keywordEach kws X.env)).filterMap (·.1) = ks := by rfl)
    (hdb : (x == ("__debug__" : Str)) = false := by decide) (hpl : ((backTo pos (starEach [] X.env)).any (·.1) || (backToKw pos (keywordEach kws X.env)).any (·.1.isNone)) = false := by rfl) :
    PE X (.Call (.Name x p) [] kws pos) (fun σ H Q => tk σ H fun zs H2 => sp (gV [] zs) H2 Q E) := by
  constructor
  intro pins s σ H Q I h
  refine wpAny_Call_Name_kw (ld_glob I hg hm ?_ hdb)
  refine PySem.W.callWith_KW0 (h₀ := X.base) I.ok.mod.kin hk hall ?_ hpl
  refine thn (hkw.run pos pins s σ H _ I h) fun ws s2 ⟨zs, H2, I2, rz, q2⟩ => ⟨I2.kIn, ?_⟩
  rw [hks]
  exact run_fnk (us := []) (vs := []) F hr hb hx I2 .nil rz q2
end
end DL
set_option Elab.async false
set_option linter.all false
set_option maxRecDepth 100000
set_option maxHeartbeats 2000000
/-! The D layer: the last rules. -/
namespace DL
open PySem PySem.Spec PyProof.Rows L2
section
variable {X : Cx} {e a b c o : Expr} {st : Stmt} {sts : List Stmt} {pos apos p : Pos} {t : DTE} {ta : DTA}
def dNever : DTS := fun _ _ _ => False
theorem xs_never : XS X st dNever := PS.imp ps_never fun E σ H ⟨_, _, _, _, _, h, _⟩ => h
theorem xss_never : XSs X sts dNever := PSs.imp pss_never fun E σ H ⟨_, _, _, _, _, h, _⟩ => h
def dPar3 (i j l : Nat) (t : DTA) : DTS := fun D ρ G => t ρ G fun ds G1 => match ds with
  | [x, y, z] => D.nx (((ρ.set i (some x)).set j (some y)).set l (some z)) G1
  | _ => False
theorem xs_par3 (i j l : Nat) {x y z : Str} {px py pz pt : Pos} {kt k2 : Nat} {pt2 : Pos} {t : DTA} (hc : X.calm = true) (hN : X.N.Nodup) (ha : XA X [a, b, c] t)
    (hw : swappedStores [.Tuple [.Name x px, .Name y py, .Name z pz] kt pt] (.Tuple [a, b, c] k2 pt2) X.env = pure (some [x, y, z]) := by rfl) (hi : X.N[i]? = some x := by rfl) (hj : X.N[j]? = some y := by rfl) (hl : X.N[l]? = some z := by rfl) (hij : i ≠ j := by decide) (hil : i ≠ l := by decide) (hjl : j ≠ l := by decide)
    (hx : X.env.scope.names.lookup x = some .local := by rfl) (hy : X.env.scope.names.lookup y = some .local := by rfl) (hz : X.env.scope.names.lookup z = some .local := by rfl)
    (hs : swapsWithSole [.Tuple [.Name x px, .Name y py, .Name z pz] kt pt] (.Tuple [a, b, c] k2 pt2) pos.line X.env = pure false := by rfl) :
    XS X (.Assign [.Tuple [.Name x px, .Name y py, .Name z pz] kt pt] (.Tuple [a, b, c] k2 pt2) pos) (dPar3 i j l t) :=
  PS.imp (ps_par3 hc hN hi hj hl hij hil hjl hx hy hz ha hw hs) fun E σ H ⟨ρ, G, DD, hs, hgk, ht, hf⟩ => ⟨ρ, G, _, hs, hgk, ht, fun v H1 ds G1 k1 g1 r1 q1 => by
    match ds, r1, q1 with
    | [d1, d2, d3], .cons r1 (.cons r2 (.cons r3 .nil)), q1 => exact ⟨_, _, _, rfl, hf.nx _ H1 _ G1 k1 g1 ((((hs.keep k1).set r1 i).set r2 j).set r3 l) q1⟩⟩
def dBits (t : DTE) : DTE := fun ρ G Q => t ρ G fun d G1 => match d with
  | .int i => Q (.int (Builtin.Int.intBits i : Nat)) G1
  | _ => False
theorem xbits (ho : XE X o t) (hbase : attributeBase o "bit_length" X.env (eval o X.env) = eval o X.env := by rfl) (hline : (apos.endLine == pos.line) = true := by rfl) : XE X (.Call (.Attribute o "bit_length" apos) [] [] pos) (dBits t) :=
  PE.imp (pe_bits ho hbase hline) fun σ H Q ⟨ρ, G, QD, hs, hg, ht, hf⟩ => ⟨ρ, G, _, hs, hg, ht, fun v H1 d G1 k1 g1 r1 q1 => by
    cases r1 <;> first | exact q1.elim | skip
    exact ⟨_, rfl, hf _ H1 _ G1 k1 g1 (.int _) q1⟩⟩
/-- {} -/
def dDictN : DTE := fun _ G Q => Q (.dct []) G
def dDictT : DTE := fun _ G Q => ∀ p, G p = none → Q (.ref p) (gput G p (.dct []))
end
/-! sorted(d), list(d): int keys -/
def fSortD : D → GH → DE → Prop := fun d G Q => onKs (dctOf d G) fun ks => ∃ ns : List Int, ks.map (·.1) = ns.map Sum.inl ∧ ns.length < 64 ∧ ∀ ns' : List Int, ns'.Perm ns → ns'.Pairwise (· ≤ ·) → Q (.lst (ns'.map D.int)) G
abbrev rSortD : List V → Hp → VK → Prop := fun xs H Q => ∃ (a : Addr) (kvs : List (Key × V)) (ks : List Int), xs = [.ref a] ∧ Rd H a (.dK kvs) ∧ kvs.map (·.1) = ks.map Sum.inl ∧ ks.length < 64 ∧
    ∀ (ys : List Int) (p : Addr), ys.Perm ks → ys.Pairwise (· ≤ ·) → H p = none → Q (.ref p) (upd H p (.lst (ys.map V.int)))
theorem RpK.keys {K : PySem.W.Frag} {G : GH} {H : Hp} : ∀ {ks : List (Key × D)} {kv : List (Key × V)}, RpK K G H ks kv → kv.map (·.1) = ks.map (·.1)
  | _, _, .nil => rfl
  | _, _, .cons _ t => by rw [List.map_cons, List.map_cons, t.keys]
theorem cd_sortD {K : PySem.W.Frag} : CallD K rSortD (on1 fSortD) := call1 fun G H d v QD Q g r h hq => by
  obtain ⟨ks, e1, ns, e2, e3, q⟩ := onKs_some h
  obtain ⟨a, kv, rfl, rd, z, rl⟩ := dct_at g r e1
  exact ⟨a, kv, ns, rfl, rd, rl.keys.trans e2, e3, fun ys p h1 h2 hp => hq _ _ _ G (Keep.lay g hp) (g.lay hp) (Rp.newLst g hp (by rw [List.length_map, h1.length_eq, sizeLine_eq]; omega) (RpL.ints ys)) (q ys h1 h2)⟩
theorem keysD_rp {K : PySem.W.Frag} {G : GH} {H : Hp} : ∀ {ks : List (Key × D)} {kv : List (Key × V)}, RpK K G H ks kv → RpL K G H (keysD ks) (kv.map fun p => kV p.1)
  | _, _, .nil => .nil
  | _, _, @RpK.cons _ _ _ k _ _ _ _ _ t => .cons (Rp.key k) (keysD_rp t)
def fListD : D → GH → DE → Prop := fun d G Q => match d with
  | .ref a => (match G a with
    | some (.dct ks) => Q (.lst (keysD ks)) G
    | _ => False)
  | _ => False
theorem cd_listD {K : PySem.W.Frag} : CallD K rListD (on1 fListD) := call1 fun G H d v QD Q g r h hq => by
  cases r <;> first | exact h.elim | skip
  rename_i a
  have h1 : (match G a with
    | some (.dct ks) => QD (.lst (keysD ks)) G
    | _ => False) := h
  cases e : G a with
  | none => rw [e] at h1; exact h1.elim
  | some c =>
    rw [e] at h1
    cases c <;> first | exact h1.elim | skip
    obtain ⟨z, kv, hv, rl⟩ := cell_dct g e
    exact ⟨a, kv, rfl, hv, fun p hp => hq _ _ _ G (Keep.lay g hp) (g.lay hp) (Rp.newLst g hp (by unfold keysD; rw [List.length_map]; exact z) (keysD_rp rl)) h1⟩
/-! f(k = v), the parameters in order -/
abbrev XK (X : Cx) (kws : List Keyword) (t : DTA) : Prop := PK X kws (lowA X.K t)
theorem PK.imp {X : Cx} {kws : List Keyword} {t u : TA} (h : PK X kws t) (i : ∀ σ H Q, u σ H Q → t σ H Q) : PK X kws u := ⟨fun pos pins s σ H Q I w => h.run pos pins s σ H Q I (i σ H Q w)⟩
theorem xk_nil {X : Cx} : XK X [] dNil := PK.imp pk_nil fun σ H Q ⟨ρ, G, QD, hs, hg, ht, hf⟩ => hf [] H [] G Keep.refl hg .nil ht
theorem xk_cons {X : Cx} {e : Expr} {kws : List Keyword} {nm : Option Str} {kp : Pos} {t : DTE} {u : DTA} (h : XE X e t) (hr : XK X kws u) : XK X (⟨nm, e, kp⟩ :: kws) (dCons t u) :=
  PK.imp (pk_cons h hr) fun σ H Q ⟨ρ, G, QD, hs, hg, ht, hf⟩ => ⟨ρ, G, _, hs, hg, ht, fun v H1 d G1 k1 g1 r1 q1 =>
    ⟨ρ, G1, _, hs.keep k1, g1, q1, fun vs H2 ds G2 k2 g2 r2 q2 => hf _ H2 _ G2 (k1.trans k2) g2 (.cons (r1.keep k2) r2) q2⟩⟩
theorem app_vals : ∀ {vs zs : List V} {us ws : List Value}, Vals vs us → Vals zs ws → Vals (vs ++ zs) (us ++ ws)
  | _, _, _, _, .nil, s => s
  | _, _, _, _, .cons r t, s => .cons r (app_vals t s)
/-- a def that is called by its keywords in order -/
structure CalK (P : Program) (w : World) (K : PySem.W.Frag) (mg : Str → Option Value) (base : Heap) (k : Nat) (x : Str) (ks : List Str) (n : Nat) (S : DSp) : Prop where
  ex : ∃ (f : Addr) (fd : FuncData) (ps : List Str), FnOk P w K mg base CX0 k f fd ps (lowSp K n S) ∧ mg x = some (.ref f) ∧ PySem.W.keepIn K (.ref f) = true ∧ KBinds K fd ps ks (fun us ws => us ++ ws) (fun vs zs => vs ++ zs)
theorem xcallK {X : Cx} {k j n : Nat} {x : Str} {ks : List Str} {S : DSp} {p pos : Pos} {kws : List Keyword} {t : DTA} (c : CalK X.prog X.w X.K X.mg X.base k x ks n S) (hr : Room j X.A) (hk : k ≤ j) (ha : XK X kws t) (hg : Gl X x := by rfl)
    (hall : (backToKw pos (keywordEach kws X.env)).all (·.1.isSome) = true := by rfl) (hks : (backToKw pos (keywordEach kws X.env)).filterMap (·.1) = ks := by rfl)
    (hdb : (x == ("__debug__" : Str)) = false := by decide) (hpl : ((backTo pos (starEach [] X.env)).any (·.1) || (backToKw pos (keywordEach kws X.env)).any (·.1.isNone)) = false := by rfl) :
    XE X (.Call (.Name x p) [] kws pos) (dCall n S t) := by
  obtain ⟨f, fd, ps, F, hm, kp, b⟩ := c.ex
  exact PE.imp (pe_kwOnly F (hr.mono hk) hg hm kp b pass0 ha hall hks hdb hpl) fun σ H Q ⟨ρ, G, QD, hs, hgk, ht, hf⟩ => ⟨ρ, G, _, hs, hgk, ht, fun vs H1 ds G1 k1 g1 r1 ⟨l, q⟩ => ⟨ds, G1, QD, l, r1, g1, q, hf.from k1⟩⟩
theorem kb1 {K : PySem.W.Frag} {x qual x1 : Str} {params : Arguments} {body : List Stmt} {scope : Scope} {kws : List (Str × V)} {f : Addr} {fd : FuncData} (F : FunD K x qual params body scope [] kws f fd)
    (h0 : ∀ (kV doc pm : Value) (an : Option Addr) (cdv ct v : Value), bindArgs (PySem.W.fnOf x qual params body scope .none kV doc pm an cdv ct) ⟨[v], []⟩ = pure [(x1, v)])
    (h1 : ∀ (kV doc pm : Value) (an : Option Addr) (cdv ct v : Value), bindArgs (PySem.W.fnOf x qual params body scope .none kV doc pm an cdv ct) ⟨[], [(x1, v)]⟩ = pure [(x1, v)]) :
    KBinds K fd [x1] [x1] (fun us ws => us ++ ws) (fun vs zs => vs ++ zs) := by
  obtain ⟨oc, od, dV, kV, doc, pm, an, cdv, ct, osl, rfl, lk, hcd, hD, hK⟩ := F.ex
  rcases hD with ⟨_, rfl⟩ | ⟨e, _⟩
  · refine ⟨fun s us ws _ hl => ?_, fun r1 r2 => ?_⟩
    · match us, ws, hl with
      | [v], [], _ => exact .of_eq (h0 kV doc pm an cdv ct v)
      | [], [v], _ => exact .of_eq (h1 kV doc pm an cdv ct v)
      | [], [], hl => exact absurd hl (by simp)
      | [_], _ :: _, hl => exact absurd hl (by simp)
      | [], _ :: _ :: _, hl => exact absurd hl (by simp)
      | _ :: _ :: _, _, hl => exact absurd hl (by simp)
    · exact app_vals r1 r2
  · exact absurd rfl e
/-- name = {..} on one line, the dict followed -/
theorem xs_setDc {X : Cx} {kx vx tg iter : Expr} {ifs : List Expr} {pos : Pos} {wi : DTA} {g : DTG} {tt : DTT} {tk tv : DTE} {ws : List Nat} {scope : Scope} {own : List (Str × Nat)} (i : Nat) {y : Str} {py spos : Pos} (hc : X.calm = true) (hN : X.N.Nodup) (hi : XI X tg iter wi) (ok : BlkOk X.N X.env.scope scope own) (hw : ∀ i ∈ ws, i ∈ own.map (·.2))
    (hg : ∀ (s : Shared) (H : Hp) (C : Addr) (cl : List (Str × Addr)) (fp : List Addr), XH (X.blk s H scope (compEnvC scope cl C X.env) fp) ws tg g) (ht : ∀ (s : Shared) (H : Hp) (C : Addr) (cl : List (Str × Addr)) (fp : List Addr), XTs (X.blk s H scope (compEnvC scope cl C X.env) fp) ifs tt)
    (hk : ∀ (s : Shared) (H : Hp) (C : Addr) (cl : List (Str × Addr)) (fp : List Addr), XE (X.blk s H scope (compEnvC scope cl C X.env) fp) kx tk)
    (he : ∀ (s : Shared) (H : Hp) (C : Addr) (cl : List (Str × Addr)) (fp : List Addr), XE (X.blk s H scope (compEnvC scope cl C X.env) fp) vx tv)
    (hsw : swapsWith (.DictComp kx vx [⟨tg, iter, ifs, 0⟩] scope pos) (some (.Name y py)) spos.line X.env = pure true := by rfl) (hy : X.N[i]? = some y := by rfl) (hyl : X.env.scope.names.lookup y = some .local := by rfl) (hst : ∀ x, foldedSetIterable iter X.env x = pure x := by intro _; rfl) :
    XS X (.Assign [.Name y py] (.DictComp kx vx [⟨tg, iter, ifs, 0⟩] scope pos) spos) (dAsg (dDc false wi g tt tk tv (own.map (·.2))) (gNm i)) := by
  constructor
  intro pins s σ H E I h
  rw [exec_Assign_Name_used _ _ _ _ hsw]
  refine wpAny_bind (wpAny_standAt (wpAny_bind ?_))
  show wpAny _ X.A (do let _ ← comprehension (.DictComp kx vx [⟨tg, iter, ifs, 0⟩] scope pos) scope X.env (firstIterPos [⟨tg, iter, ifs, 0⟩] pos) newDict false (eval iter X.env) (some (assign (.Name y py) X.env))) _ _ s
  have h' : tDc (lowI X.K wi) (lowH X.K ws g) (lowT X.K tt) (lowE X.K tk) (lowE X.K tv) (own.map (·.2)) σ H (fun x H1 => E.nx (σ.set i (some x)) H1) := by
    obtain ⟨ρ, G, DD, hs, hgk, ht', hf⟩ := h
    exact low_dcT hw ⟨ρ, G, fun d G1 => gNm i d ρ G1 DD.nx, hs, hgk, ht', fun v H1 d G1 k1 g1 r1 q1 => hf.nx _ H1 _ G1 k1 g1 ((hs.keep k1).set r1 i) q1⟩
  refine wpAny_bind (thn (dc_core (Qf := fun _ s' => SP X pins E .next s') hc hN I hi ok hg ht hk he hst h' fun L C s' m H' I' q hn f => ?_) fun _ s' hq => wpAny_pure (wpAny_pure hq))
  show wpAny _ _ (assign (.Name y py) X.env (.ref L)) _ _ _
  refine wpAny_assign_Name (store_ok2 (v := V.ref L) I' hN hy (.inl hyl) rfl (fun s2 I2 ⟨a, sb, ha⟩ => ?_) (.inr hyl))
  obtain ⟨f0, f1, f2, f3, f4, f5⟩ := f
  have ne : C ≠ a := by
    rcases ha with z | z
    · exact fun e => f1 (e.trans z)
    · exact fun e => f4 y a z e.symm
  exact ⟨m, hn.sameBut sb ne, fun h3 sb3 => ⟨_, H', I2.turned (t' := s2.toks) (fun b o hb e => (sb3.2 b hb).trans e) f0 f1 f3 f4 f5, q⟩⟩
end DL
set_option Elab.async false
set_option linter.all false
set_option maxRecDepth 100000
set_option maxHeartbeats 2000000
/-! The D layer: tests joined, dict displays, constants. -/
namespace DL
open PySem PySem.Spec PyProof.Rows L2
section
variable {X : Cx} {e k v : Expr} {pos : Pos} {t : DTT} {tk tv : DTE}
theorem xw_t (h : XW X e t) : XT X e t := h.pt
theorem xdictT : XE X (.Dict [] [] pos) dDictT :=
  PE.imp pe_dnewK fun σ H Q ⟨ρ, G, QD, hs, hg, ht, hf⟩ => fun p hp => hf _ _ _ _ (Keep.put hp) (hg.put (c := .dct []) hp ⟨Nat.zero_le _, [], upd_same, .nil⟩) (.ref p) (ht p (hg.fresh hp))
/-- {k: v}, locked -/
def dDict1 (tk tv : DTE) : DTE := fun ρ G Q => ∀ p, G p = none → tk ρ (gput G p (.dct [])) fun y G1 => tv ρ G1 fun z G2 => G2 p = some (.dct []) ∧ onY (keyOf y) fun q => Q (.dct [(q, z)]) (gdel G2 p)
theorem xdict1 (hk : XE X k tk) (hv : XE X v tv) : XE X (.Dict [some k] [v] pos) (dDict1 tk tv) :=
  PE.imp (pe_frz (pe_disp (pps_cons hk hv pps_nil) rfl rfl (by simp) (by simp))) fun σ H Q ⟨ρ, G, QD, hs, hg, ht, hf⟩ => fun p hp => by
    have k0 : Keep G H (gput G p (.dct [])) (upd H p (.dK [])) := Keep.put hp
    have g0 : GOk X.K (gput G p (.dct [])) (upd H p (.dK [])) := hg.put (c := .dct []) hp ⟨Nat.zero_le _, [], upd_same, .nil⟩
    refine ⟨ρ, _, _, hs.keep k0, g0, ht p (hg.fresh hp), fun x H1 y G1 k1 g1 r1 q1 => ⟨ρ, G1, _, (hs.keep k0).keep k1, g1, q1, fun u H2 z G2 k2 g2 r2 q2 => ?_⟩⟩
    obtain ⟨e2, q2⟩ := q2
    obtain ⟨q, eq, q2⟩ := onY_some q2
    obtain ⟨_, kv, hv, rl⟩ := cell_dct g2 e2
    cases rl
    refine ⟨hv, [(q, u)], ?_, by simp, ?_⟩
    · rw [keyOf_rp (r1.keep k2) eq]
      rfl
    · refine .inr ⟨p, [(q, u)], rfl, upd_same, fun od => ?_⟩
      rw [upd_upd]
      have kl : Keep G2 H2 (gdel G2 p) (upd H2 p (.frz od (.dK [(q, u)]))) := Keep.lockD e2
      exact hf _ _ _ _ ((k0.trans (k1.trans k2)).trans kl) (g2.lockD e2) (.dct gdel_same upd_same (by show 1 ≤ sizeLine; decide) (.cons (r2.keep kl) .nil)) q2
/-- a constant of the text: data all along -/
structure ConD (K : PySem.W.Frag) (mg : Str → Option Value) (x : Str) (d : D) : Prop where
  ex : ∃ (v : V) (u : Value), mg x = some u ∧ RelV v u ∧ ∀ G H, Rp K G H d v
theorem xglobK {x : Str} {d : D} (c : ConD X.K X.mg x d) (hg : Gl X x := by rfl) (hd : (x == ("__debug__" : Str)) = false := by decide) : XE X (.Name x pos) (dC d) := by
  obtain ⟨v, u, hm, r, h⟩ := c.ex
  exact xglob hm r h hg hd
end
/-! built-in names -/
theorem boot_b_isinstance : bootBuiltins "isinstance" = some (.builtin "isinstance") := by decide +kernel
theorem boot_b_len : bootBuiltins "len" = some (.builtin "len") := by decide +kernel
theorem boot_b_all : bootBuiltins "all" = some (.builtin "all") := by decide +kernel
theorem boot_b_any : bootBuiltins "any" = some (.builtin "any") := by decide +kernel
theorem boot_b_abs : bootBuiltins "abs" = some (.builtin "abs") := by decide +kernel
theorem boot_b_max : bootBuiltins "max" = some (.builtin "max") := by decide +kernel
theorem boot_b_min : bootBuiltins "min" = some (.builtin "min") := by decide +kernel
theorem boot_b_sum : bootBuiltins "sum" = some (.builtin "sum") := by decide +kernel
theorem boot_b_sorted : bootBuiltins "sorted" = some (.builtin "sorted") := by decide +kernel
theorem boot_t_int : bootBuiltins "int" = some (.type "int") := by decide +kernel
theorem boot_t_bool : bootBuiltins "bool" = some (.type "bool") := by decide +kernel
theorem boot_t_str : bootBuiltins "str" = some (.type "str") := by decide +kernel
theorem boot_t_tuple : bootBuiltins "tuple" = some (.type "tuple") := by decide +kernel
theorem boot_t_list : bootBuiltins "list" = some (.type "list") := by decide +kernel
end DL
set_option Elab.async false
set_option linter.all false
set_option maxRecDepth 100000
set_option maxHeartbeats 2000000
/-! The D layer: readings that compute. -/
namespace DL
open PySem PySem.Spec PyProof.Rows L2
def Ext (G G' : GH) : Prop := ∀ a c, G a = some c → G' a = some c
theorem Ext.refl {G : GH} : Ext G G := fun _ _ h => h
theorem Ext.trans {G G1 G2 : GH} (h : Ext G G1) (k : Ext G1 G2) : Ext G G2 := fun a c e => k a c (h a c e)
theorem Ext.put {G : GH} {p : Addr} {c : DO} (h : G p = none) : Ext G (gput G p c) := fun a o e => by
  by_cases q : a = p
  · rw [q, h] at e; cases e
  · rw [gput_ne q]; exact e
theorem Ext.put2 {G G' : GH} {p : Addr} {c d : DO} (e : Ext (gput G p c) G') : Ext (gput G p d) (gput G' p d) := fun a o h => by
  by_cases q : a = p
  · rw [q, gput_same] at h ⊢; exact h
  · rw [gput_ne q] at h ⊢
    exact e a o (by rw [gput_ne q]; exact h)
theorem Ext.free {G G' : GH} {p : Addr} (h : Ext G G') (n : G' p = none) : G p = none := by
  cases e : G p with
  | none => rfl
  | some c => rw [h p c e] at n; cases n
theorem Ext.del {G G' : GH} {p : Addr} (h : Ext G G') (n : G p = none) : Ext G (gdel G' p) := fun a o e => by
  by_cases q : a = p
  · rw [q, n] at e; cases e
  · rw [gdel_ne q]; exact h a o e
section
variable {g : DTG} {tt : DTT} {te : DTE} {ρ : Dt} {p : Addr} {k : List D → GH → Prop} {Q : DE} {G : GH} {xs : List D}
/-- a comprehension by a law that each turn keeps -/
theorem lcIn_run (I : List D → List D → GH → Prop) (hn : ∀ acc G, I acc [] G → k acc G)
    (hs : ∀ acc x r G (K1 : DE) (K0 : GH → Prop), I acc (x :: r) G → (∀ y G4, (G4 p = some (.lst acc) ∧ acc.length < sizeLine) ∧ I (acc ++ [y]) r (gput G4 p (.lst (acc ++ [y]))) → K1 y G4) → (∀ G3, I acc r G3 → K0 G3) →
      g x ρ G fun ρ2 G2 => tt ρ2 G2 fun b G3 => if b = true then te ρ2 G3 K1 else K0 G3) : ∀ (xs acc : List D) (G : GH), I acc xs G → lcIn g tt te ρ p k xs acc G
  | [], acc, G, h => hn acc G h
  | x :: r, acc, G, h => hs acc x r G (fun y G4 => (G4 p = some (.lst acc) ∧ acc.length < sizeLine) ∧ lcIn g tt te ρ p k r (acc ++ [y]) (gput G4 p (.lst (acc ++ [y])))) (fun G3 => lcIn g tt te ρ p k r acc G3) h
      (fun y G4 ⟨h1, h2⟩ => ⟨h1, lcIn_run I hn hs r (acc ++ [y]) _ h2⟩) (fun G3 h3 => lcIn_run I hn hs r acc G3 h3)
/-- .. with a condition, of things without a place -/
theorem lc_fm (c : D → Bool) (f : D → D) (hl : xs.length ≤ sizeLine) (hp : G p = none)
    (h : ∀ x ∈ xs, ∀ (G' : GH) (K1 : DE) (K0 : GH → Prop), Ext G G' → (if c x = true then K1 (f x) G' else K0 G') → g x ρ G' fun ρ2 G2 => tt ρ2 G2 fun b G3 => if b = true then te ρ2 G3 K1 else K0 G3)
    (hq : Q (.lst ((xs.filter c).map f)) G) : lcIn g tt te ρ p (lcEnd true Q p) xs [] (gput G p (.lst [])) := by
  refine lcIn_run (fun acc r G' => (∃ d, d ++ r = xs ∧ acc = (d.filter c).map f) ∧ G' = gput G p (.lst acc)) ?_ ?_ xs [] _ ⟨⟨[], rfl, rfl⟩, rfl⟩
  · rintro acc G' ⟨⟨d, e1, e2⟩, rfl⟩
    rw [List.append_nil] at e1
    refine ⟨gput_same, ?_⟩
    show Q (.lst acc) (gdel (gput G p (.lst acc)) p)
    rw [gdel_gput hp, e2, e1]
    exact hq
  · rintro acc x r G' K1 K0 ⟨⟨d, e1, e2⟩, rfl⟩ h1 h0
    have hx : x ∈ xs := by rw [← e1]; exact List.mem_append_right _ (List.mem_cons_self ..)
    have hd : d.length < xs.length := by rw [← e1, List.length_append, List.length_cons]; omega
    have ha : acc.length ≤ d.length := by rw [e2, List.length_map]; exact List.length_filter_le ..
    refine h x hx _ K1 K0 (Ext.put hp) ?_
    split
    · rename_i ec
      refine h1 _ _ ⟨⟨gput_same, by omega⟩, ⟨d ++ [x], by rw [List.append_assoc]; exact e1, ?_⟩, gput_gput⟩
      rw [List.filter_append, List.map_append, e2]
      simp [ec]
    · rename_i ec
      refine h0 _ ⟨⟨d ++ [x], by rw [List.append_assoc]; exact e1, ?_⟩, rfl⟩
      rw [List.filter_append, List.map_append, e2]
      simp [ec]
theorem lc_map (f : D → D) (hl : xs.length ≤ sizeLine) (hp : G p = none) (h : ∀ x ∈ xs, ∀ (G' : GH) (C : DE), Ext G G' → C (f x) G' → g x ρ G' fun ρ2 G2 => te ρ2 G2 C)
    (hq : Q (.lst (xs.map f)) G) : lcIn g dYes te ρ p (lcEnd true Q p) xs [] (gput G p (.lst [])) := by
  refine lc_fm (fun _ => true) f hl hp (fun x hx G' K1 K0 e q => h x hx G' K1 e (by simpa using q)) ?_
  have e : xs.filter (fun _ => true) = xs := List.filter_eq_self.mpr fun _ _ => rfl
  rw [e]
  exact hq
/-- .. behind what is there already -/
theorem lcIn_fm (c : D → Bool) (f : D → D) (hp : G p = none) : ∀ (xs acc : List D), acc.length + xs.length ≤ sizeLine →
    (∀ x ∈ xs, ∀ (G' : GH) (K1 : DE) (K0 : GH → Prop), Ext G G' → (if c x = true then K1 (f x) G' else K0 G') → g x ρ G' fun ρ2 G2 => tt ρ2 G2 fun b G3 => if b = true then te ρ2 G3 K1 else K0 G3) →
    k (acc ++ (xs.filter c).map f) (gput G p (.lst (acc ++ (xs.filter c).map f))) → lcIn g tt te ρ p k xs acc (gput G p (.lst acc))
  | [], acc, _, _, hk => by
    rw [List.filter_nil, List.map_nil, List.append_nil] at hk
    exact hk
  | x :: r, acc, hl, h, hk => by
    rw [List.length_cons] at hl
    refine h x (List.mem_cons_self ..) _ (fun y G4 => (G4 p = some (.lst acc) ∧ acc.length < sizeLine) ∧ lcIn g tt te ρ p k r (acc ++ [y]) (gput G4 p (.lst (acc ++ [y])))) (fun G3 => lcIn g tt te ρ p k r acc G3) (Ext.put hp) ?_
    split
    · rename_i ec
      refine ⟨⟨gput_same, by omega⟩, ?_⟩
      rw [gput_gput]
      refine lcIn_fm c f hp r (acc ++ [f x]) (by rw [List.length_append]; simp; omega) (fun y hy => h y (List.mem_cons_of_mem _ hy)) ?_
      rw [List.filter_cons_of_pos ec, List.map_cons] at hk
      rw [List.append_assoc]
      exact hk
    · rename_i ec
      refine lcIn_fm c f hp r acc (by omega) (fun y hy => h y (List.mem_cons_of_mem _ hy)) ?_
      rw [List.filter_cons_of_neg ec] at hk
      exact hk
/-- the same, of things of any kind that are told as data -/
theorem lcIn_A {α : Type} (h : α → D) (c : α → Bool) (f : α → D) (hp : G p = none) : ∀ (l : List α) (acc : List D), acc.length + l.length ≤ sizeLine →
    (∀ a ∈ l, ∀ (G' : GH) (K1 : DE) (K0 : GH → Prop), Ext G G' → (if c a = true then K1 (f a) G' else K0 G') → g (h a) ρ G' fun ρ2 G2 => tt ρ2 G2 fun b G3 => if b = true then te ρ2 G3 K1 else K0 G3) →
    k (acc ++ (l.filter c).map f) (gput G p (.lst (acc ++ (l.filter c).map f))) → lcIn g tt te ρ p k (l.map h) acc (gput G p (.lst acc))
  | [], acc, _, _, hk => by
    rw [List.filter_nil, List.map_nil, List.append_nil] at hk
    exact hk
  | x :: r, acc, hl, hh, hk => by
    rw [List.length_cons] at hl
    refine hh x (List.mem_cons_self ..) _ (fun y G4 => (G4 p = some (.lst acc) ∧ acc.length < sizeLine) ∧ lcIn g tt te ρ p k (r.map h) (acc ++ [y]) (gput G4 p (.lst (acc ++ [y])))) (fun G3 => lcIn g tt te ρ p k (r.map h) acc G3) (Ext.put hp) ?_
    split
    · rename_i ec
      refine ⟨⟨gput_same, by omega⟩, ?_⟩
      rw [gput_gput]
      refine lcIn_A h c f hp r (acc ++ [f x]) (by rw [List.length_append]; simp; omega) (fun y hy => hh y (List.mem_cons_of_mem _ hy)) ?_
      rw [List.filter_cons_of_pos ec, List.map_cons] at hk
      rw [List.append_assoc]
      exact hk
    · rename_i ec
      refine lcIn_A h c f hp r acc (by omega) (fun y hy => hh y (List.mem_cons_of_mem _ hy)) ?_
      rw [List.filter_cons_of_neg ec] at hk
      exact hk
theorem lc_mapA {α : Type} {l : List α} {h : α → D} (f : α → D) (hl : l.length ≤ sizeLine) (hp : G p = none) (hh : ∀ a ∈ l, ∀ (G' : GH) (C : DE), Ext G G' → C (f a) G' → g (h a) ρ G' fun ρ2 G2 => te ρ2 G2 C)
    (hq : Q (.lst (l.map f)) G) : lcIn g dYes te ρ p (lcEnd true Q p) (l.map h) [] (gput G p (.lst [])) := by
  refine lcIn_A h (fun _ => true) f hp l [] (by simpa using hl) (fun a ha G' K1 K0 e q => hh a ha G' K1 e (by simpa using q)) ?_
  have e : l.filter (fun _ => true) = l := List.filter_eq_self.mpr fun _ _ => rfl
  rw [e, List.nil_append]
  refine ⟨gput_same, ?_⟩
  show Q (.lst (l.map f)) (gdel (gput G p _) p)
  rw [gdel_gput hp]
  exact hq
theorem lc_fmA {α : Type} {l : List α} {h : α → D} (c : α → Bool) (f : α → D) (hl : l.length ≤ sizeLine) (hp : G p = none)
    (hh : ∀ a ∈ l, ∀ (G' : GH) (K1 : DE) (K0 : GH → Prop), Ext G G' → (if c a = true then K1 (f a) G' else K0 G') → g (h a) ρ G' fun ρ2 G2 => tt ρ2 G2 fun b G3 => if b = true then te ρ2 G3 K1 else K0 G3)
    (hq : Q (.lst ((l.filter c).map f)) G) : lcIn g tt te ρ p (lcEnd true Q p) (l.map h) [] (gput G p (.lst [])) := by
  refine lcIn_A h c f hp l [] (by simpa using hl) hh ?_
  rw [List.nil_append]
  refine ⟨gput_same, ?_⟩
  show Q (.lst ((l.filter c).map f)) (gdel (gput G p _) p)
  rw [gdel_gput hp]
  exact hq
theorem lc2_A {α β : Type} {wi1 : DTA} {g1 : DTG} {tt1 : DTT} {vs1 : List Nat} (h : α → D) (ys : α → List β) (h' : β → D) (c : α → β → Bool) (f : α → β → D) (hp : G p = none) : ∀ (l : List α) (acc : List D), acc.length + (l.map fun x => (ys x).length).sum ≤ sizeLine →
    (∀ x ∈ l, ∃ ρ1 : Dt, (∀ (C : Dt → List D → GH → Prop) (G' : GH), Ext G G' → C ρ1 ((ys x).map h') G' → g (h x) ρ G' fun ρ2 G2 => wi1 ρ2 G2 fun l G4 => C (wipeD ρ2 vs1) l G4) ∧
      ∀ y ∈ ys x, ∀ (G' : GH) (K1 : DE) (K0 : GH → Prop), Ext G G' → (if c x y = true then K1 (f x y) G' else K0 G') → g1 (h' y) ρ1 G' fun ρ2 G2 => tt1 ρ2 G2 fun b G3 => if b = true then te ρ2 G3 K1 else K0 G3) →
    Q (.lst (acc ++ l.flatMap fun x => ((ys x).filter (c x)).map (f x))) G → lcOut g dYes wi1 g1 tt1 te vs1 ρ p (lcEnd true Q p) (l.map h) acc (gput G p (.lst acc))
  | [], acc, _, _, hk => by
    rw [List.flatMap_nil, List.append_nil] at hk
    refine ⟨gput_same, ?_⟩
    show Q (.lst acc) (gdel (gput G p (.lst acc)) p)
    rw [gdel_gput hp]
    exact hk
  | x :: r, acc, hl, hh, hk => by
    rw [List.map_cons, List.sum_cons] at hl
    obtain ⟨ρ1, h1, h2⟩ := hh x (List.mem_cons_self ..)
    refine h1 (fun ρ1 l G4 => lcIn g1 tt1 te ρ1 p (fun acc' G' => lcOut g dYes wi1 g1 tt1 te vs1 ρ p (lcEnd true Q p) (r.map h) acc' G') l acc G4) _ (Ext.put hp) ?_
    refine lcIn_A h' (c x) (f x) hp (ys x) acc (by omega) h2 ?_
    refine lc2_A h ys h' c f hp r _ ?_ (fun y hy => hh y (List.mem_cons_of_mem _ hy)) ?_
    · have hf : (((ys x).filter (c x)).map (f x)).length ≤ (ys x).length := by rw [List.length_map]; exact List.length_filter_le ..
      rw [List.length_append]
      omega
    · rw [List.flatMap_cons] at hk
      rw [List.append_assoc]
      exact hk
theorem putKD_new {acc : List (Key × D)} {q : Key} {z : D} (h : q ∉ acc.map (·.1)) : putKD acc q z = acc ++ [(q, z)] := by
  unfold putKD
  have e : (acc.any fun p => decide (p.1 = q)) = false := by
    rw [List.any_eq_false]
    intro x hx e
    exact h (List.mem_map.mpr ⟨x, hx, of_decide_eq_true e⟩)
  rw [e]
  rfl
theorem keyOf_keyD (k : Key) : keyOf (keyD k) = some k := by cases k <;> rfl
/-- a dict comprehension whose keys are all different -/
theorem dcIn_A {α : Type} {tk tv : DTE} {kk : List (Key × D) → GH → Prop} (h : α → D) (c : α → Bool) (kf : α → Key) (vf : α → D) (hp : G p = none) : ∀ (l : List α) (acc : List (Key × D)), acc.length + l.length ≤ sizeLine → (acc.map (·.1) ++ (l.filter c).map kf).Nodup →
    (∀ a ∈ l, ∀ (G' : GH) (K1 : D → D → GH → Prop) (K0 : GH → Prop), Ext G G' → (if c a = true then K1 (keyD (kf a)) (vf a) G' else K0 G') → g (h a) ρ G' fun ρ2 G2 => tt ρ2 G2 fun b G3 => if b = true then tk ρ2 G3 fun y G4 => tv ρ2 G4 fun z G5 => K1 y z G5 else K0 G3) →
    kk (acc ++ (l.filter c).map fun a => (kf a, vf a)) (gput G p (.dct (acc ++ (l.filter c).map fun a => (kf a, vf a)))) → dcIn g tt tk tv ρ p kk (l.map h) acc (gput G p (.dct acc))
  | [], acc, _, _, _, hk => by
    rw [List.filter_nil, List.map_nil, List.append_nil] at hk
    exact hk
  | x :: r, acc, hl, hn, hh, hk => by
    rw [List.length_cons] at hl
    refine hh x (List.mem_cons_self ..) _ (fun y z G5 => onY (keyOf y) fun q => (G5 p = some (.dct acc) ∧ acc.length < sizeLine) ∧ dcIn g tt tk tv ρ p kk (r.map h) (putKD acc q z) (gput G5 p (.dct (putKD acc q z)))) (fun G3 => dcIn g tt tk tv ρ p kk (r.map h) acc G3) (Ext.put hp) ?_
    split
    · rename_i ec
      rw [List.filter_cons_of_pos ec, List.map_cons] at hn hk
      have hq : kf x ∉ acc.map (·.1) := fun z => by
        have := (List.nodup_append.mp hn).2.2 _ z _ (List.mem_cons_self ..)
        exact this rfl
      rw [keyOf_keyD]
      show (_ ∧ _) ∧ dcIn g tt tk tv ρ p kk (r.map h) (putKD acc (kf x) (vf x)) (gput _ p (.dct (putKD acc (kf x) (vf x))))
      rw [putKD_new hq, gput_gput]
      refine ⟨⟨gput_same, by omega⟩, ?_⟩
      refine dcIn_A h c kf vf hp r (acc ++ [(kf x, vf x)]) (by rw [List.length_append]; simp; omega) ?_ (fun y hy => hh y (List.mem_cons_of_mem _ hy)) ?_
      · rw [List.map_append, List.append_assoc]
        exact hn
      · rw [List.append_assoc]
        exact hk
    · rename_i ec
      refine dcIn_A h c kf vf hp r acc (by omega) ?_ (fun y hy => hh y (List.mem_cons_of_mem _ hy)) ?_
      · rw [List.filter_cons_of_neg ec] at hn; exact hn
      · rw [List.filter_cons_of_neg ec] at hk; exact hk
theorem dc_fmA {α : Type} {tk tv : DTE} {l : List α} {h : α → D} (c : α → Bool) (kf : α → Key) (vf : α → D) (hl : l.length ≤ sizeLine) (hn : ((l.filter c).map kf).Nodup) (hp : G p = none)
    (hh : ∀ a ∈ l, ∀ (G' : GH) (K1 : D → D → GH → Prop) (K0 : GH → Prop), Ext G G' → (if c a = true then K1 (keyD (kf a)) (vf a) G' else K0 G') → g (h a) ρ G' fun ρ2 G2 => tt ρ2 G2 fun b G3 => if b = true then tk ρ2 G3 fun y G4 => tv ρ2 G4 fun z G5 => K1 y z G5 else K0 G3)
    (hq : Q (.dct ((l.filter c).map fun a => (kf a, vf a))) G) : dcIn g tt tk tv ρ p (dcEnd true Q p) (l.map h) [] (gput G p (.dct [])) := by
  refine dcIn_A h c kf vf hp l [] (by simpa using hl) hn hh ?_
  rw [List.nil_append]
  refine ⟨gput_same, ?_⟩
  show Q (.dct _) (gdel (gput G p _) p)
  rw [gdel_gput hp]
  exact hq
theorem dc_mapA {α : Type} {tk tv : DTE} {l : List α} {h : α → D} (fz : Bool) (kf : α → Key) (vf : α → D) (hl : l.length ≤ sizeLine) (hn : (l.map kf).Nodup) (hp : G p = none)
    (hh : ∀ a ∈ l, ∀ (G' : GH) (K1 : D → D → GH → Prop), Ext G G' → K1 (keyD (kf a)) (vf a) G' → g (h a) ρ G' fun ρ2 G2 => tk ρ2 G2 fun y G4 => tv ρ2 G4 fun z G5 => K1 y z G5)
    (hq : match fz with
      | true => Q (.dct (l.map fun a => (kf a, vf a))) G
      | false => Q (.ref p) (gput G p (.dct (l.map fun a => (kf a, vf a))))) : dcIn g dYes tk tv ρ p (dcEnd fz Q p) (l.map h) [] (gput G p (.dct [])) := by
  have e : l.filter (fun _ => true) = l := List.filter_eq_self.mpr fun _ _ => rfl
  refine dcIn_A h (fun _ => true) kf vf hp l [] (by simpa using hl) (by rw [e]; exact hn) (fun a ha G' K1 K0 ex q => hh a ha G' K1 ex (by simpa using q)) ?_
  rw [e, List.nil_append]
  cases fz with
  | true =>
    refine ⟨gput_same, ?_⟩
    show Q (.dct _) (gdel (gput G p _) p)
    rw [gdel_gput hp]
    exact hq
  | false => exact ⟨gput_same, hq⟩
/-- a loop by a law that each turn keeps -/
theorem for_run {tb : DTS} {E : DEnds} (I : List D → Dt → GH → Prop) (hn : ∀ ρ G, I [] ρ G → E.nx ρ G)
    (hs : ∀ x r ρ G (C : Dt → GH → Prop), I (x :: r) ρ G → (∀ ρ' G', I r ρ' G' → C ρ' G') → g x ρ G fun ρ2 G2 => tb { nx := C, rt := E.rt, bk := E.nx, ct := C } ρ2 G2) : ∀ (xs : List D) (ρ : Dt) (G : GH), I xs ρ G → forGo g tb E xs ρ G
  | [], ρ, G, h => hn ρ G h
  | x :: r, ρ, G, h => hs x r ρ G (fun ρ' G' => forGo g tb E r ρ' G') h fun ρ' G' h' => for_run I hn hs r ρ' G' h'
end
end DL
set_option Elab.async false
set_option linter.all false
set_option maxRecDepth 100000
set_option maxHeartbeats 0
namespace KHead
open PySem PySem.Spec PyProof.Rows L2
def top (i : Nat) : Stmt := PySem.Challenge.pw_soughtforms_k43_whole_tables.main.body.getD i (.Pass ⟨0, 0, 0, 0⟩)
abbrev s_wall : Stmt := top 1
abbrev c_FormError : Stmt := top 3
abbrev c_InvalidRow : Stmt := top 4
abbrev s_is_whole : Stmt := top 6
abbrev s_are_wholes : Stmt := top 7
abbrev s_is_rising : Stmt := top 8
abbrev s_fraction : Stmt := top 9
abbrev s_is_fraction : Stmt := top 10
abbrev s_are_fractions : Stmt := top 11
abbrev s_is_nought_row : Stmt := top 14
abbrev c_Line : Stmt := top 16
abbrev s_Line_initD : Stmt := inClass c_Line 0
abbrev s_Line_lead : Stmt := inClass c_Line 1
abbrev s_Line_less : Stmt := inClass c_Line 2
abbrev s_Line_small : Stmt := inClass c_Line 3
abbrev s_line_of : Stmt := top 17
abbrev c_Reducer : Stmt := top 18
abbrev s_Reducer_initD : Stmt := inClass c_Reducer 0
abbrev s_Reducer_left : Stmt := inClass c_Reducer 1
abbrev s_Reducer_add : Stmt := inClass c_Reducer 2
abbrev s_Reducer_row_at : Stmt := inClass c_Reducer 3
abbrev s_Reducer_told_rows : Stmt := inClass c_Reducer 4
abbrev s_Reducer_shares_at : Stmt := inClass c_Reducer 5
abbrev s_Reducer_shares_for : Stmt := inClass c_Reducer 6
abbrev s_reduced : Stmt := top 19
abbrev s_are_rows : Stmt := top 21
abbrev s_lead_of : Stmt := top 22
abbrev s_table : Stmt := top 23
abbrev s_is_table : Stmt := top 24
abbrev s_law_urn : Stmt := top 26
abbrev s_law_ball : Stmt := top 27
abbrev s_law_one_of : Stmt := top 28
abbrev s_law_equals : Stmt := top 29
abbrev s_law_part : Stmt := top 30
abbrev s_law_plus : Stmt := top 31
abbrev s_law_by : Stmt := top 32
abbrev s_law_head : Stmt := top 33
abbrev s_law_less_row : Stmt := top 34
abbrev s_law_table : Stmt := top 35
abbrev s_law_any_row : Stmt := top 36
abbrev s_law_mixed_rows : Stmt := top 37
abbrev s_law_odd_tables : Stmt := top 38
abbrev s_law_right : Stmt := top 39
abbrev s_law : Stmt := top 40
def d_wall : He.DefD := ⟨("_wall", none), "_wall", "_wall", defArgs s_wall, defBody s_wall, defScope s_wall, [], []⟩
def d_is_whole : He.DefD := ⟨("is_whole", none), "is_whole", "is_whole", defArgs s_is_whole, defBody s_is_whole, defScope s_is_whole, [], []⟩
def d_are_wholes : He.DefD := ⟨("are_wholes", none), "are_wholes", "are_wholes", defArgs s_are_wholes, defBody s_are_wholes, defScope s_are_wholes, [], []⟩
def d_is_rising : He.DefD := ⟨("is_rising", none), "is_rising", "is_rising", defArgs s_is_rising, defBody s_is_rising, defScope s_is_rising, [], []⟩
def d_fraction : He.DefD := ⟨("fraction", none), "fraction", "fraction", defArgs s_fraction, defBody s_fraction, defScope s_fraction, [], []⟩
def d_is_fraction : He.DefD := ⟨("is_fraction", none), "is_fraction", "is_fraction", defArgs s_is_fraction, defBody s_is_fraction, defScope s_is_fraction, [], []⟩
def d_are_fractions : He.DefD := ⟨("are_fractions", none), "are_fractions", "are_fractions", defArgs s_are_fractions, defBody s_are_fractions, defScope s_are_fractions, [], []⟩
def d_is_nought_row : He.DefD := ⟨("is_nought_row", none), "is_nought_row", "is_nought_row", defArgs s_is_nought_row, defBody s_is_nought_row, defScope s_is_nought_row, [], []⟩
def d_Line_initD : He.DefD := ⟨("Line", some "__init__"), "__init__", "Line.__init__", defArgs s_Line_initD, defBody s_Line_initD, defScope s_Line_initD, [], []⟩
def d_Line_lead : He.DefD := ⟨("Line", some "lead"), "lead", "Line.lead", defArgs s_Line_lead, defBody s_Line_lead, defScope s_Line_lead, [], []⟩
def d_Line_less : He.DefD := ⟨("Line", some "less"), "less", "Line.less", defArgs s_Line_less, defBody s_Line_less, defScope s_Line_less, [], []⟩
def d_Line_small : He.DefD := ⟨("Line", some "small"), "small", "Line.small", defArgs s_Line_small, defBody s_Line_small, defScope s_Line_small, [], []⟩
def d_line_of : He.DefD := ⟨("line_of", none), "line_of", "line_of", defArgs s_line_of, defBody s_line_of, defScope s_line_of, [], []⟩
def d_Reducer_initD : He.DefD := ⟨("Reducer", some "__init__"), "__init__", "Reducer.__init__", defArgs s_Reducer_initD, defBody s_Reducer_initD, defScope s_Reducer_initD, [], []⟩
def d_Reducer_left : He.DefD := ⟨("Reducer", some "left"), "left", "Reducer.left", defArgs s_Reducer_left, defBody s_Reducer_left, defScope s_Reducer_left, [], []⟩
def d_Reducer_add : He.DefD := ⟨("Reducer", some "add"), "add", "Reducer.add", defArgs s_Reducer_add, defBody s_Reducer_add, defScope s_Reducer_add, [], []⟩
def d_Reducer_row_at : He.DefD := ⟨("Reducer", some "row_at"), "row_at", "Reducer.row_at", defArgs s_Reducer_row_at, defBody s_Reducer_row_at, defScope s_Reducer_row_at, [], []⟩
def d_Reducer_told_rows : He.DefD := ⟨("Reducer", some "told_rows"), "told_rows", "Reducer.told_rows", defArgs s_Reducer_told_rows, defBody s_Reducer_told_rows, defScope s_Reducer_told_rows, [], []⟩
def d_Reducer_shares_at : He.DefD := ⟨("Reducer", some "shares_at"), "shares_at", "Reducer.shares_at", defArgs s_Reducer_shares_at, defBody s_Reducer_shares_at, defScope s_Reducer_shares_at, [], []⟩
def d_Reducer_shares_for : He.DefD := ⟨("Reducer", some "shares_for"), "shares_for", "Reducer.shares_for", defArgs s_Reducer_shares_for, defBody s_Reducer_shares_for, defScope s_Reducer_shares_for, [], []⟩
def d_reduced : He.DefD := ⟨("reduced", none), "reduced", "reduced", defArgs s_reduced, defBody s_reduced, defScope s_reduced, [], []⟩
def d_are_rows : He.DefD := ⟨("are_rows", none), "are_rows", "are_rows", defArgs s_are_rows, defBody s_are_rows, defScope s_are_rows, [], []⟩
def d_lead_of : He.DefD := ⟨("lead_of", none), "lead_of", "lead_of", defArgs s_lead_of, defBody s_lead_of, defScope s_lead_of, [], []⟩
def d_table : He.DefD := ⟨("table", none), "table", "table", defArgs s_table, defBody s_table, defScope s_table, [], []⟩
def d_is_table : He.DefD := ⟨("is_table", none), "is_table", "is_table", defArgs s_is_table, defBody s_is_table, defScope s_is_table, [], []⟩
def d_law_urn : He.DefD := ⟨("_law_urn", none), "_law_urn", "_law_urn", defArgs s_law_urn, defBody s_law_urn, defScope s_law_urn, [], []⟩
def d_law_ball : He.DefD := ⟨("_law_ball", none), "_law_ball", "_law_ball", defArgs s_law_ball, defBody s_law_ball, defScope s_law_ball, [], []⟩
def d_law_one_of : He.DefD := ⟨("_law_one_of", none), "_law_one_of", "_law_one_of", defArgs s_law_one_of, defBody s_law_one_of, defScope s_law_one_of, [], []⟩
def d_law_equals : He.DefD := ⟨("_law_equals", none), "_law_equals", "_law_equals", defArgs s_law_equals, defBody s_law_equals, defScope s_law_equals, [], []⟩
def d_law_part : He.DefD := ⟨("_law_part", none), "_law_part", "_law_part", defArgs s_law_part, defBody s_law_part, defScope s_law_part, [], []⟩
def d_law_plus : He.DefD := ⟨("_law_plus", none), "_law_plus", "_law_plus", defArgs s_law_plus, defBody s_law_plus, defScope s_law_plus, [], []⟩
def d_law_by : He.DefD := ⟨("_law_by", none), "_law_by", "_law_by", defArgs s_law_by, defBody s_law_by, defScope s_law_by, [], []⟩
def d_law_head : He.DefD := ⟨("_law_head", none), "_law_head", "_law_head", defArgs s_law_head, defBody s_law_head, defScope s_law_head, [], []⟩
def d_law_less_row : He.DefD := ⟨("_law_less_row", none), "_law_less_row", "_law_less_row", defArgs s_law_less_row, defBody s_law_less_row, defScope s_law_less_row, [], []⟩
def d_law_table : He.DefD := ⟨("_law_table", none), "_law_table", "_law_table", defArgs s_law_table, defBody s_law_table, defScope s_law_table, [], []⟩
def d_law_any_row : He.DefD := ⟨("_law_any_row", none), "_law_any_row", "_law_any_row", defArgs s_law_any_row, defBody s_law_any_row, defScope s_law_any_row, [], []⟩
def d_law_mixed_rows : He.DefD := ⟨("_law_mixed_rows", none), "_law_mixed_rows", "_law_mixed_rows", defArgs s_law_mixed_rows, defBody s_law_mixed_rows, defScope s_law_mixed_rows, [], []⟩
def d_law_odd_tables : He.DefD := ⟨("_law_odd_tables", none), "_law_odd_tables", "_law_odd_tables", defArgs s_law_odd_tables, defBody s_law_odd_tables, defScope s_law_odd_tables, [], []⟩
def d_law_right : He.DefD := ⟨("_law_right", none), "_law_right", "_law_right", defArgs s_law_right, defBody s_law_right, defScope s_law_right, [], []⟩
def d_law : He.DefD := ⟨("law", none), "law", "law", defArgs s_law, defBody s_law, defScope s_law, [], []⟩
def fn : List He.DefD := [d_wall, d_is_whole, d_are_wholes, d_is_rising, d_fraction, d_is_fraction, d_are_fractions, d_is_nought_row, d_Line_initD, d_Line_lead, d_Line_less, d_Line_small, d_line_of, d_Reducer_initD, d_Reducer_left, d_Reducer_add, d_Reducer_row_at, d_Reducer_told_rows, d_Reducer_shares_at, d_Reducer_shares_for, d_reduced, d_are_rows, d_lead_of, d_table, d_is_table, d_law_urn, d_law_ball, d_law_one_of, d_law_equals, d_law_part, d_law_plus, d_law_by, d_law_head, d_law_less_row, d_law_table, d_law_any_row, d_law_mixed_rows, d_law_odd_tables, d_law_right, d_law]
def fa : List He.Fa := [.glo "_wall", .glo "is_whole", .glo "are_wholes", .glo "is_rising", .glo "fraction", .glo "is_fraction", .glo "are_fractions", .glo "is_nought_row", .glo "line_of", .glo "reduced", .glo "are_rows", .glo "lead_of", .glo "table", .glo "is_table", .glo "_law_urn", .glo "_law_ball", .glo "_law_one_of", .glo "_law_equals", .glo "_law_part", .glo "_law_plus", .glo "_law_by", .glo "_law_head", .glo "_law_less_row", .glo "_law_table", .glo "_law_any_row", .glo "_law_mixed_rows", .glo "_law_odd_tables", .glo "_law_right", .glo "law", .glo "FormError", .glo "InvalidRow", .glo "Line", .glo "Reducer", .glo "ONE", .free "ValueError", .free "abs", .free "all", .free "any", .free "bool", .free "enumerate", .free "int", .free "isinstance", .free "len", .free "list", .free "max", .free "min", .free "range", .free "sorted", .free "str", .free "super", .free "tuple", .free "zip", .cls "Line", .noat "Line" "numbers", .noat "Line" "shares", .meth "Line" "lead", .meth "Line" "less", .meth "Line" "small", .mkr "Line", .cls "Reducer", .noat "Reducer" "lines", .meth "Reducer" "left", .meth "Reducer" "add", .meth "Reducer" "row_at", .meth "Reducer" "told_rows", .meth "Reducer" "shares_at", .meth "Reducer" "shares_for", .mkr "Reducer"]
def gblt (K : PySem.W.Frag) (x : Str) (id : String) : Bool := match PySem.W.nsIn K mainGlobals x with
  | some (some (.builtin j)) => decide (j = id)
  | _ => false
def ex (K : PySem.W.Frag) : Bool := true && gblt K "gcd" "math.gcd" && He.tupB K "ONE" [.int 1, .int 1]
abbrev R : PySem.W.OpenRow := PySem.W.OpenLaw.row PySem.Challenge.rw_soughtforms_k43_whole_tables
abbrev hk : PySem.W.Hook := He.hookX 5 fa fn [] [] ex
def ob (s : PySem.W.SharedT) : He.AlX := He.obsX 5 fa fn [] [] ex (HandSHeadRun.getT s)
theorem ob_eq (s : PySem.W.SharedT) : ob s = hk.obs s.abs := He.obsX_eq (HandSHeadRun.getT_eq s)
def loose0 : List PySem.Str := ["_wall", "FormError", "InvalidRow", "is_whole", "are_wholes", "is_rising", "fraction", "is_fraction", "are_fractions", "ONE", "is_nought_row", "Line", "line_of", "Reducer", "reduced", "are_rows", "lead_of", "table", "is_table", "_law_urn"]
def loose1 : List PySem.Str := ["_law_ball", "_law_one_of", "_law_equals", "_law_part", "_law_plus", "_law_by", "_law_head", "_law_less_row", "_law_table", "_law_any_row", "_law_mixed_rows", "_law_odd_tables", "_law_right"]
def loose : List PySem.Str := loose0 ++ loose1
abbrev qv : Program := PySem.W.view R.prog [0, 40]
theorem run (w : World) : HandSHeadRun.RunEqI R qv hk ob 8000 loose w := by
  unfold HandSHeadRun.RunEqI
  kernel_rfl
end KHead
set_option Elab.async false
set_option linter.all false
set_option maxRecDepth 100000
namespace K43
open PySem PySem.Spec PyProof.Rows L2 DL
/-! what the defs do, as told of data -/
abbrev Fr := Int × Int
def dF (a : Fr) : D := .tup [.int a.1, .int a.2]
def dQ (q : Rat) : D := .tup [.int q.num, .int (q.den : Int)]
def dRow (r : List Rat) : D := .tup (r.map dQ)
def dTab (t : List (List Rat)) : D := .tup (t.map dRow)
/-! kinds -/
def isWh (d : D) : Bool := isIntD d && !isBoolD d
def itemsT : D → List D
  | .tup ds => ds
  | _ => []
/-- data of tuples and lists, of such a depth at most, short -/
def okn : Nat → D → Bool
  | 0, d => leafOk d
  | n + 1, d => match d with
    | .tup ds => decide (ds.length ≤ 1000) && ds.all (okn n)
    | .lst ds => decide (ds.length ≤ 1000) && ds.all (okn n)
    | d => leafOk d
def areWh (d : D) (n : Int) : Bool := isTupD d && (decide (((itemsT d).length : Int) = n) && (itemsT d).all isWh)
def isFr (d : D) : Bool := match d with
  | .tup [.int a, .int b] => decide (0 < b) && decide (Nat.gcd a.natAbs b.natAbs = 1)
  | _ => false
def areFr (d : D) (n : Int) : Bool := isTupD d && (decide (((itemsT d).length : Int) = n) && (itemsT d).all isFr)
def fullRow (d : D) : Bool := isTupD d && !(itemsT d).isEmpty
def areRows (d : D) : Bool := isTupD d && ((itemsT d).all fullRow && (itemsT d).all fun r => areFr r ((itemsT ((itemsT d).headD .non)).length : Int))
def S_is_whole : DSp := fun ds G Q => ∃ d, ds = [d] ∧ okn 5 d = true ∧ Q (.bl (isWh d)) G
def S_are_wholes : DSp := fun ds G Q => ∃ d n, ds = [d, .int n] ∧ okn 6 d = true ∧ Q (.bl (areWh d n)) G
def S_is_rising : DSp := fun ds G Q => ∃ ns : List Int, ds = [.lst (ns.map D.int)] ∧ ns.length ≤ 1000 ∧ Q (.bl ((ns.zip ns.tail).all fun p => decide (p.1 < p.2))) G
/-- a pair as a fraction in lowest terms, by the sign of the lower one -/
def S_fraction : DSp := fun ds G Q => ∃ a b : Int, ds = [.int a, .int b] ∧ b ≠ 0 ∧ b.natAbs < 2 ^ 9000 ∧ Q (dQ (Rat.divInt a b)) G
def S_is_fraction : DSp := fun ds G Q => ∃ d, ds = [d] ∧ okn 6 d = true ∧ Q (.bl (isFr d)) G
def S_are_fractions : DSp := fun ds G Q => ∃ d n, ds = [d, .int n] ∧ okn 7 d = true ∧ Q (.bl (areFr d n)) G
def S_is_nought_row : DSp := fun ds G Q => ∃ r : List Rat, ds = [dRow r] ∧ r.length ≤ 1000 ∧ Q (.bl (r.all fun q => decide (q = 0))) G
def S_are_rows : DSp := fun ds G Q => ∃ d, ds = [d] ∧ okn 8 d = true ∧ Q (.bl (areRows d)) G
/-- the first place that is not nought -/
def leadQ : List Rat → Option Nat
  | [] => none
  | q :: r => if q = 0 then (leadQ r).map (· + 1) else some 0
def S_lead_of : DSp := fun ds G Q => ∃ (r : List Rat) (i : Nat), ds = [dRow r] ∧ r.length ≤ 1000 ∧ leadQ r = some i ∧ Q (.int i) G
def S_law_head : DSp := fun ds G Q => ∃ (r : List Rat) (i : Nat), ds = [.lst (r.map dQ)] ∧ r.length ≤ 1000 ∧ leadQ r = some i ∧ Q (.int i) G
/-! lines: whole numbers and shares -/
abbrev Sh := List (Int × Int)
def dSh (sh : Sh) : D := .dct (sh.map fun p => (.inl p.1, .int p.2))
def dLine (cL : Addr) (ns : List Int) (sh : Sh) : D := .ins cL [("numbers", .lst (ns.map D.int)), ("shares", dSh sh)]
def S_Line_initD (cL : Addr) : DSp := fun ds G Q => ∃ p x y, ds = [.ref p, x, y] ∧ G p = some (.ins cL []) ∧ Q .non (gput G p (.ins cL [("numbers", x), ("shares", y)]))
def leadZ : List Int → Nat
  | [] => 0
  | n :: r => if n = 0 then leadZ r + 1 else 0
def S_Line_lead (cL : Addr) : DSp := fun ds G Q => ∃ ns sh, ds = [dLine cL ns sh] ∧ ns.length ≤ 1000 ∧ Q (.int (leadZ ns)) G
def gcdL (ns : List Int) : Nat := ns.foldl (fun g n => Nat.gcd g n.natAbs) 0
/-- a line's whole numbers, all -/
def allOf (ns : List Int) (sh : Sh) : List Int := ns ++ sh.map (·.2)
def ShOk (sh : Sh) : Prop := (sh.map (·.1)).Nodup ∧ sh.length ≤ 1000
def S_Line_small (cL : Addr) : DSp := fun ds G Q => ∃ ns sh, ds = [dLine cL ns sh] ∧ ns.length ≤ 1000 ∧ ShOk sh ∧ gcdL (allOf ns sh) < 2 ^ 9000 ∧
  ∀ g : Int, g = (if gcdL (allOf ns sh) < 2 then 1 else gcdL (allOf ns sh)) → Q (dLine cL (ns.map (· / g)) (sh.map fun p => (p.1, p.2 / g))) G
/-- by which the shares are told -/
def getZ (l : Int) : Sh → Int
  | [] => 0
  | p :: r => if p.1 = l then p.2 else getZ l r
def nthZ (i : Nat) (ns : List Int) : Int := ns.getD i 0
def LabOk (m : Int) (sh : Sh) : Prop := (sh.map (·.1)).Nodup ∧ ∀ p ∈ sh, 0 ≤ p.1 ∧ p.1 < m
def Small (e : Nat) (ns : List Int) (sh : Sh) : Prop := ∀ n ∈ allOf ns sh, n.natAbs < 2 ^ e
/-- a line less another, made small -/
structure Less (ns ms : List Int) (sh th : Sh) (at_ : Nat) (ns' : List Int) (sh' : Sh) : Prop where
  g : ∃ g : Int, 0 < g ∧ (∀ i, g * nthZ i ns' = nthZ at_ ms * nthZ i ns - nthZ at_ ns * nthZ i ms) ∧ ∀ l, g * getZ l sh' = nthZ at_ ms * getZ l sh - nthZ at_ ns * getZ l th
  len : ns'.length = ns.length
  prim : gcdL (allOf ns' sh') ≤ 1
  lab : ∀ m, LabOk m sh → LabOk m th → LabOk m sh'
def S_Line_less (cL : Addr) : DSp := fun ds G Q => ∃ ns ms sh th, ∃ i : Nat, ds = [dLine cL ns sh, dLine cL ms th, .int i] ∧ ns.length ≤ 100 ∧ ms.length = ns.length ∧ i < ns.length ∧ LabOk 100 sh ∧ LabOk 100 th ∧ Small 4400 ns sh ∧ Small 4400 ms th ∧
  ∀ ns' sh', Less ns ms sh th i ns' sh' → Q (dLine cL ns' sh') G
def S_line_of (cL : Addr) : DSp := fun ds G Q => ∃ (r : List Rat) (label : Int) (M : Nat), ds = [dRow r, .int label] ∧ r.length ≤ 100 ∧ 0 < M ∧ M < 2 ^ 4400 ∧ (∀ q ∈ r, q.den ∣ M ∧ q.num.natAbs < 2 ^ 4400) ∧
  ∀ u : Nat, 0 < u → (∀ q ∈ r, q.den ∣ u) → (∀ m, (∀ q ∈ r, q.den ∣ m) → u ∣ m) → Q (dLine cL (r.map fun q => q.num * ((u / q.den : Nat) : Int)) [(label, (u : Int))]) G
/-! the reducer -/
structure Ln where
  at_ : Nat
  ns : List Int
  sh : Sh
def dSt (cL : Addr) (st : List Ln) : DO := .dct (st.map fun p => (.inl (p.at_ : Int), dLine cL p.ns p.sh))
def dRed (cR : Addr) (a : Addr) : D := .ins cR [("lines", .ref a)]
/-- a line's number, or its share -/
def ev (ns : List Int) (sh : Sh) : Nat ⊕ Int → Int
  | .inl i => nthZ i ns
  | .inr l => getZ l sh
structure LnOk (w : Nat) (m : Int) (D : Int) (N : Nat) (p : Ln) : Prop where
  len : p.ns.length = w
  lt : p.at_ < w
  lab : LabOk m p.sh
  c : ∃ c : Int, c * ev p.ns p.sh (.inl p.at_) = D ∧ ∀ x, (c * ev p.ns p.sh x).natAbs ≤ N
  pre : ∀ i, i < p.at_ → nthZ i p.ns = 0
structure StOk (w : Nat) (m : Int) (D : Int) (N : Nat) (st : List Ln) : Prop where
  d : D ≠ 0
  dn : D.natAbs ≤ N
  nd : (st.map (·.at_)).Nodup
  ln : ∀ p ∈ st, LnOk w m D N p
  off : ∀ p ∈ st, ∀ q ∈ st, p.at_ ≠ q.at_ → nthZ q.at_ p.ns = 0
/-- how large, with so many heads -/
def NN (k : Nat) : Nat := 6480 ^ (2 ^ k - 1)
/-- rows of small fractions -/
def RowOk (w : Nat) (r : List Rat) : Prop := r.length = w ∧ ∃ M : Nat, 0 < M ∧ M ≤ 84 ∧ ∀ q ∈ r, q.den ∣ M ∧ q.num.natAbs * (M / q.den) ≤ 360
/-! spans -/
abbrev Vc := Nat → Rat
inductive Sp (S : Vc → Prop) : Vc → Prop
  | zero : Sp S (fun _ => 0)
  | add {v w : Vc} (c : Rat) : S v → Sp S w → Sp S (fun i => c * v i + w i)
def vecZ (ns : List Int) : Vc := fun i => (nthZ i ns : Rat)
def vecQ (r : List Rat) : Vc := fun i => r.getD i 0
def inSt (st : List Ln) : Vc → Prop := fun v => ∃ p ∈ st, v = vecZ p.ns
def inRows (rows : List (List Rat)) : Vc → Prop := fun v => ∃ r ∈ rows, v = vecQ r
def Same (S T : Vc → Prop) : Prop := ∀ v, Sp S v ↔ Sp T v
/-- what the reducer holds behind these rows -/
def Held (w : Nat) (m : Int) (st : List Ln) (rows : List (List Rat)) : Prop := (∃ D, StOk w m D (NN st.length) st) ∧ Same (inSt st) (inRows rows)
/-- a table in its least form -/
structure Canon (w : Nat) (t : List (List Rat)) : Prop where
  len : ∀ r ∈ t, r.length = w
  lead : ∀ r ∈ t, ∃ i, leadQ r = some i ∧ vecQ r i = 1
  up : (t.map fun r => (leadQ r).getD 0).Pairwise (· < ·)
  off : ∀ r ∈ t, ∀ q ∈ t, ∀ i, leadQ q = some i → r ≠ q → vecQ r i = 0
def Big (t : List (List Rat)) : Prop := ∀ r ∈ t, ∃ M : Nat, 0 < M ∧ M < 2 ^ 3400 ∧ ∀ q ∈ r, q.den ∣ M ∧ q.num.natAbs < 2 ^ 3400
def IsRref (w : Nat) (rows t : List (List Rat)) : Prop := Canon w t ∧ Same (inRows rows) (inRows t)
/-- the canonical rows that came before: held as they are -/
structure Plain (w : Nat) (m : Int) (st : List Ln) (rows : List (List Rat)) : Prop where
  at_ : st.map (fun p => some p.at_) = rows.map leadQ
  ok : ∀ p ∈ st, p.ns.length = w ∧ p.at_ < w ∧ LabOk m p.sh ∧ nthZ p.at_ p.ns ≠ 0
  nb : ∀ p ∈ st, (nthZ p.at_ p.ns).natAbs < 2 ^ 4400
  eq : ∀ (i : Nat) p r, st[i]? = some p → rows[i]? = some r → ∀ j, vecZ p.ns j = (nthZ p.at_ p.ns : Rat) * vecQ r j
def S_Reducer_initD (cR : Addr) : DSp := fun ds G Q => ∃ p, ds = [.ref p] ∧ G p = some (.ins cR []) ∧ ∀ a, G a = none → Q .non (gput (gput G a (.dct [])) p (.ins cR [("lines", .ref a)]))
/-- a line that is nought at all heads; with a row of small fractions, or with one that is so from the start -/
def S_Reducer_left (cL cR : Addr) : DSp := fun ds G Q => ∃ a st ns sh, ds = [dRed cR a, dLine cL ns sh] ∧ G a = some (dSt cL st) ∧ st.length < 64 ∧
  ((∃ w m D N, StOk w m D N st ∧ ns.length = w ∧ w ≤ 100 ∧ 0 ≤ m ∧ m < 100 ∧ LabOk (m + 1) sh ∧ getZ m sh ≠ 0 ∧ (∀ x, (ev ns sh x).natAbs ≤ 360) ∧ gcdL (allOf ns sh) ≤ 1 ∧ (st.length + 1) * 360 * N < 2 ^ 4400 ∧
    ∀ ns' sh', ns'.length = w → LabOk (m + 1) sh' → (∀ p ∈ st, nthZ p.at_ ns' = 0) → (∃ c : Int, c ≠ 0 ∧ ∀ x, (c * ev ns' sh' x).natAbs ≤ (st.length + 1) * 360 * N) →
      (∃ c : Rat, c ≠ 0 ∧ Sp (inSt st) fun i => vecZ ns' i - c * vecZ ns i) → Q (dLine cL ns' sh') G) ∨
   ((st.map (·.at_)).Nodup ∧ (∀ p ∈ st, p.at_ < ns.length ∧ nthZ p.at_ ns = 0) ∧ Q (dLine cL ns sh) G))
def S_Reducer_add (cL cR : Addr) : DSp := fun ds G Q => ∃ a st rows r m, ds = [dRed cR a, dRow r, .int m] ∧ G a = some (dSt cL st) ∧ 0 ≤ m ∧ m < 99 ∧
  ((∃ w, w ≤ 8 ∧ Held w m st rows ∧ RowOk w r ∧ ∀ st', Held w (m + 1) st' (rows ++ [r]) → Q .non (gput G a (dSt cL st'))) ∨
   (∃ w, w ≤ 8 ∧ Plain w m st rows ∧ Canon w (rows ++ [r]) ∧ Big [r] ∧ ∀ st', Plain w (m + 1) st' (rows ++ [r]) → Q .non (gput G a (dSt cL st'))))
def S_Reducer_row_at (cL cR : Addr) : DSp := fun ds G Q => ∃ (a : Addr) (st : List Ln) (p : Ln), ds = [dRed cR a, .int p.at_] ∧ G a = some (dSt cL st) ∧ p ∈ st ∧ (st.map (·.at_)).Nodup ∧ p.ns.length ≤ 100 ∧ p.at_ < p.ns.length ∧ nthZ p.at_ p.ns ≠ 0 ∧ (nthZ p.at_ p.ns).natAbs < 2 ^ 9000 ∧
  Q (dRow (p.ns.map fun n => Rat.divInt n (nthZ p.at_ p.ns))) G
def S_Reducer_told_rows (cL cR : Addr) : DSp := fun ds G Q => ∃ (a : Addr) (st : List Ln), ds = [dRed cR a] ∧ G a = some (dSt cL st) ∧ (st.map (·.at_)).Nodup ∧ st.length < 64 ∧
  (∀ p ∈ st, p.ns.length ≤ 100 ∧ p.at_ < p.ns.length ∧ nthZ p.at_ p.ns ≠ 0 ∧ (nthZ p.at_ p.ns).natAbs < 2 ^ 9000) ∧
  ∀ st' : List Ln, st'.Perm st → (st'.map (·.at_)).Pairwise (· < ·) → Q (dTab (st'.map fun p => p.ns.map fun n => Rat.divInt n (nthZ p.at_ p.ns))) G
def RowsOk (rows : List (List Rat)) : Prop := rows.length ≤ 20 ∧ ∃ w, 0 < w ∧ w ≤ 8 ∧ ((∀ r ∈ rows, RowOk w r) ∨ (Canon w rows ∧ Big rows))
def S_reduced : DSp := fun ds G Q => ∃ rows : List (List Rat), ds = [dTab rows] ∧ RowsOk rows ∧ ∀ t G', Ext G G' → (∀ w, (∀ r ∈ rows, r.length = w) → IsRref w rows t) → Big t → Q (dTab t) G'
def S_table : DSp := S_reduced
def isTabQ (t : List (List Rat)) : Bool :=
  t.all (fun r => !(r.all fun q => decide (q = 0))) && ((((t.map fun r => (leadQ r).getD 0).zip (t.map fun r => (leadQ r).getD 0).tail).all fun p => decide (p.1 < p.2)) &&
    (t.all (fun r => decide (vecQ r ((leadQ r).getD 0) = 1)) && t.all fun r => t.all fun q => decide ((leadQ q).getD 0 = (leadQ r).getD 0) || decide (vecQ r ((leadQ q).getD 0) = 0)))
def S_is_table : DSp := fun ds G Q => ∃ d, ds = [d] ∧ okn 8 d = true ∧ ((areRows d = false ∧ Q (.bl false) G) ∨ ∃ t w, d = dTab t ∧ 0 < w ∧ w ≤ 100 ∧ (∀ r ∈ t, r.length = w) ∧ Q (.bl (isTabQ t)) G)
/-! the law's own -/
/-- an urn: two numbers -/
def UrnOk (G : GH) (u : Addr) : Prop := ∃ a b : Int, G u = some (.lst [.int a, .int b]) ∧ 0 ≤ a ∧ a < 2 ^ 200 ∧ 0 ≤ b ∧ b < 2 ^ 64
def ExtU (u : Addr) (G G' : GH) : Prop := UrnOk G' u ∧ ∀ a c, a ≠ u → G a = some c → G' a = some c
def S_law_urn : DSp := fun ds G Q => ∃ (ns : List Int) (lap : Int), ds = [.frl (ns.map D.int), .int lap] ∧ 0 ≤ lap ∧ lap ≤ 100 ∧ ns.length ≤ 2 ^ 20 ∧ (∀ n ∈ ns, n.natAbs < 2 ^ 1048576) ∧ ∀ u G', G u = none → ExtU u G G' → Q (.ref u) G'
def S_law_ball : DSp := fun ds G Q => ∃ (u : Addr) (m : Int), ds = [.ref u, .int m] ∧ UrnOk G u ∧ 0 < m ∧ m ≤ 1000 ∧ ∀ (k : Int) G', 0 ≤ k → k < m → ExtU u G G' → Q (.int k) G'
def S_law_one_of : DSp := fun ds G Q => ∃ (u : Addr) (xs : List D), ds = [.ref u, .tup xs] ∧ UrnOk G u ∧ xs ≠ [] ∧ xs.length ≤ 1000 ∧ ∀ x ∈ xs, ∀ G', ExtU u G G' → Q x G'
/-- data of tuples, so deep at most -/
def tupn : Nat → D → Bool
  | 0, d => leafOk d
  | n + 1, d => match d with
    | .tup ds => decide (ds.length ≤ 1000) && ds.all (tupn n)
    | d => leafOk d
def S_law_equals : Nat → DSp
  | 0 => fun _ _ _ => False
  | n + 1 => fun ds G Q => ∃ a b, ds = [a, b] ∧ tupn n a = true ∧ tupn n b = true ∧ ∀ c : Bool, (c = true ↔ a = b) → Q (.bl c) G
def SmQ (q : Rat) : Prop := q.num.natAbs < 2 ^ 4400 ∧ q.den < 2 ^ 4400
def WdQ (q : Rat) : Prop := q.num.natAbs < 2 ^ 20000 ∧ q.den < 2 ^ 20000
def S_law_part : DSp := fun ds G Q => ∃ a b : Int, ds = [.int a, .int b] ∧ b ≠ 0 ∧ a.natAbs < 2 ^ 100000 ∧ b.natAbs < 2 ^ 100000 ∧ (b.natAbs < 2 ^ 9000 ∨ SmQ (Rat.divInt a b)) ∧ Q (dQ (Rat.divInt a b)) G
def S_law_plus : DSp := fun ds G Q => ∃ x y : Rat, ds = [dQ x, dQ y] ∧ WdQ x ∧ WdQ y ∧ (x.den * y.den < 2 ^ 9000 ∨ SmQ (x + y)) ∧ Q (dQ (x + y)) G
def S_law_by : DSp := fun ds G Q => ∃ x y : Rat, ds = [dQ x, dQ y] ∧ WdQ x ∧ WdQ y ∧ (x.den * y.den < 2 ^ 9000 ∨ SmQ (x * y)) ∧ Q (dQ (x * y)) G
/-- r - b s -/
def lessQ (r s : List Rat) (b : Rat) : List Rat := (r.zip s).map fun p => p.1 + -b * p.2
def S_law_less_row : DSp := fun ds G Q => ∃ (r s : List Rat) (b : Rat), ds = [.lst (r.map dQ), .lst (s.map dQ), dQ b] ∧ r.length ≤ 100 ∧ s.length ≤ 100 ∧ SmQ b ∧ (∀ q ∈ r, SmQ q) ∧ (∀ q ∈ s, SmQ q) ∧ (∀ q ∈ lessQ r s b, SmQ q) ∧ Q (.lst ((lessQ r s b).map dQ)) G
def S_law_table : DSp := fun ds G Q => ∃ (rows : List (List Rat)) (w : Nat), ds = [dTab rows] ∧ 0 < w ∧ w ≤ 8 ∧ rows.length ≤ 20 ∧ (∀ r ∈ rows, RowOk w r) ∧ ∀ t G', Ext G G' → IsRref w rows t → Big t → Q (dTab t) G'
/-- a row as the urn gives it -/
def RowAny (w : Nat) (r : List Rat) : Prop := r.length = w ∧ ∀ q ∈ r, q.den ∣ 12 ∧ q.num.natAbs * (12 / q.den) ≤ 72
def S_law_any_row : DSp := fun ds G Q => ∃ (u : Addr) (w : Nat), ds = [.ref u, .int w] ∧ UrnOk G u ∧ 0 < w ∧ w ≤ 8 ∧ ∀ r G', RowAny w r → ExtU u G G' → Q (dRow r) G'
def S_law_mixed_rows : DSp := fun ds G Q => ∃ (u : Addr) (rows : List (List Rat)) (w : Nat), ds = [.ref u, dTab rows, .int w] ∧ UrnOk G u ∧ 0 < w ∧ w ≤ 8 ∧ rows.length ≤ 8 ∧ (∀ r ∈ rows, RowAny w r) ∧
  ∀ rows' G', ExtU u G G' → (∀ r ∈ rows', RowOk w r) → rows'.length ≤ 12 → Same (inRows rows') (inRows rows) → Q (dTab rows') G'
def OddT (x : D) : Prop := okn 8 x = true ∧ (areRows x = false ∨ ∃ t w, x = dTab t ∧ 0 < w ∧ w ≤ 100 ∧ (∀ r ∈ t, r.length = w) ∧ isTabQ t = false)
def S_law_odd_tables : DSp := fun ds G Q => ∃ (u : Addr) (t : List (List Rat)) (w : Nat), ds = [.ref u, dTab t, .int w] ∧ 0 < w ∧ w ≤ 8 ∧ t.length ≤ 8 ∧ Canon w t ∧ Big t ∧ ∀ xs, xs.length ≤ 100 → (∀ x ∈ xs, OddT x) → Q (.lst xs) G
def S_law_right : DSp := fun ds G Q => ∃ u, ds = [.ref u] ∧ UrnOk G u ∧ ∀ G', Q (.bl true) G'
def S_law : DSp := fun ds G Q => ∃ ns : List Int, ds = [.frl (ns.map D.int)] ∧ ns.length ≤ 2 ^ 20 ∧ (∀ n ∈ ns, n.natAbs < 2 ^ 1048576) ∧ ∀ G', Q (.bl true) G'
end K43
set_option Elab.async false
set_option linter.all false
set_option maxRecDepth 100000
set_option maxHeartbeats 4000000
namespace K43
open PySem PySem.Spec PyProof.Rows L2 DL
abbrev N_is_whole : List Str := ["value"]
def r_is_whole : DTS := (dRet (dAndV (dCB (fIsi "int" isIntD) (dCons (dVar 0) (dCons (dC (.ty "int")) dNil))) (dNotV (dCB (fIsi "bool" isBoolD) (dCons (dVar 0) (dCons (dC (.ty "bool")) dNil))))))
abbrev N_are_wholes : List Str := ["value", "many", "each"]
def r_are_wholes : DTS := (dRet (dAndV (dCB (fIsi "tuple" isTupD) (dCons (dVar 0) (dCons (dC (.ty "tuple")) dNil))) (dAndV (dOp fEq (dCB (on1 fLen) (dCons (dVar 0) dNil)) (dVar 1)) (dCB (on1 fAll) (dCons (dLc true (dSq (dVar 0)) (gNm 2) dYes (dCall 1 (S_is_whole) (dCons (dVar 2) dNil)) [2]) dNil)))))
abbrev N_is_rising : List Str := ["some", "here", "there"]
def r_is_rising : DTS := (dRet (dCB (on1 fAll) (dCons (dLc true (dZip (dVar 0) (dSlc (dVar 0) (dPart (dC (.int 1))) dNoPart)) (gTp 2 (gCons (gNm 1) (gCons (gNm 2) gNil))) dYes (dOp fLt (dVar 1) (dVar 2)) [1, 2]) dNil)))
abbrev N_fraction : List Str := ["top", "under", "by"]
def r_fraction : DTS := (dSeq (dAsg (dIf (dB (dOp fGt (dVar 1) (dC (.int 0)))) (dCB (onI2 fGcd) (dCons (dVar 0) (dCons (dVar 1) dNil))) (dNeg (dCB (onI2 fGcd) (dCons (dVar 0) (dCons (dVar 1) dNil))))) (gNm 2)) (dRet (dTup (dCons (dOp fDiv (dVar 0) (dVar 2)) (dCons (dOp fDiv (dVar 1) (dVar 2)) dNil)))))
abbrev N_is_fraction : List Str := ["value"]
def r_is_fraction : DTS := (dRet (dAndV (dCall 2 (S_are_wholes) (dCons (dVar 0) (dCons (dC (.int 2)) dNil))) (dAndV (dOp fGt (dOp fIx (dVar 0) (dC (.int 1))) (dC (.int 0))) (dOp fEq (dCB (onI2 fGcd) (dCons (dOp fIx (dVar 0) (dC (.int 0))) (dCons (dOp fIx (dVar 0) (dC (.int 1))) dNil))) (dC (.int 1))))))
abbrev N_are_fractions : List Str := ["value", "many", "each"]
def r_are_fractions : DTS := (dRet (dAndV (dCB (fIsi "tuple" isTupD) (dCons (dVar 0) (dCons (dC (.ty "tuple")) dNil))) (dAndV (dOp fEq (dCB (on1 fLen) (dCons (dVar 0) dNil)) (dVar 1)) (dCB (on1 fAll) (dCons (dLc true (dSq (dVar 0)) (gNm 2) dYes (dCall 1 (S_is_fraction) (dCons (dVar 2) dNil)) [2]) dNil)))))
abbrev N_is_nought_row : List Str := ["row", "each"]
def r_is_nought_row : DTS := (dRet (dCB (on1 fAll) (dCons (dLc true (dSq (dVar 0)) (gNm 1) dYes (dOp fEq (dOp fIx (dVar 1) (dC (.int 0))) (dC (.int 0))) [1]) dNil)))
abbrev N_Line_initD : List Str := ["self", "numbers", "shares"]
def r_Line_initD (cL : Addr) : DTS := (dSeq (dFldS cL (dVar 0) (dVar 1) "numbers") (dFldS cL (dVar 0) (dVar 2) "shares"))
abbrev N_Line_lead : List Str := ["self", "at"]
def r_Line_lead (cL : Addr) : DTS := (dSeq (dAsg (dC (.int 0)) (gNm 1)) (dSeq (dWhile (dAnd (dB (dOp fLt (dVar 1) (dCB (on1 fLen) (dCons (dFld cL (dVar 0) "numbers") dNil)))) (dB (dOp fEq (dOp fIx (dFld cL (dVar 0) "numbers") (dVar 1)) (dC (.int 0))))) (dAsg (dOp fAdd (dVar 1) (dC (.int 1))) (gNm 1))) (dRet (dVar 1))))
abbrev N_Line_less : List Str := ["self", "other", "at", "by", "share", "numbers", "shares", "label", "number", "here", "there"]
def r_Line_less (cL : Addr) : DTS := (dSeq (dAsg (dTup (dCons (dOp fIx (dFld cL (dVar 1) "numbers") (dVar 2)) (dCons (dOp fIx (dFld cL (dVar 0) "numbers") (dVar 2)) dNil))) (gTp 2 (gCons (gNm 3) (gCons (gNm 4) gNil)))) (dSeq (dAsg (dLc true (dZip (dFld cL (dVar 0) "numbers") (dFld cL (dVar 1) "numbers")) (gTp 2 (gCons (gNm 9) (gCons (gNm 10) gNil))) dYes (dOp fSub (dOp fMul (dVar 3) (dVar 9)) (dOp fMul (dVar 4) (dVar 10))) [9, 10]) (gNm 5)) (dSeq (dAsg (dDc false (dItems (dFld cL (dVar 0) "shares")) (gTp 2 (gCons (gNm 7) (gCons (gNm 8) gNil))) dYes (dVar 7) (dOp fMul (dVar 3) (dVar 8)) [7, 8]) (gNm 6)) (dSeq (dFor (dItems (dFld cL (dVar 1) "shares")) (gTp 2 (gCons (gNm 7) (gCons (gNm 8) gNil))) (dAsg (dOp fSub (dDGet2 (dVar 6) (dVar 7) (dC (.int 0))) (dOp fMul (dVar 4) (dVar 8))) (gSubD (dVar 6) (dVar 7)))) (dRet (dMeth cL "small" 1 (S_Line_small cL) (dMk true cL 3 (S_Line_initD cL) (dCons (dVar 5) (dCons (dDc true (dItems (dItemsT (dVar 6))) (gTp 2 (gCons (gNm 7) (gCons (gNm 8) gNil))) (dB (dOp fNe (dVar 8) (dC (.int 0)))) (dVar 7) (dVar 8) [7, 8]) dNil))) dNil))))))
abbrev N_Line_small : List Str := ["self", "by", "number", "each", "label"]
def r_Line_small (cL : Addr) : DTS := (dSeq (dAsg (dC (.int 0)) (gNm 1)) (dSeq (dFor (dSq (dFld cL (dVar 0) "numbers")) (gNm 2) (dAsg (dCB (onI2 fGcd) (dCons (dVar 1) (dCons (dVar 2) dNil))) (gNm 1))) (dSeq (dFor (dVals (dFld cL (dVar 0) "shares")) (gNm 2) (dAsg (dCB (onI2 fGcd) (dCons (dVar 1) (dCons (dVar 2) dNil))) (gNm 1))) (dSeq (dIfS (dB (dOp fLt (dVar 1) (dC (.int 2)))) (dRet (dVar 0)) dNx) (dRet (dMk true cL 3 (S_Line_initD cL) (dCons (dLc true (dSq (dFld cL (dVar 0) "numbers")) (gNm 3) dYes (dOp fDiv (dVar 3) (dVar 1)) [3]) (dCons (dDc true (dItems (dFld cL (dVar 0) "shares")) (gTp 2 (gCons (gNm 4) (gCons (gNm 3) gNil))) dYes (dVar 4) (dOp fDiv (dVar 3) (dVar 1)) [4, 3]) dNil))))))))
abbrev N_line_of : List Str := ["row", "label", "under", "number"]
def r_line_of (cL : Addr) : DTS := (dSeq (dAsg (dC (.int 1)) (gNm 2)) (dSeq (dFor (dSq (dVar 0)) (gNm 3) (dAsg (dOp fDiv (dOp fMul (dVar 2) (dOp fIx (dVar 3) (dC (.int 1)))) (dCB (onI2 fGcd) (dCons (dVar 2) (dCons (dOp fIx (dVar 3) (dC (.int 1))) dNil)))) (gNm 2))) (dRet (dMk true cL 3 (S_Line_initD cL) (dCons (dLc true (dSq (dVar 0)) (gNm 3) dYes (dOp fMul (dOp fIx (dVar 3) (dC (.int 0))) (dOp fDiv (dVar 2) (dOp fIx (dVar 3) (dC (.int 1))))) [3]) (dCons (dDict1 (dVar 1) (dVar 2)) dNil))))))
abbrev N_Reducer_initD : List Str := ["self"]
def r_Reducer_initD (cR : Addr) : DTS := (dFldS cR (dVar 0) dDictT "lines")
abbrev N_Reducer_left : List Str := ["self", "line", "found", "at"]
def r_Reducer_left (cL : Addr) (cR : Addr) : DTS := (dSeq (dAsg (dVar 1) (gNm 2)) (dSeq (dFor (dSq (dCB (on1 fSortD) (dCons (dFld cR (dVar 0) "lines") dNil))) (gNm 3) (dIfS (dB (dOp fNe (dOp fIx (dFld cL (dVar 2) "numbers") (dVar 3)) (dC (.int 0)))) (dAsg (dMeth cL "less" 3 (S_Line_less cL) (dVar 2) (dCons (dDGet (dFld cR (dVar 0) "lines") (dVar 3)) (dCons (dVar 3) dNil))) (gNm 2)) dNx)) (dRet (dVar 2))))
abbrev N_Reducer_add : List Str := ["self", "row", "label", "fresh", "lead", "at"]
def r_Reducer_add (cL : Addr) (cR : Addr) : DTS := (dSeq (dAsg (dMeth cR "left" 2 (S_Reducer_left cL cR) (dVar 0) (dCons (dCall 2 (S_line_of cL) (dCons (dVar 1) (dCons (dVar 2) dNil))) dNil)) (gNm 3)) (dSeq (dAsg (dMeth cL "lead" 1 (S_Line_lead cL) (dVar 3) dNil) (gNm 4)) (dSeq (dIfS (dB (dOp fEq (dVar 4) (dCB (on1 fLen) (dCons (dVar 1) dNil)))) dRetN dNx) (dSeq (dFor (dSq (dCB (on1 fListD) (dCons (dFld cR (dVar 0) "lines") dNil))) (gNm 5) (dIfS (dB (dOp fNe (dOp fIx (dFld cL (dDGet (dFld cR (dVar 0) "lines") (dVar 5)) "numbers") (dVar 4)) (dC (.int 0)))) (dAsg (dMeth cL "less" 3 (S_Line_less cL) (dDGet (dFld cR (dVar 0) "lines") (dVar 5)) (dCons (dVar 3) (dCons (dVar 4) dNil))) (gSubD (dFld cR (dVar 0) "lines") (dVar 5))) dNx)) (dAsg (dVar 3) (gSubD (dFld cR (dVar 0) "lines") (dVar 4)))))))
abbrev N_Reducer_row_at : List Str := ["self", "at", "line", "number"]
def r_Reducer_row_at (cL : Addr) (cR : Addr) : DTS := (dSeq (dAsg (dDGet (dFld cR (dVar 0) "lines") (dVar 1)) (gNm 2)) (dRet (dCB (on1 fTup) (dCons (dLc true (dSq (dFld cL (dVar 2) "numbers")) (gNm 3) dYes (dCall 2 (S_fraction) (dCons (dVar 3) (dCons (dOp fIx (dFld cL (dVar 2) "numbers") (dVar 1)) dNil))) [3]) dNil))))
abbrev N_Reducer_told_rows : List Str := ["self", "at"]
def r_Reducer_told_rows (cL : Addr) (cR : Addr) : DTS := (dRet (dCB (on1 fTup) (dCons (dLc true (dSq (dCB (on1 fSortD) (dCons (dFld cR (dVar 0) "lines") dNil))) (gNm 1) dYes (dMeth cR "row_at" 2 (S_Reducer_row_at cL cR) (dVar 0) (dCons (dVar 1) dNil)) [1]) dNil)))
abbrev N_reduced : List Str := ["rows", "found", "label", "row"]
def r_reduced (cL : Addr) (cR : Addr) : DTS := (dSeq (dAsg (dMk true cR 1 (S_Reducer_initD cR) dNil) (gNm 1)) (dSeq (dFor (dEnum (dVar 0)) (gTp 2 (gCons (gNm 2) (gCons (gNm 3) gNil))) (dDrop (dMeth cR "add" 3 (S_Reducer_add cL cR) (dVar 1) (dCons (dVar 3) (dCons (dVar 2) dNil))))) (dRet (dMeth cR "told_rows" 1 (S_Reducer_told_rows cL cR) (dVar 1) dNil))))
abbrev N_are_rows : List Str := ["value", "row"]
def r_are_rows : DTS := (dSeq (dIfS (dOr (dNot (dB (dCB (fIsi "tuple" isTupD) (dCons (dVar 0) (dCons (dC (.ty "tuple")) dNil))))) (dNot (dB (dCB (on1 fAll) (dCons (dLc true (dSq (dVar 0)) (gNm 1) dYes (dAndV (dCB (fIsi "tuple" isTupD) (dCons (dVar 1) (dCons (dC (.ty "tuple")) dNil))) (dOp fNe (dVar 1) (dTup dNil))) [1]) dNil))))) (dRet (dC (.bl false))) dNx) (dRet (dCB (on1 fAll) (dCons (dLc true (dSq (dVar 0)) (gNm 1) dYes (dCall 2 (S_are_fractions) (dCons (dVar 1) (dCons (dCB (on1 fLen) (dCons (dOp fIx (dVar 0) (dC (.int 0))) dNil)) dNil))) [1]) dNil))))
abbrev N_lead_of : List Str := ["row", "at", "number"]
def r_lead_of : DTS := (dRet (dOp fIx (dLc true (dEnum (dVar 0)) (gTp 2 (gCons (gNm 1) (gCons (gNm 2) gNil))) (dB (dOp fNe (dOp fIx (dVar 2) (dC (.int 0))) (dC (.int 0)))) (dVar 1) [1, 2]) (dC (.int 0))))
abbrev N_table : List Str := ["rows"]
def r_table : DTS := (dSeq (dIfS (dNot (dB (dCall 1 (S_are_rows) (dCons (dVar 0) dNil)))) dNever dNx) (dRet (dCall 1 (S_reduced) (dCons (dVar 0) dNil))))
abbrev N_is_table : List Str := ["value", "leads", "row", "lead"]
def r_is_table : DTS := (dSeq (dIfS (dOr (dNot (dB (dCall 1 (S_are_rows) (dCons (dVar 0) dNil)))) (dB (dCB (on1 fAny) (dCons (dLc true (dSq (dVar 0)) (gNm 2) dYes (dCall 1 (S_is_nought_row) (dCons (dVar 2) dNil)) [2]) dNil)))) (dRet (dC (.bl false))) dNx) (dSeq (dAsg (dLc true (dSq (dVar 0)) (gNm 2) dYes (dCall 1 (S_lead_of) (dCons (dVar 2) dNil)) [2]) (gNm 1)) (dSeq (dIfS (dOr (dNot (dB (dCall 1 (S_is_rising) (dCons (dVar 1) dNil)))) (dB (dCB (on1 fAny) (dCons (dLc true (dZip (dVar 0) (dVar 1)) (gTp 2 (gCons (gNm 2) (gCons (gNm 3) gNil))) dYes (dOp fNe (dOp fIx (dVar 2) (dVar 3)) (dC (.tup [.int 1, .int 1]))) [2, 3]) dNil)))) (dRet (dC (.bl false))) dNx) (dRet (dCB (on1 fAll) (dCons (dLc2 true (dSq (dVar 0)) (gNm 2) dYes (dSq (dVar 1)) (gNm 3) (dB (dOp fNe (dVar 3) (dCall 1 (S_lead_of) (dCons (dVar 2) dNil)))) (dOp fEq (dOp fIx (dOp fIx (dVar 2) (dVar 3)) (dC (.int 0))) (dC (.int 0))) [2, 3] [3]) dNil))))))
abbrev N_law_urn : List Str := ["script", "lap", "own", "held", "spot", "cell"]
def r_law_urn : DTS := (dSeq (dAsg (dIf (dB (dOp fLt (dVar 1) (dCB (on1 fLen) (dCons (dVar 0) dNil)))) (dCB (on1 fInt) (dCons (dOp fIx (dVar 0) (dVar 1)) dNil)) (dC (.int 0))) (gNm 2)) (dSeq (dAsg (dOp fAdd (dC (.int 7046029254386353131)) (dOp fMul (dC (.int 9176)) (dVar 1))) (gNm 3)) (dSeq (dFor (dEnum (dSlc (dVar 0) dNoPart (dPart (dC (.int 60))))) (gTp 2 (gCons (gNm 4) (gCons (gNm 5) gNil))) (dAsg (dOp fMod (dCB (on1 fInt) (dCons (dOp fAdd (dOp fAdd (dOp fMul (dVar 3) (dC (.int 6364136223846793005))) (dOp fMul (dCB (on1 fInt) (dCons (dVar 5) dNil)) (dOp fAdd (dOp fMul (dC (.int 2)) (dVar 4)) (dC (.int 9))))) (dC (.int 1442695040888963407))) dNil)) (dC (.int 18446744073709551557))) (gNm 3))) (dRet (dLstT (dCons (dIf (dOr (dB (dOp fLt (dVar 2) (dC (.int 0)))) (dB (dOp fGt (dVar 2) (dOp fPow (dC (.int 10)) (dC (.int 11)))))) (dOp fMod (dCB (on1 fAbs) (dCons (dVar 2) dNil)) (dOp fPow (dC (.int 10)) (dC (.int 48)))) (dC (.int 0))) (dCons (dVar 3) dNil)))))))
abbrev N_law_ball : List Str := ["urn", "many", "heard"]
def r_law_ball : DTS := (dSeq (dIfS (dB (dOp fGt (dOp fIx (dVar 0) (dC (.int 0))) (dC (.int 0)))) (dSeq (dAsg (dOp fMod (dCB (on1 fInt) (dCons (dOp fIx (dVar 0) (dC (.int 0))) dNil)) (dVar 1)) (gNm 2)) (dSeq (dAsg (dOp fDiv (dOp fIx (dVar 0) (dC (.int 0))) (dVar 1)) (gSubL (dVar 0) (dC (.int 0)))) (dRet (dVar 2)))) dNx) (dSeq (dAsg (dOp fMod (dCB (on1 fInt) (dCons (dOp fAdd (dOp fMul (dOp fIx (dVar 0) (dC (.int 1))) (dC (.int 2685821657736338717))) (dC (.int 1013904223))) dNil)) (dC (.int 18446744073709551557))) (gSubL (dVar 0) (dC (.int 1)))) (dRet (dOp fMod (dCB (on1 fInt) (dCons (dOp fDiv (dOp fIx (dVar 0) (dC (.int 1))) (dC (.int 4294967296))) dNil)) (dVar 1)))))
abbrev N_law_one_of : List Str := ["urn", "things"]
def r_law_one_of : DTS := (dRet (dOp fIx (dVar 1) (dCall 2 (S_law_ball) (dCons (dVar 0) (dCons (dCB (on1 fLen) (dCons (dVar 1) dNil)) dNil)))))
abbrev N_law_equals : List Str := ["heard", "other", "one", "two"]
def r_law_equals (nn : Nat) : DTS := (dSeq (dIfS (dOr (dB (dCB (fIsi "tuple" isTupD) (dCons (dVar 0) (dCons (dC (.ty "tuple")) dNil)))) (dB (dCB (fIsi "tuple" isTupD) (dCons (dVar 1) (dCons (dC (.ty "tuple")) dNil))))) (dSeq (dIfS (dOr (dNot (dB (dCB (fIsi "tuple" isTupD) (dCons (dVar 0) (dCons (dC (.ty "tuple")) dNil))))) (dOr (dNot (dB (dCB (fIsi "tuple" isTupD) (dCons (dVar 1) (dCons (dC (.ty "tuple")) dNil))))) (dB (dOp fNe (dCB (on1 fLen) (dCons (dVar 0) dNil)) (dCB (on1 fLen) (dCons (dVar 1) dNil)))))) (dRet (dC (.bl false))) dNx) (dRet (dOp fEq (dLc true (dZip (dVar 0) (dVar 1)) (gTp 2 (gCons (gNm 2) (gCons (gNm 3) gNil))) (dNot (dB (dCall 2 (S_law_equals nn) (dCons (dVar 2) (dCons (dVar 3) dNil))))) (dC (.int 1)) [2, 3]) (dLst dNil)))) dNx) (dSeq (dIfS (dOr (dB (dOp fIs (dVar 0) (dC .non))) (dB (dOp fIs (dVar 1) (dC .non)))) (dRet (dAndV (dOp fIs (dVar 0) (dC .non)) (dOp fIs (dVar 1) (dC .non)))) dNx) (dSeq (dIfS (dOr (dB (dCB (fIsi "bool" isBoolD) (dCons (dVar 0) (dCons (dC (.ty "bool")) dNil)))) (dB (dCB (fIsi "bool" isBoolD) (dCons (dVar 1) (dCons (dC (.ty "bool")) dNil))))) (dRet (dAndV (dCB (fIsi "bool" isBoolD) (dCons (dVar 0) (dCons (dC (.ty "bool")) dNil))) (dAndV (dCB (fIsi "bool" isBoolD) (dCons (dVar 1) (dCons (dC (.ty "bool")) dNil))) (dOp fEq (dVar 0) (dVar 1))))) dNx) (dSeq (dIfS (dOr (dB (dCB (fIsi "str" isStrD) (dCons (dVar 0) (dCons (dC (.ty "str")) dNil)))) (dB (dCB (fIsi "str" isStrD) (dCons (dVar 1) (dCons (dC (.ty "str")) dNil))))) (dRet (dAndV (dCB (fIsi "str" isStrD) (dCons (dVar 0) (dCons (dC (.ty "str")) dNil))) (dAndV (dCB (fIsi "str" isStrD) (dCons (dVar 1) (dCons (dC (.ty "str")) dNil))) (dOp fEq (dVar 0) (dVar 1))))) dNx) (dRet (dAndV (dCB (fIsi "int" isIntD) (dCons (dVar 0) (dCons (dC (.ty "int")) dNil))) (dAndV (dCB (fIsi "int" isIntD) (dCons (dVar 1) (dCons (dC (.ty "int")) dNil))) (dOp fEq (dVar 0) (dVar 1)))))))))
abbrev N_law_part : List Str := ["one", "two", "low", "high", "turn"]
def r_law_part : DTS := (dSeq (dPar 2 3 (dCons (dCB (on1 fAbs) (dCons (dVar 0) dNil)) (dCons (dCB (on1 fAbs) (dCons (dVar 1) dNil)) dNil))) (dSeq (dFor (dRng1 (dOp fAdd (dOp fMul (dC (.int 4)) (dOp fAdd (dBits (dVar 2)) (dBits (dVar 3)))) (dC (.int 4)))) (gNm 4) (dSeq (dIfS (dB (dOp fEq (dVar 3) (dC (.int 0)))) dBk dNx) (dPar 2 3 (dCons (dVar 3) (dCons (dOp fMod (dCB (on1 fInt) (dCons (dVar 2) dNil)) (dVar 3)) dNil))))) (dRet (dIf (dB (dOp fGt (dVar 1) (dC (.int 0)))) (dTup (dCons (dOp fDiv (dVar 0) (dVar 2)) (dCons (dOp fDiv (dVar 1) (dVar 2)) dNil))) (dTup (dCons (dOp fSub (dC (.int 0)) (dOp fDiv (dVar 0) (dVar 2))) (dCons (dOp fSub (dC (.int 0)) (dOp fDiv (dVar 1) (dVar 2))) dNil)))))))
abbrev N_law_plus : List Str := ["one", "two"]
def r_law_plus : DTS := (dSeq (dIfS (dAnd (dB (dOp fEq (dOp fIx (dVar 0) (dC (.int 1))) (dC (.int 1)))) (dB (dOp fEq (dOp fIx (dVar 1) (dC (.int 1))) (dC (.int 1))))) (dRet (dTup (dCons (dOp fAdd (dOp fIx (dVar 0) (dC (.int 0))) (dOp fIx (dVar 1) (dC (.int 0)))) (dCons (dC (.int 1)) dNil)))) dNx) (dRet (dCall 2 (S_law_part) (dCons (dOp fAdd (dOp fMul (dOp fIx (dVar 0) (dC (.int 0))) (dOp fIx (dVar 1) (dC (.int 1)))) (dOp fMul (dOp fIx (dVar 1) (dC (.int 0))) (dOp fIx (dVar 0) (dC (.int 1))))) (dCons (dOp fMul (dOp fIx (dVar 0) (dC (.int 1))) (dOp fIx (dVar 1) (dC (.int 1)))) dNil)))))
abbrev N_law_by : List Str := ["one", "two"]
def r_law_by : DTS := (dSeq (dIfS (dAnd (dB (dOp fEq (dOp fIx (dVar 0) (dC (.int 1))) (dC (.int 1)))) (dB (dOp fEq (dOp fIx (dVar 1) (dC (.int 1))) (dC (.int 1))))) (dRet (dTup (dCons (dOp fMul (dOp fIx (dVar 0) (dC (.int 0))) (dOp fIx (dVar 1) (dC (.int 0)))) (dCons (dC (.int 1)) dNil)))) dNx) (dRet (dCall 2 (S_law_part) (dCons (dOp fMul (dOp fIx (dVar 0) (dC (.int 0))) (dOp fIx (dVar 1) (dC (.int 0)))) (dCons (dOp fMul (dOp fIx (dVar 0) (dC (.int 1))) (dOp fIx (dVar 1) (dC (.int 1)))) dNil)))))
abbrev N_law_head : List Str := ["row", "at", "weight"]
def r_law_head : DTS := (dRet (dOp fIx (dLc true (dEnum (dVar 0)) (gTp 2 (gCons (gNm 1) (gCons (gNm 2) gNil))) (dB (dOp fNe (dOp fIx (dVar 2) (dC (.int 0))) (dC (.int 0)))) (dVar 1) [1, 2]) (dC (.int 0))))
abbrev N_law_less_row : List Str := ["row", "other", "by", "one", "two"]
def r_law_less_row : DTS := (dRet (dLc true (dZip (dVar 0) (dVar 1)) (gTp 2 (gCons (gNm 3) (gCons (gNm 4) gNil))) dYes (dCall 2 (S_law_plus) (dCons (dVar 3) (dCons (dCall 2 (S_law_by) (dCons (dTup (dCons (dOp fSub (dC (.int 0)) (dOp fIx (dVar 2) (dC (.int 0)))) (dCons (dOp fIx (dVar 2) (dC (.int 1))) dNil))) (dCons (dVar 4) dNil))) dNil))) [3, 4]))
abbrev N_law_table : List Str := ["rows", "heads", "row", "left", "at", "head", "weight"]
def r_law_table : DTS := (dSeq (dAsg dDictT (gNm 1)) (dSeq (dFor (dSq (dVar 0)) (gNm 2) (dSeq (dAsg (dCB (on1 fLstF) (dCons (dVar 2) dNil)) (gNm 3)) (dSeq (dFor (dSq (dCB (on1 fSortD) (dCons (dVar 1) dNil))) (gNm 4) (dIfS (dB (dOp fNe (dOp fIx (dOp fIx (dVar 3) (dVar 4)) (dC (.int 0))) (dC (.int 0)))) (dAsg (dCall 3 (S_law_less_row) (dCons (dVar 3) (dCons (dDGet (dVar 1) (dVar 4)) (dCons (dOp fIx (dVar 3) (dVar 4)) dNil)))) (gNm 3)) dNx)) (dIfS (dB (dOp fNe (dLc true (dSq (dVar 3)) (gNm 6) (dB (dOp fNe (dOp fIx (dVar 6) (dC (.int 0))) (dC (.int 0)))) (dC (.int 1)) [6]) (dLst dNil))) (dSeq (dAsg (dCall 1 (S_law_head) (dCons (dVar 3) dNil)) (gNm 5)) (dSeq (dAsg (dLc true (dSq (dVar 3)) (gNm 6) dYes (dCall 2 (S_law_part) (dCons (dOp fMul (dOp fIx (dVar 6) (dC (.int 0))) (dOp fIx (dOp fIx (dVar 3) (dVar 5)) (dC (.int 1)))) (dCons (dOp fMul (dOp fIx (dVar 6) (dC (.int 1))) (dOp fIx (dOp fIx (dVar 3) (dVar 5)) (dC (.int 0)))) dNil))) [6]) (gNm 3)) (dSeq (dFor (dSq (dCB (on1 fSortD) (dCons (dVar 1) dNil))) (gNm 4) (dIfS (dB (dOp fNe (dOp fIx (dOp fIx (dDGet (dVar 1) (dVar 4)) (dVar 5)) (dC (.int 0))) (dC (.int 0)))) (dAsg (dCall 3 (S_law_less_row) (dCons (dDGet (dVar 1) (dVar 4)) (dCons (dVar 3) (dCons (dOp fIx (dDGet (dVar 1) (dVar 4)) (dVar 5)) dNil)))) (gSubD (dVar 1) (dVar 4))) dNx)) (dAsg (dVar 3) (gSubD (dVar 1) (dVar 5)))))) dNx)))) (dRet (dCB (on1 fTup) (dCons (dLc true (dSq (dCB (on1 fSortD) (dCons (dVar 1) dNil))) (gNm 4) dYes (dCB (on1 fTup) (dCons (dDGet (dVar 1) (dVar 4)) dNil)) [4]) dNil)))))
abbrev N_law_any_row : List Str := ["urn", "wide", "way", "k"]
def r_law_any_row : DTS := (dSeq (dAsg (dCall 2 (S_law_ball) (dCons (dVar 0) (dCons (dC (.int 5)) dNil))) (gNm 2)) (dSeq (dIfS (dB (dOp fEq (dVar 2) (dC (.int 0)))) (dRet (dCB (on1 fTup) (dCons (dLc true (dRng1 (dVar 1)) (gNm 3) dYes (dTup (dCons (dC (.int 0)) (dCons (dC (.int 1)) dNil))) [3]) dNil))) dNx) (dRet (dCB (on1 fTup) (dCons (dLc true (dRng1 (dVar 1)) (gNm 3) dYes (dIf (dB (dOp fLt (dVar 2) (dC (.int 4)))) (dTup (dCons (dCall 2 (S_law_one_of) (dCons (dVar 0) (dCons (dTup (dCons (dC (.int 0)) (dCons (dC (.int 0)) (dCons (dC (.int 1)) (dCons (dNeg (dC (.int 1))) (dCons (dC (.int 2)) dNil)))))) dNil))) (dCons (dC (.int 1)) dNil))) (dCall 2 (S_law_part) (dCons (dOp fSub (dCall 2 (S_law_ball) (dCons (dVar 0) (dCons (dC (.int 13)) dNil))) (dC (.int 6))) (dCons (dOp fAdd (dC (.int 1)) (dCall 2 (S_law_ball) (dCons (dVar 0) (dCons (dC (.int 4)) dNil)))) dNil)))) [3]) dNil)))))
abbrev N_law_mixed_rows : List Str := ["urn", "rows", "wide", "left", "found", "turn", "row", "by", "one", "two", "each", "a", "b"]
def r_law_mixed_rows : DTS := (dSeq (dPar 3 4 (dCons (dCB (on1 fLstT) (dCons (dVar 1) dNil)) (dCons (dLstT dNil) dNil))) (dSeq (dFor (dRng1 (dCB (on1 fLen) (dCons (dVar 1) dNil))) (gNm 5) (dSeq (dAsg (dTup (dCons (dPopAt (dVar 3) (dCons (dCall 2 (S_law_ball) (dCons (dVar 0) (dCons (dCB (on1 fLen) (dCons (dVar 3) dNil)) dNil))) dNil)) (dCons (dCall 2 (S_law_part) (dCons (dCall 2 (S_law_one_of) (dCons (dVar 0) (dCons (dTup (dCons (dC (.int 1)) (dCons (dNeg (dC (.int 1))) (dCons (dC (.int 2)) (dCons (dNeg (dC (.int 3))) (dCons (dC (.int 5)) dNil)))))) dNil))) (dCons (dCall 2 (S_law_one_of) (dCons (dVar 0) (dCons (dTup (dCons (dC (.int 1)) (dCons (dC (.int 1)) (dCons (dC (.int 2)) (dCons (dC (.int 7)) dNil))))) dNil))) dNil))) dNil))) (gTp 2 (gCons (gNm 6) (gCons (gNm 7) gNil)))) (dDrop (dApp (dVar 4) (dCons (dCB (on1 fTup) (dCons (dLc true (dSq (dVar 6)) (gNm 10) dYes (dCall 2 (S_law_by) (dCons (dVar 10) (dCons (dVar 7) dNil))) [10]) dNil)) dNil))))) (dSeq (dFor (dRng1 (dIf (dB (dOp fNe (dVar 1) (dTup dNil))) (dCall 2 (S_law_ball) (dCons (dVar 0) (dCons (dC (.int 3)) dNil))) (dC (.int 0)))) (gNm 5) (dSeq (dAsg (dTup (dCons (dCall 2 (S_law_one_of) (dCons (dVar 0) (dCons (dVar 1) dNil))) (dCons (dCall 2 (S_law_one_of) (dCons (dVar 0) (dCons (dVar 1) dNil))) (dCons (dTup (dCons (dOp fSub (dCall 2 (S_law_ball) (dCons (dVar 0) (dCons (dC (.int 5)) dNil))) (dC (.int 2))) (dCons (dC (.int 1)) dNil))) dNil)))) (gTp 3 (gCons (gNm 8) (gCons (gNm 9) (gCons (gNm 7) gNil))))) (dDrop (dApp (dVar 4) (dCons (dCB (on1 fTup) (dCons (dLc true (dZip (dVar 8) (dVar 9)) (gTp 2 (gCons (gNm 11) (gCons (gNm 12) gNil))) dYes (dCall 2 (S_law_plus) (dCons (dVar 11) (dCons (dCall 2 (S_law_by) (dCons (dVar 7) (dCons (dVar 12) dNil))) dNil))) [11, 12]) dNil)) dNil))))) (dRet (dOp fAdd (dCB (on1 fTup) (dCons (dVar 4) dNil)) (dIf (dB (dOp fEq (dCall 2 (S_law_ball) (dCons (dVar 0) (dCons (dC (.int 3)) dNil))) (dC (.int 0)))) (dTup (dCons (dOp fMul (dTup (dCons (dTup (dCons (dC (.int 0)) (dCons (dC (.int 1)) dNil))) dNil)) (dVar 2)) dNil)) (dTup dNil)))))))
abbrev N_law_odd_tables : List Str := ["urn", "rows", "wide", "o", "i", "found", "last", "high", "each", "a", "b"]
def r_law_odd_tables : DTS := (dSeq (dAsg (dTup (dCons (dTup (dCons (dC (.int 0)) (dCons (dC (.int 1)) dNil))) (dCons (dTup (dCons (dC (.int 1)) (dCons (dC (.int 1)) dNil))) dNil))) (gTp 2 (gCons (gNm 3) (gCons (gNm 4) gNil)))) (dSeq (dAsg (dLst (dCons (dOp fAdd (dVar 1) (dTup (dCons (dOp fMul (dTup (dCons (dVar 3) dNil)) (dVar 2)) dNil))) (dCons (dCB (on1 fLstF) (dCons (dVar 1) dNil)) (dCons (dC .non) (dCons (dC (.int 5)) (dCons (dTup (dCons (dTup dNil) dNil)) (dCons (dTup (dCons (dOp fMul (dTup (dCons (dC (.int 1)) dNil)) (dVar 2)) dNil)) dNil))))))) (gNm 5)) (dSeq (dIfS (dB (dOp fNe (dVar 1) (dTup dNil))) (dSeq (dAsg (dOp fIx (dVar 1) (dNeg (dC (.int 1)))) (gNm 6)) (dAsg (dOp fAdd (dVar 5) (dLst (dCons (dOp fAdd (dVar 1) (dTup (dCons (dOp fMul (dTup (dCons (dVar 4) dNil)) (dOp fAdd (dVar 2) (dC (.int 1)))) dNil))) (dCons (dOp fAdd (dVar 1) (dSlc (dVar 1) (dPart (dNeg (dC (.int 1)))) dNoPart)) (dCons (dOp fAdd (dSlc (dVar 1) dNoPart (dPart (dNeg (dC (.int 1))))) (dTup (dCons (dCB (on1 fTup) (dCons (dLc true (dSq (dVar 6)) (gNm 8) dYes (dCall 2 (S_law_by) (dCons (dVar 8) (dCons (dTup (dCons (dC (.int 2)) (dCons (dC (.int 1)) dNil))) dNil))) [8]) dNil)) dNil))) (dCons (dOp fAdd (dSlc (dVar 1) dNoPart (dPart (dNeg (dC (.int 1))))) (dTup (dCons (dCB (on1 fLstF) (dCons (dVar 6) dNil)) dNil))) (dCons (dIf (dB (dOp fGt (dCB (on1 fLen) (dCons (dVar 1) dNil)) (dC (.int 1)))) (dOp fAdd (dSlc (dVar 1) dNoPart (dPart (dNeg (dC (.int 1))))) (dTup (dCons (dSlc (dVar 6) dNoPart (dPart (dNeg (dC (.int 1))))) dNil))) (dLst (dCons (dVar 6) dNil))) (dCons (dOp fAdd (dSlc (dVar 1) dNoPart (dPart (dNeg (dC (.int 1))))) (dTup (dCons (dCB (on1 fTup) (dCons (dLc true (dSq (dVar 6)) (gNm 8) dYes (dTup (dCons (dOp fMul (dOp fIx (dVar 8) (dC (.int 0))) (dC (.int 3))) (dCons (dOp fMul (dOp fIx (dVar 8) (dC (.int 1))) (dC (.int 3))) dNil))) [8]) dNil)) dNil))) dNil)))))))) (gNm 5))) dNx) (dSeq (dIfS (dB (dOp fGt (dCB (on1 fLen) (dCons (dVar 1) dNil)) (dC (.int 1)))) (dSeq (dAsg (dCB (on1 fTup) (dCons (dLc true (dZip (dOp fIx (dVar 1) (dC (.int 0))) (dOp fIx (dVar 1) (dNeg (dC (.int 1))))) (gTp 2 (gCons (gNm 9) (gCons (gNm 10) gNil))) dYes (dCall 2 (S_law_plus) (dCons (dVar 9) (dCons (dVar 10) dNil))) [9, 10]) dNil)) (gNm 7)) (dAsg (dOp fAdd (dVar 5) (dLst (dCons (dRevT (dVar 1)) (dCons (dOp fAdd (dTup (dCons (dVar 7) dNil)) (dSlc (dVar 1) (dPart (dC (.int 1))) dNoPart)) dNil)))) (gNm 5))) dNx) (dRet (dVar 5))))))
abbrev N_law_right : List Str := ["urn", "turn", "wide", "rows", "due", "k", "odd"]
def r_law_right : DTS := (dSeq (dFor (dRng1 (dC (.int 5))) (gNm 1) (dSeq (dAsg (dOp fAdd (dC (.int 1)) (dCall 2 (S_law_ball) (dCons (dVar 0) (dCons (dC (.int 8)) dNil)))) (gNm 2)) (dSeq (dAsg (dCB (on1 fTup) (dCons (dLc true (dRng1 (dCall 2 (S_law_ball) (dCons (dVar 0) (dCons (dC (.int 9)) dNil)))) (gNm 5) dYes (dCall 2 (S_law_any_row) (dCons (dVar 0) (dCons (dVar 2) dNil))) [5]) dNil)) (gNm 3)) (dSeq (dAsg (dCall 1 (S_law_table) (dCons (dVar 3) dNil)) (gNm 4)) (dSeq (dIfS (dNot (dB (dCall 2 (S_law_equals 5) (dCons (dTup (dCons (dIf (dB (dOp fEq (dCall 2 (S_law_ball) (dCons (dVar 0) (dCons (dC (.int 2)) dNil))) (dC (.int 0)))) (dCall 1 (S_table) (dCons (dVar 3) dNil)) (dCall 1 (S_table) (dCons (dVar 3) dNil))) (dCons (dCall 1 (S_table) (dCons (dCall 3 (S_law_mixed_rows) (dCons (dVar 0) (dCons (dVar 3) (dCons (dVar 2) dNil)))) dNil)) (dCons (dCall 1 (S_table) (dCons (dVar 4) dNil)) dNil)))) (dCons (dTup (dCons (dVar 4) (dCons (dVar 4) (dCons (dVar 4) dNil)))) dNil))))) (dRet (dC (.bl false))) dNx) (dSeq (dIfS (dOr (dB (dOp fIsNot (dCall 1 (S_is_table) (dCons (dVar 4) dNil)) (dC (.bl true)))) (dOr (dB (dOp fIsNot (dCall 1 (S_is_table) (dCons (dVar 4) dNil)) (dC (.bl true)))) (dB (dOp fNe (dLc true (dSq (dCall 3 (S_law_odd_tables) (dCons (dVar 0) (dCons (dVar 4) (dCons (dVar 2) dNil))))) (gNm 6) (dB (dOp fIsNot (dCall 1 (S_is_table) (dCons (dVar 6) dNil)) (dC (.bl false)))) (dC (.int 1)) [6]) (dLst dNil))))) (dRet (dC (.bl false))) dNx) (dIfS (dNot (dB (dCall 2 (S_law_equals 5) (dCons (dCall 1 (S_is_table) (dCons (dVar 3) dNil)) (dCons (dOp fEq (dVar 3) (dVar 4)) dNil))))) (dRet (dC (.bl false))) dNx))))))) (dRet (dC (.bl true))))
abbrev N_law : List Str := ["script", "lap", "o", "i", "heard"]
def r_law : DTS := (dSeq (dFor (dRng1 (dCB (onI2 fMax2) (dCons (dC (.int 2)) (dCons (dCB (onI2 fMin2) (dCons (dC (.int 3)) (dCons (dCB (on1 fLen) (dCons (dVar 0) dNil)) dNil))) dNil)))) (gNm 1) (dIfS (dNot (dB (dCall 1 (S_law_right) (dCons (dCall 2 (S_law_urn) (dCons (dVar 0) (dCons (dVar 1) dNil))) dNil)))) (dRet (dC (.bl false))) dNx)) (dSeq (dAsg (dTup (dCons (dTup (dCons (dC (.int 0)) (dCons (dC (.int 1)) dNil))) (dCons (dTup (dCons (dC (.int 1)) (dCons (dC (.int 1)) dNil))) dNil))) (gTp 2 (gCons (gNm 2) (gCons (gNm 3) gNil)))) (dSeq (dAsg (dTup (dCons (dCall 1 (S_table) (dCons (dTup dNil) dNil)) (dCons (dCall 1 (S_table) (dCons (dTup (dCons (dTup (dCons (dVar 2) (dCons (dVar 2) dNil))) dNil)) dNil)) (dCons (dCall 1 (S_table) (dCons (dTup (dCons (dTup (dCons (dTup (dCons (dC (.int 2)) (dCons (dC (.int 1)) dNil))) (dCons (dTup (dCons (dC (.int 4)) (dCons (dC (.int 1)) dNil))) (dCons (dVar 2) dNil)))) (dCons (dTup (dCons (dVar 3) (dCons (dTup (dCons (dC (.int 2)) (dCons (dC (.int 1)) dNil))) (dCons (dTup (dCons (dC (.int 3)) (dCons (dC (.int 1)) dNil))) dNil)))) dNil))) dNil)) (dCons (dCall 1 (S_is_table) (dCons (dTup dNil) dNil)) (dCons (dCall 1 (S_is_table) (dCons (dTup (dCons (dTup (dCons (dVar 3) (dCons (dVar 2) dNil))) (dCons (dTup (dCons (dVar 2) (dCons (dVar 3) dNil))) dNil))) dNil)) (dCons (dCall 1 (S_is_table) (dCons (dTup (dCons (dTup (dCons (dVar 2) (dCons (dVar 3) dNil))) (dCons (dTup (dCons (dVar 3) (dCons (dVar 2) dNil))) dNil))) dNil)) (dCons (dCall 1 (S_is_table) (dCons (dTup (dCons (dTup (dCons (dVar 3) (dCons (dVar 3) dNil))) (dCons (dTup (dCons (dVar 2) (dCons (dVar 3) dNil))) dNil))) dNil)) (dCons (dCall 1 (S_is_table) (dCons (dTup (dCons (dTup (dCons (dTup (dCons (dC (.int 2)) (dCons (dC (.int 1)) dNil))) (dCons (dVar 2) dNil))) dNil)) dNil)) dNil))))))))) (gNm 4)) (dRet (dCall 2 (S_law_equals 5) (dCons (dVar 4) (dCons (dTup (dCons (dTup dNil) (dCons (dTup dNil) (dCons (dTup (dCons (dTup (dCons (dVar 3) (dCons (dTup (dCons (dC (.int 2)) (dCons (dC (.int 1)) dNil))) (dCons (dVar 2) dNil)))) (dCons (dTup (dCons (dVar 2) (dCons (dVar 2) (dCons (dVar 3) dNil)))) dNil))) (dCons (dC (.bl true)) (dCons (dC (.bl true)) (dCons (dC (.bl false)) (dCons (dC (.bl false)) (dCons (dC (.bl false)) dNil))))))))) dNil)))))))
end K43
set_option Elab.async false
set_option linter.all false
set_option maxRecDepth 100000
set_option maxHeartbeats 4000000
namespace K43
open PySem PySem.Spec PyProof.Rows L2 DL
section
variable {P : Program} {w : World} {K : PySem.W.Frag} {mg : Str → Option Value} {base : Heap} {f : Addr} {cdv : Value} {A : Around} {outer : List Env} {s : Shared} {H : Hp} {E : XK}

theorem w_is_whole (m_isinstance : mg "isinstance" = none) (m_int : mg "int" = none) (m_bool : mg "bool" = none) (hr : Room 0 (A.deeper (envOfC "is_whole" (defScope KHead.s_is_whole) s.heap.objs.size f cdv))) :
    XSs (cxOf CX0 P w K mg base N_is_whole "is_whole" (defScope KHead.s_is_whole) f cdv A outer s H E).nox (defBody KHead.s_is_whole) (r_is_whole) := by
  have hN : N_is_whole.Nodup := by decide
  have hu64 := hr.units
  have hu1 : (A.deeper (envOfC "is_whole" (defScope KHead.s_is_whole) s.heap.objs.size f cdv)).units + 1 < cLine := by omega
  exact (xs_one (xs_ret (x_and (xcallB call_isi (cd_isi isi_int) m_isinstance boot_b_isinstance (xa_cons (xv 0) (xa_cons (xbltn m_int boot_t_int) xa_nil))) (x_one (x_not (xcallB call_isi (cd_isi isi_bool) m_isinstance boot_b_isinstance (xa_cons (xv 0) (xa_cons (xbltn m_bool boot_t_bool) xa_nil))))))))
theorem w_are_wholes (m_isinstance : mg "isinstance" = none) (m_tuple : mg "tuple" = none) (m_len : mg "len" = none) (m_all : mg "all" = none) (d_is_whole : CalD P w K mg base 1 "is_whole" 1 (S_is_whole)) (hr : Room 1 (A.deeper (envOfC "are_wholes" (defScope KHead.s_are_wholes) s.heap.objs.size f cdv))) :
    XSs (cxOf CX0 P w K mg base N_are_wholes "are_wholes" (defScope KHead.s_are_wholes) f cdv A outer s H E).nox (defBody KHead.s_are_wholes) (r_are_wholes) := by
  have hN : N_are_wholes.Nodup := by decide
  have hu64 := hr.units
  have hu1 : (A.deeper (envOfC "are_wholes" (defScope KHead.s_are_wholes) s.heap.objs.size f cdv)).units + 1 < cLine := by omega
  exact (xs_one (xs_ret (x_and (xcallB call_isi (cd_isi isi_tup) m_isinstance boot_b_isinstance (xa_cons (xv 0) (xa_cons (xbltn m_tuple boot_t_tuple) xa_nil))) (x_and (xcmp (op_eqD hu64) opd_eq (nomark _) (xcallB (call_len) cd_len m_len boot_b_len (xa_cons (xv 0) xa_nil)) (xv 1)) (x_one (xcallB (cr_all rfl) cd_all m_all boot_b_all (xa_cons (xlc (fz := true) rfl hN (xi_sq (xv 0)) (own := [("each", 2)]) (blkOk_by (by rfl)) (by decide) (fun s H C cl fp => (xh_name 2 hN)) (fun s H C cl fp => xts_nil) (fun s H C cl fp => (xcall d_is_whole hr (by decide) (xa_cons (xv 2) xa_nil)))) xa_nil)))))))
theorem w_is_rising (m_all : mg "all" = none) (m_zip : mg "zip" = none) (hr : Room 0 (A.deeper (envOfC "is_rising" (defScope KHead.s_is_rising) s.heap.objs.size f cdv))) :
    XSs (cxOf CX0 P w K mg base N_is_rising "is_rising" (defScope KHead.s_is_rising) f cdv A outer s H E).nox (defBody KHead.s_is_rising) (r_is_rising) := by
  have hN : N_is_rising.Nodup := by decide
  have hu64 := hr.units
  have hu1 : (A.deeper (envOfC "is_rising" (defScope KHead.s_is_rising) s.heap.objs.size f cdv)).units + 1 < cLine := by omega
  exact (xs_one (xs_ret (xcallB (cr_all rfl) cd_all m_all boot_b_all (xa_cons (xlc (fz := true) rfl hN (xi_zip m_zip (xv 0) (xslc (xv 0) (xo_some xint) xo_none)) (own := [("here", 1), ("there", 2)]) (blkOk_by (by rfl)) (by decide) (fun s H C cl fp => (xh_tup rfl (xhs_cons (xh_name 1 hN) (xhs_cons (xh_name 2 hN) xhs_nil)))) (fun s H C cl fp => xts_nil) (fun s H C cl fp => (xcmp op_lt opd_cmp (nomark _) (xv 1) (xv 2)))) xa_nil))))
theorem w_fraction (m_gcd : mg "gcd" = some (.builtin "math.gcd")) (hr : Room 0 (A.deeper (envOfC "fraction" (defScope KHead.s_fraction) s.heap.objs.size f cdv))) :
    XSs (cxOf CX0 P w K mg base N_fraction "fraction" (defScope KHead.s_fraction) f cdv A outer s H E).nox (defBody KHead.s_fraction) (r_fraction) := by
  have hN : N_fraction.Nodup := by decide
  have hu64 := hr.units
  have hu1 : (A.deeper (envOfC "fraction" (defScope KHead.s_fraction) s.heap.objs.size f cdv)).units + 1 < cLine := by omega
  exact (xs_cons (xs_set 2 hN (xif (xt_cmp op_gt opd_cmp (nomark _) (xv 1) xint) (xcallF cr_gcd cd_gcd m_gcd (xa_cons (xv 0) (xa_cons (xv 1) xa_nil))) (xneg (xcallF cr_gcd cd_gcd m_gcd (xa_cons (xv 0) (xa_cons (xv 1) xa_nil)))))) (xs_one (xs_ret (xtup (xa_cons (xop op_divP opd_div (xv 0) (xv 2)) (xa_cons (xop op_divP opd_div (xv 1) (xv 2)) xa_nil))))))
theorem w_is_fraction (d_are_wholes : CalD P w K mg base 2 "are_wholes" 2 (S_are_wholes)) (m_gcd : mg "gcd" = some (.builtin "math.gcd")) (hr : Room 2 (A.deeper (envOfC "is_fraction" (defScope KHead.s_is_fraction) s.heap.objs.size f cdv))) :
    XSs (cxOf CX0 P w K mg base N_is_fraction "is_fraction" (defScope KHead.s_is_fraction) f cdv A outer s H E).nox (defBody KHead.s_is_fraction) (r_is_fraction) := by
  have hN : N_is_fraction.Nodup := by decide
  have hu64 := hr.units
  have hu1 : (A.deeper (envOfC "is_fraction" (defScope KHead.s_is_fraction) s.heap.objs.size f cdv)).units + 1 < cLine := by omega
  exact (xs_one (xs_ret (x_and (xcall d_are_wholes hr (by decide) (xa_cons (xv 0) (xa_cons xint xa_nil))) (x_and (xcmp op_gt opd_cmp (nomark _) (xix (xv 0) xint) xint) (x_one (xcmp (op_eqD hu64) opd_eq (nomark _) (xcallF cr_gcd cd_gcd m_gcd (xa_cons (xix (xv 0) xint) (xa_cons (xix (xv 0) xint) xa_nil))) xint))))))
theorem w_are_fractions (m_isinstance : mg "isinstance" = none) (m_tuple : mg "tuple" = none) (m_len : mg "len" = none) (m_all : mg "all" = none) (d_is_fraction : CalD P w K mg base 3 "is_fraction" 1 (S_is_fraction)) (hr : Room 3 (A.deeper (envOfC "are_fractions" (defScope KHead.s_are_fractions) s.heap.objs.size f cdv))) :
    XSs (cxOf CX0 P w K mg base N_are_fractions "are_fractions" (defScope KHead.s_are_fractions) f cdv A outer s H E).nox (defBody KHead.s_are_fractions) (r_are_fractions) := by
  have hN : N_are_fractions.Nodup := by decide
  have hu64 := hr.units
  have hu1 : (A.deeper (envOfC "are_fractions" (defScope KHead.s_are_fractions) s.heap.objs.size f cdv)).units + 1 < cLine := by omega
  exact (xs_one (xs_ret (x_and (xcallB call_isi (cd_isi isi_tup) m_isinstance boot_b_isinstance (xa_cons (xv 0) (xa_cons (xbltn m_tuple boot_t_tuple) xa_nil))) (x_and (xcmp (op_eqD hu64) opd_eq (nomark _) (xcallB (call_len) cd_len m_len boot_b_len (xa_cons (xv 0) xa_nil)) (xv 1)) (x_one (xcallB (cr_all rfl) cd_all m_all boot_b_all (xa_cons (xlc (fz := true) rfl hN (xi_sq (xv 0)) (own := [("each", 2)]) (blkOk_by (by rfl)) (by decide) (fun s H C cl fp => (xh_name 2 hN)) (fun s H C cl fp => xts_nil) (fun s H C cl fp => (xcall d_is_fraction hr (by decide) (xa_cons (xv 2) xa_nil)))) xa_nil)))))))
theorem w_is_nought_row (m_all : mg "all" = none) (hr : Room 0 (A.deeper (envOfC "is_nought_row" (defScope KHead.s_is_nought_row) s.heap.objs.size f cdv))) :
    XSs (cxOf CX0 P w K mg base N_is_nought_row "is_nought_row" (defScope KHead.s_is_nought_row) f cdv A outer s H E).nox (defBody KHead.s_is_nought_row) (r_is_nought_row) := by
  have hN : N_is_nought_row.Nodup := by decide
  have hu64 := hr.units
  have hu1 : (A.deeper (envOfC "is_nought_row" (defScope KHead.s_is_nought_row) s.heap.objs.size f cdv)).units + 1 < cLine := by omega
  exact (xs_one (xs_ret (xcallB (cr_all rfl) cd_all m_all boot_b_all (xa_cons (xlc (fz := true) rfl hN (xi_sq (xv 0)) (own := [("each", 1)]) (blkOk_by (by rfl)) (by decide) (fun s H C cl fp => (xh_name 1 hN)) (fun s H C cl fp => xts_nil) (fun s H C cl fp => (xcmp (op_eqD hu64) opd_eq (nomark _) (xix (xv 1) xint) xint))) xa_nil))))
theorem w_Line_initD {cL : Addr} (cls_Line : Cls K cL) (na_Line_numbers : NoAttr K cL "numbers") (na_Line_shares : NoAttr K cL "shares") (hr : Room 0 (A.deeper (envOfC "Line.__init__" (defScope KHead.s_Line_initD) s.heap.objs.size f cdv))) :
    XSs (cxOf CX0 P w K mg base N_Line_initD "Line.__init__" (defScope KHead.s_Line_initD) f cdv A outer s H E).nox (defBody KHead.s_Line_initD) (r_Line_initD cL) := by
  have hN : N_Line_initD.Nodup := by decide
  have hu64 := hr.units
  have hu1 : (A.deeper (envOfC "Line.__init__" (defScope KHead.s_Line_initD) s.heap.objs.size f cdv)).units + 1 < cLine := by omega
  exact (xs_cons (xs_fld cls_Line na_Line_numbers (xv 0) (xv 1)) (xs_one (xs_fld cls_Line na_Line_shares (xv 0) (xv 2))))
theorem w_Line_lead {cL : Addr} (m_len : mg "len" = none) (cls_Line : Cls K cL) (na_Line_numbers : NoAttr K cL "numbers") (hr : Room 0 (A.deeper (envOfC "Line.lead" (defScope KHead.s_Line_lead) s.heap.objs.size f cdv))) :
    XSs (cxOf CX0 P w K mg base N_Line_lead "Line.lead" (defScope KHead.s_Line_lead) f cdv A outer s H E).nox (defBody KHead.s_Line_lead) (r_Line_lead cL) := by
  have hN : N_Line_lead.Nodup := by decide
  have hu64 := hr.units
  have hu1 : (A.deeper (envOfC "Line.lead" (defScope KHead.s_Line_lead) s.heap.objs.size f cdv)).units + 1 < cLine := by omega
  exact (xs_cons (xs_set 1 hN xint) (xs_cons (xs_while PassesOwn.never (xw_t (xw_and (xt_cmp op_lt opd_cmp (nomark _) (xv 1) (xcallB (call_len) cd_len m_len boot_b_len (xa_cons (xfld cls_Line na_Line_numbers (xv 0)) xa_nil))) (xw_and1 (xt_cmp (op_eqD hu64) opd_eq (nomark _) (xix (xfld cls_Line na_Line_numbers (xv 0)) (xv 1)) xint)))) (xs_one (xs_set 1 hN (xop op_addAll opd_add (xv 1) xint)))) (xs_one (xs_ret (xv 1)))))
theorem w_Line_less {cL : Addr} (cls_Line : Cls K cL) (na_Line_numbers : NoAttr K cL "numbers") (m_zip : mg "zip" = none) (na_Line_shares : NoAttr K cL "shares") (m_Line_small : MetD P w K mg base 3 cL "small" 1 (S_Line_small cL)) (mk_Line : MakD P w K mg base 1 "Line" cL 3 (S_Line_initD cL)) (hr : Room 3 (A.deeper (envOfC "Line.less" (defScope KHead.s_Line_less) s.heap.objs.size f cdv))) :
    XSs (cxOf CX0 P w K mg base N_Line_less "Line.less" (defScope KHead.s_Line_less) f cdv A outer s H E).nox (defBody KHead.s_Line_less) (r_Line_less cL) := by
  have hN : N_Line_less.Nodup := by decide
  have hu64 := hr.units
  have hu1 : (A.deeper (envOfC "Line.less" (defScope KHead.s_Line_less) s.heap.objs.size f cdv)).units + 1 < cLine := by omega
  exact (xs_cons (xs_asg (xtup (xa_cons (xix (xfld cls_Line na_Line_numbers (xv 1)) (xv 2)) (xa_cons (xix (xfld cls_Line na_Line_numbers (xv 0)) (xv 2)) xa_nil))) (xh_tup rfl (xhs_cons (xh_name 3 hN) (xhs_cons (xh_name 4 hN) xhs_nil)))) (xs_cons (xs_setLc 5 (fz := true) rfl hN (xi_zip m_zip (xfld cls_Line na_Line_numbers (xv 0)) (xfld cls_Line na_Line_numbers (xv 1))) (own := [("here", 9), ("there", 10)]) (blkOk_by (by rfl)) (by decide) (fun s H C cl fp => (xh_tup rfl (xhs_cons (xh_name 9 hN) (xhs_cons (xh_name 10 hN) xhs_nil)))) (fun s H C cl fp => xts_nil) (fun s H C cl fp => (xop op_sub' opd_sub (xop op_mulAll opd_mul (xv 3) (xv 9)) (xop op_mulAll opd_mul (xv 4) (xv 10))))) (xs_cons (xs_setDc 6 rfl hN (xi_items (xfld cls_Line na_Line_shares (xv 0))) (own := [("label", 7), ("number", 8)]) (blkOk_by (by rfl)) (by decide) (fun s H C cl fp => (xh_tup rfl (xhs_cons (xh_name 7 hN) (xhs_cons (xh_name 8 hN) xhs_nil)))) (fun s H C cl fp => xts_nil) (fun s H C cl fp => (xv 7)) (fun s H C cl fp => (xop op_mulAll opd_mul (xv 3) (xv 8)))) (xs_cons (xs_for PassesOwn.never rfl (xi_items (xfld cls_Line na_Line_shares (xv 1))) (xh_tup rfl (xhs_cons (xh_name 7 hN) (xhs_cons (xh_name 8 hN) xhs_nil))) (xs_one (xs_asg (xop op_sub' opd_sub (xdget2 hu1 (xv 6) (xv 7) xint) (xop op_mulAll opd_mul (xv 4) (xv 8))) (xh_subD hu1 (xv 6) (xv 7))))) (xs_one (xs_ret (xmeth0 m_Line_small hr (by decide) (xmk (fz := true) mk_Line hr (by decide) (xa_cons (xv 5) (xa_cons (xdc (fz := true) rfl hN (xi_items (xlock (xv 6))) (own := [("label", 7), ("number", 8)]) (blkOk_by (by rfl)) (by decide) (fun s H C cl fp => (xh_tup rfl (xhs_cons (xh_name 7 hN) (xhs_cons (xh_name 8 hN) xhs_nil)))) (fun s H C cl fp => (xts_one (xt_cmp (op_neD hu64) opd_ne (nomark _) (xv 8) xint))) (fun s H C cl fp => (xv 7)) (fun s H C cl fp => (xv 8))) xa_nil))))))))))
theorem w_Line_small {cL : Addr} (cls_Line : Cls K cL) (na_Line_numbers : NoAttr K cL "numbers") (m_gcd : mg "gcd" = some (.builtin "math.gcd")) (na_Line_shares : NoAttr K cL "shares") (mk_Line : MakD P w K mg base 1 "Line" cL 3 (S_Line_initD cL)) (hr : Room 2 (A.deeper (envOfC "Line.small" (defScope KHead.s_Line_small) s.heap.objs.size f cdv))) :
    XSs (cxOf CX0 P w K mg base N_Line_small "Line.small" (defScope KHead.s_Line_small) f cdv A outer s H E).nox (defBody KHead.s_Line_small) (r_Line_small cL) := by
  have hN : N_Line_small.Nodup := by decide
  have hu64 := hr.units
  have hu1 : (A.deeper (envOfC "Line.small" (defScope KHead.s_Line_small) s.heap.objs.size f cdv)).units + 1 < cLine := by omega
  exact (xs_cons (xs_set 1 hN xint) (xs_cons (xs_for PassesOwn.never rfl (xi_sq (xfld cls_Line na_Line_numbers (xv 0))) (xh_name 2 hN) (xs_one (xs_set 1 hN (xcallF cr_gcd cd_gcd m_gcd (xa_cons (xv 1) (xa_cons (xv 2) xa_nil)))))) (xs_cons (xs_for PassesOwn.never rfl (xi_values (xfld cls_Line na_Line_shares (xv 0))) (xh_name 2 hN) (xs_one (xs_set 1 hN (xcallF cr_gcd cd_gcd m_gcd (xa_cons (xv 1) (xa_cons (xv 2) xa_nil)))))) (xs_cons (xs_if (xt_cmp op_lt opd_cmp (nomark _) (xv 1) xint) (xs_one (xs_ret (xv 0))) xs_nil) (xs_one (xs_ret (xmk (fz := true) mk_Line hr (by decide) (xa_cons (xlc (fz := true) rfl hN (xi_sq (xfld cls_Line na_Line_numbers (xv 0))) (own := [("each", 3)]) (blkOk_by (by rfl)) (by decide) (fun s H C cl fp => (xh_name 3 hN)) (fun s H C cl fp => xts_nil) (fun s H C cl fp => (xop op_divP opd_div (xv 3) (xv 1)))) (xa_cons (xdc (fz := true) rfl hN (xi_items (xfld cls_Line na_Line_shares (xv 0))) (own := [("label", 4), ("each", 3)]) (blkOk_by (by rfl)) (by decide) (fun s H C cl fp => (xh_tup rfl (xhs_cons (xh_name 4 hN) (xhs_cons (xh_name 3 hN) xhs_nil)))) (fun s H C cl fp => xts_nil) (fun s H C cl fp => (xv 4)) (fun s H C cl fp => (xop op_divP opd_div (xv 3) (xv 1)))) xa_nil)))))))))
theorem w_line_of {cL : Addr} (m_gcd : mg "gcd" = some (.builtin "math.gcd")) (mk_Line : MakD P w K mg base 1 "Line" cL 3 (S_Line_initD cL)) (hr : Room 2 (A.deeper (envOfC "line_of" (defScope KHead.s_line_of) s.heap.objs.size f cdv))) :
    XSs (cxOf CX0 P w K mg base N_line_of "line_of" (defScope KHead.s_line_of) f cdv A outer s H E).nox (defBody KHead.s_line_of) (r_line_of cL) := by
  have hN : N_line_of.Nodup := by decide
  have hu64 := hr.units
  have hu1 : (A.deeper (envOfC "line_of" (defScope KHead.s_line_of) s.heap.objs.size f cdv)).units + 1 < cLine := by omega
  exact (xs_cons (xs_set 2 hN xint) (xs_cons (xs_for PassesOwn.never rfl (xi_sq (xv 0)) (xh_name 3 hN) (xs_one (xs_set 2 hN (xop op_divP opd_div (xop op_mulAll opd_mul (xv 2) (xix (xv 3) xint)) (xcallF cr_gcd cd_gcd m_gcd (xa_cons (xv 2) (xa_cons (xix (xv 3) xint) xa_nil))))))) (xs_one (xs_ret (xmk (fz := true) mk_Line hr (by decide) (xa_cons (xlc (fz := true) rfl hN (xi_sq (xv 0)) (own := [("number", 3)]) (blkOk_by (by rfl)) (by decide) (fun s H C cl fp => (xh_name 3 hN)) (fun s H C cl fp => xts_nil) (fun s H C cl fp => (xop op_mulAll opd_mul (xix (xv 3) xint) (xop op_divP opd_div (xv 2) (xix (xv 3) xint))))) (xa_cons (xdict1 (xv 1) (xv 2)) xa_nil)))))))
theorem w_Reducer_initD {cR : Addr} (cls_Reducer : Cls K cR) (na_Reducer_lines : NoAttr K cR "lines") (hr : Room 0 (A.deeper (envOfC "Reducer.__init__" (defScope KHead.s_Reducer_initD) s.heap.objs.size f cdv))) :
    XSs (cxOf CX0 P w K mg base N_Reducer_initD "Reducer.__init__" (defScope KHead.s_Reducer_initD) f cdv A outer s H E).nox (defBody KHead.s_Reducer_initD) (r_Reducer_initD cR) := by
  have hN : N_Reducer_initD.Nodup := by decide
  have hu64 := hr.units
  have hu1 : (A.deeper (envOfC "Reducer.__init__" (defScope KHead.s_Reducer_initD) s.heap.objs.size f cdv)).units + 1 < cLine := by omega
  exact (xs_one (xs_fld cls_Reducer na_Reducer_lines (xv 0) xdictT))
theorem w_Reducer_left {cL : Addr} {cR : Addr} (m_sorted : mg "sorted" = none) (cls_Reducer : Cls K cR) (na_Reducer_lines : NoAttr K cR "lines") (cls_Line : Cls K cL) (na_Line_numbers : NoAttr K cL "numbers") (m_Line_less : MetD P w K mg base 4 cL "less" 3 (S_Line_less cL)) (hr : Room 4 (A.deeper (envOfC "Reducer.left" (defScope KHead.s_Reducer_left) s.heap.objs.size f cdv))) :
    XSs (cxOf CX0 P w K mg base N_Reducer_left "Reducer.left" (defScope KHead.s_Reducer_left) f cdv A outer s H E).nox (defBody KHead.s_Reducer_left) (r_Reducer_left cL cR) := by
  have hN : N_Reducer_left.Nodup := by decide
  have hu64 := hr.units
  have hu1 : (A.deeper (envOfC "Reducer.left" (defScope KHead.s_Reducer_left) s.heap.objs.size f cdv)).units + 1 < cLine := by omega
  exact (xs_cons (xs_set 2 hN (xv 1)) (xs_cons (xs_for PassesOwn.never rfl (xi_sq (xcallB (call_sortedDI rfl) cd_sortD m_sorted boot_b_sorted (xa_cons (xfld cls_Reducer na_Reducer_lines (xv 0)) xa_nil))) (xh_name 3 hN) (xs_one (xs_if (xt_cmp (op_neD hu64) opd_ne (nomark _) (xix (xfld cls_Line na_Line_numbers (xv 2)) (xv 3)) xint) (xs_one (xs_set 2 hN (xmeth m_Line_less hr (by decide) (xv 2) (xa_cons (xdget hu1 (xfld cls_Reducer na_Reducer_lines (xv 0)) (xv 3)) (xa_cons (xv 3) xa_nil))))) xs_nil))) (xs_one (xs_ret (xv 2)))))
theorem w_Reducer_add {cL : Addr} {cR : Addr} (m_Reducer_left : MetD P w K mg base 5 cR "left" 2 (S_Reducer_left cL cR)) (d_line_of : CalD P w K mg base 3 "line_of" 2 (S_line_of cL)) (m_Line_lead : MetD P w K mg base 1 cL "lead" 1 (S_Line_lead cL)) (m_len : mg "len" = none) (m_list : mg "list" = none) (cls_Reducer : Cls K cR) (na_Reducer_lines : NoAttr K cR "lines") (cls_Line : Cls K cL) (na_Line_numbers : NoAttr K cL "numbers") (m_Line_less : MetD P w K mg base 4 cL "less" 3 (S_Line_less cL)) (hr : Room 5 (A.deeper (envOfC "Reducer.add" (defScope KHead.s_Reducer_add) s.heap.objs.size f cdv))) :
    XSs (cxOf CX0 P w K mg base N_Reducer_add "Reducer.add" (defScope KHead.s_Reducer_add) f cdv A outer s H E).nox (defBody KHead.s_Reducer_add) (r_Reducer_add cL cR) := by
  have hN : N_Reducer_add.Nodup := by decide
  have hu64 := hr.units
  have hu1 : (A.deeper (envOfC "Reducer.add" (defScope KHead.s_Reducer_add) s.heap.objs.size f cdv)).units + 1 < cLine := by omega
  exact (xs_cons (xs_set 3 hN (xmeth m_Reducer_left hr (by decide) (xv 0) (xa_cons (xcall d_line_of hr (by decide) (xa_cons (xv 1) (xa_cons (xv 2) xa_nil))) xa_nil))) (xs_cons (xs_set 4 hN (xmeth0 m_Line_lead hr (by decide) (xv 3))) (xs_cons (xs_if (xt_cmp (op_eqD hu64) opd_eq (nomark _) (xv 4) (xcallB (call_len) cd_len m_len boot_b_len (xa_cons (xv 1) xa_nil))) (xs_one xs_retN) xs_nil) (xs_cons (xs_for PassesOwn.never rfl (xi_sq (xcallT ((call_list_dK rfl)) cd_listD m_list boot_t_list (xa_cons (xfld cls_Reducer na_Reducer_lines (xv 0)) xa_nil))) (xh_name 5 hN) (xs_one (xs_if (xt_cmp (op_neD hu64) opd_ne (nomark _) (xix (xfld cls_Line na_Line_numbers (xdget hu1 (xfld cls_Reducer na_Reducer_lines (xv 0)) (xv 5))) (xv 4)) xint) (xs_one (xs_asg (xmeth m_Line_less hr (by decide) (xdget hu1 (xfld cls_Reducer na_Reducer_lines (xv 0)) (xv 5)) (xa_cons (xv 3) (xa_cons (xv 4) xa_nil))) (xh_subD hu1 (xfld cls_Reducer na_Reducer_lines (xv 0)) (xv 5)))) xs_nil))) (xs_one (xs_asg (xv 3) (xh_subD hu1 (xfld cls_Reducer na_Reducer_lines (xv 0)) (xv 4))))))))
theorem w_Reducer_row_at {cL : Addr} {cR : Addr} (cls_Reducer : Cls K cR) (na_Reducer_lines : NoAttr K cR "lines") (m_tuple : mg "tuple" = none) (cls_Line : Cls K cL) (na_Line_numbers : NoAttr K cL "numbers") (d_fraction : CalD P w K mg base 1 "fraction" 2 (S_fraction)) (hr : Room 1 (A.deeper (envOfC "Reducer.row_at" (defScope KHead.s_Reducer_row_at) s.heap.objs.size f cdv))) :
    XSs (cxOf CX0 P w K mg base N_Reducer_row_at "Reducer.row_at" (defScope KHead.s_Reducer_row_at) f cdv A outer s H E).nox (defBody KHead.s_Reducer_row_at) (r_Reducer_row_at cL cR) := by
  have hN : N_Reducer_row_at.Nodup := by decide
  have hu64 := hr.units
  have hu1 : (A.deeper (envOfC "Reducer.row_at" (defScope KHead.s_Reducer_row_at) s.heap.objs.size f cdv)).units + 1 < cLine := by omega
  exact (xs_cons (xs_set 2 hN (xdget hu1 (xfld cls_Reducer na_Reducer_lines (xv 0)) (xv 1))) (xs_one (xs_ret (xcallT (call_tuple_of) cd_tup m_tuple boot_t_tuple (xa_cons (xlc (fz := true) rfl hN (xi_sq (xfld cls_Line na_Line_numbers (xv 2))) (own := [("number", 3)]) (blkOk_by (by rfl)) (by decide) (fun s H C cl fp => (xh_name 3 hN)) (fun s H C cl fp => xts_nil) (fun s H C cl fp => (xcall d_fraction hr (by decide) (xa_cons (xv 3) (xa_cons (xix (xfld cls_Line na_Line_numbers (xv 2)) (xv 1)) xa_nil))))) xa_nil)))))
theorem w_Reducer_told_rows {cL : Addr} {cR : Addr} (m_tuple : mg "tuple" = none) (m_sorted : mg "sorted" = none) (cls_Reducer : Cls K cR) (na_Reducer_lines : NoAttr K cR "lines") (m_Reducer_row_at : MetD P w K mg base 2 cR "row_at" 2 (S_Reducer_row_at cL cR)) (hr : Room 2 (A.deeper (envOfC "Reducer.told_rows" (defScope KHead.s_Reducer_told_rows) s.heap.objs.size f cdv))) :
    XSs (cxOf CX0 P w K mg base N_Reducer_told_rows "Reducer.told_rows" (defScope KHead.s_Reducer_told_rows) f cdv A outer s H E).nox (defBody KHead.s_Reducer_told_rows) (r_Reducer_told_rows cL cR) := by
  have hN : N_Reducer_told_rows.Nodup := by decide
  have hu64 := hr.units
  have hu1 : (A.deeper (envOfC "Reducer.told_rows" (defScope KHead.s_Reducer_told_rows) s.heap.objs.size f cdv)).units + 1 < cLine := by omega
  exact (xs_one (xs_ret (xcallT (call_tuple_of) cd_tup m_tuple boot_t_tuple (xa_cons (xlc (fz := true) rfl hN (xi_sq (xcallB (call_sortedDI rfl) cd_sortD m_sorted boot_b_sorted (xa_cons (xfld cls_Reducer na_Reducer_lines (xv 0)) xa_nil))) (own := [("at", 1)]) (blkOk_by (by rfl)) (by decide) (fun s H C cl fp => (xh_name 1 hN)) (fun s H C cl fp => xts_nil) (fun s H C cl fp => (xmeth m_Reducer_row_at hr (by decide) (xv 0) (xa_cons (xv 1) xa_nil)))) xa_nil))))
theorem w_reduced {cL : Addr} {cR : Addr} (mk_Reducer : MakD P w K mg base 1 "Reducer" cR 1 (S_Reducer_initD cR)) (m_enumerate : mg "enumerate" = none) (m_Reducer_add : MetD P w K mg base 6 cR "add" 3 (S_Reducer_add cL cR)) (m_Reducer_told_rows : MetD P w K mg base 3 cR "told_rows" 1 (S_Reducer_told_rows cL cR)) (hr : Room 6 (A.deeper (envOfC "reduced" (defScope KHead.s_reduced) s.heap.objs.size f cdv))) :
    XSs (cxOf CX0 P w K mg base N_reduced "reduced" (defScope KHead.s_reduced) f cdv A outer s H E).nox (defBody KHead.s_reduced) (r_reduced cL cR) := by
  have hN : N_reduced.Nodup := by decide
  have hu64 := hr.units
  have hu1 : (A.deeper (envOfC "reduced" (defScope KHead.s_reduced) s.heap.objs.size f cdv)).units + 1 < cLine := by omega
  exact (xs_cons (xs_set 1 hN (xmk0 (fz := true) mk_Reducer hr (by decide))) (xs_cons (xs_for PassesOwn.never rfl (xi_enum m_enumerate (xv 0)) (xh_tup rfl (xhs_cons (xh_name 2 hN) (xhs_cons (xh_name 3 hN) xhs_nil))) (xs_one (xs_expr (xmeth m_Reducer_add hr (by decide) (xv 1) (xa_cons (xv 3) (xa_cons (xv 2) xa_nil)))))) (xs_one (xs_ret (xmeth0 m_Reducer_told_rows hr (by decide) (xv 1))))))
theorem w_are_rows (m_isinstance : mg "isinstance" = none) (m_tuple : mg "tuple" = none) (m_all : mg "all" = none) (d_are_fractions : CalD P w K mg base 4 "are_fractions" 2 (S_are_fractions)) (m_len : mg "len" = none) (hr : Room 4 (A.deeper (envOfC "are_rows" (defScope KHead.s_are_rows) s.heap.objs.size f cdv))) :
    XSs (cxOf CX0 P w K mg base N_are_rows "are_rows" (defScope KHead.s_are_rows) f cdv A outer s H E).nox (defBody KHead.s_are_rows) (r_are_rows) := by
  have hN : N_are_rows.Nodup := by decide
  have hu64 := hr.units
  have hu1 : (A.deeper (envOfC "are_rows" (defScope KHead.s_are_rows) s.heap.objs.size f cdv)).units + 1 < cLine := by omega
  exact (xs_cons (xs_if (xw_t (xw_or (xt_not (xt_val (xcallB call_isi (cd_isi isi_tup) m_isinstance boot_b_isinstance (xa_cons (xv 0) (xa_cons (xbltn m_tuple boot_t_tuple) xa_nil))))) (xw_or1 (xt_not (xt_val (xcallB (cr_all rfl) cd_all m_all boot_b_all (xa_cons (xlc (fz := true) rfl hN (xi_sq (xv 0)) (own := [("row", 1)]) (blkOk_by (by rfl)) (by decide) (fun s H C cl fp => (xh_name 1 hN)) (fun s H C cl fp => xts_nil) (fun s H C cl fp => (x_and (xcallB call_isi (cd_isi isi_tup) m_isinstance boot_b_isinstance (xa_cons (xv 1) (xa_cons (xbltn m_tuple boot_t_tuple) xa_nil))) (x_one (xcmp (op_neD hu64) opd_ne (nomark _) (xv 1) (xtup xa_nil)))))) xa_nil))))))) (xs_one (xs_ret xbl)) xs_nil) (xs_one (xs_ret (xcallB (cr_all rfl) cd_all m_all boot_b_all (xa_cons (xlc (fz := true) rfl hN (xi_sq (xv 0)) (own := [("row", 1)]) (blkOk_by (by rfl)) (by decide) (fun s H C cl fp => (xh_name 1 hN)) (fun s H C cl fp => xts_nil) (fun s H C cl fp => (xcall d_are_fractions hr (by decide) (xa_cons (xv 1) (xa_cons (xcallB (call_len) cd_len m_len boot_b_len (xa_cons (xix (xv 0) xint) xa_nil)) xa_nil))))) xa_nil)))))
theorem w_lead_of (m_enumerate : mg "enumerate" = none) (hr : Room 0 (A.deeper (envOfC "lead_of" (defScope KHead.s_lead_of) s.heap.objs.size f cdv))) :
    XSs (cxOf CX0 P w K mg base N_lead_of "lead_of" (defScope KHead.s_lead_of) f cdv A outer s H E).nox (defBody KHead.s_lead_of) (r_lead_of) := by
  have hN : N_lead_of.Nodup := by decide
  have hu64 := hr.units
  have hu1 : (A.deeper (envOfC "lead_of" (defScope KHead.s_lead_of) s.heap.objs.size f cdv)).units + 1 < cLine := by omega
  exact (xs_one (xs_ret (xix (xlc (fz := true) rfl hN (xi_enum m_enumerate (xv 0)) (own := [("at", 1), ("number", 2)]) (blkOk_by (by rfl)) (by decide) (fun s H C cl fp => (xh_tup rfl (xhs_cons (xh_name 1 hN) (xhs_cons (xh_name 2 hN) xhs_nil)))) (fun s H C cl fp => (xts_one (xt_cmp (op_neD hu64) opd_ne (nomark _) (xix (xv 2) xint) xint))) (fun s H C cl fp => (xv 1))) xint)))
theorem w_table (d_are_rows : CalD P w K mg base 5 "are_rows" 1 (S_are_rows)) (d_reduced : CalD P w K mg base 7 "reduced" 1 (S_reduced)) (hr : Room 7 (A.deeper (envOfC "table" (defScope KHead.s_table) s.heap.objs.size f cdv))) :
    XSs (cxOf CX0 P w K mg base N_table "table" (defScope KHead.s_table) f cdv A outer s H E).nox (defBody KHead.s_table) (r_table) := by
  have hN : N_table.Nodup := by decide
  have hu64 := hr.units
  have hu1 : (A.deeper (envOfC "table" (defScope KHead.s_table) s.heap.objs.size f cdv)).units + 1 < cLine := by omega
  exact (xs_cons (xs_if (xt_not (xt_val (xcall d_are_rows hr (by decide) (xa_cons (xv 0) xa_nil)))) (xs_one xs_never) xs_nil) (xs_one (xs_ret (xcall d_reduced hr (by decide) (xa_cons (xv 0) xa_nil)))))
theorem w_is_table (d_are_rows : CalD P w K mg base 5 "are_rows" 1 (S_are_rows)) (m_any : mg "any" = none) (d_is_nought_row : CalD P w K mg base 1 "is_nought_row" 1 (S_is_nought_row)) (d_lead_of : CalD P w K mg base 1 "lead_of" 1 (S_lead_of)) (d_is_rising : CalD P w K mg base 1 "is_rising" 1 (S_is_rising)) (m_zip : mg "zip" = none) (c_ONE : ConD K mg "ONE" (.tup [.int 1, .int 1])) (m_all : mg "all" = none) (hr : Room 5 (A.deeper (envOfC "is_table" (defScope KHead.s_is_table) s.heap.objs.size f cdv))) :
    XSs (cxOf CX0 P w K mg base N_is_table "is_table" (defScope KHead.s_is_table) f cdv A outer s H E).nox (defBody KHead.s_is_table) (r_is_table) := by
  have hN : N_is_table.Nodup := by decide
  have hu64 := hr.units
  have hu1 : (A.deeper (envOfC "is_table" (defScope KHead.s_is_table) s.heap.objs.size f cdv)).units + 1 < cLine := by omega
  exact (xs_cons (xs_if (xw_t (xw_or (xt_not (xt_val (xcall d_are_rows hr (by decide) (xa_cons (xv 0) xa_nil)))) (xw_or1 (xt_val (xcallB (cr_any rfl) cd_any m_any boot_b_any (xa_cons (xlc (fz := true) rfl hN (xi_sq (xv 0)) (own := [("row", 2)]) (blkOk_by (by rfl)) (by decide) (fun s H C cl fp => (xh_name 2 hN)) (fun s H C cl fp => xts_nil) (fun s H C cl fp => (xcall d_is_nought_row hr (by decide) (xa_cons (xv 2) xa_nil)))) xa_nil)))))) (xs_one (xs_ret xbl)) xs_nil) (xs_cons (xs_set 1 hN (xlc (fz := true) rfl hN (xi_sq (xv 0)) (own := [("row", 2)]) (blkOk_by (by rfl)) (by decide) (fun s H C cl fp => (xh_name 2 hN)) (fun s H C cl fp => xts_nil) (fun s H C cl fp => (xcall d_lead_of hr (by decide) (xa_cons (xv 2) xa_nil))))) (xs_cons (xs_if (xw_t (xw_or (xt_not (xt_val (xcall d_is_rising hr (by decide) (xa_cons (xv 1) xa_nil)))) (xw_or1 (xt_val (xcallB (cr_any rfl) cd_any m_any boot_b_any (xa_cons (xlc (fz := true) rfl hN (xi_zip m_zip (xv 0) (xv 1)) (own := [("row", 2), ("lead", 3)]) (blkOk_by (by rfl)) (by decide) (fun s H C cl fp => (xh_tup rfl (xhs_cons (xh_name 2 hN) (xhs_cons (xh_name 3 hN) xhs_nil)))) (fun s H C cl fp => xts_nil) (fun s H C cl fp => (xcmp (op_neD hu64) opd_ne (nomark _) (xix (xv 2) (xv 3)) (xglobK c_ONE)))) xa_nil)))))) (xs_one (xs_ret xbl)) xs_nil) (xs_one (xs_ret (xcallB (cr_all rfl) cd_all m_all boot_b_all (xa_cons (xlc2 (fz := true) rfl hN (xi_sq (xv 0)) (own := [("row", 2), ("lead", 3)]) (vs1 := [3]) (blkOk_by (by rfl)) (by decide) (by decide) (by decide) (fun s H C cl fp => (xh_name 2 hN)) (fun s H C cl fp => xts_nil) (fun s H C cl fp => (xi_sq (xv 1))) (fun s H C cl fp => (xh_name 3 hN)) (fun s H C cl fp => (xts_one (xt_cmp (op_neD hu64) opd_ne (nomark _) (xv 3) (xcall d_lead_of hr (by decide) (xa_cons (xv 2) xa_nil))))) (fun s H C cl fp => (xcmp (op_eqD hu64) opd_eq (nomark _) (xix (xix (xv 2) (xv 3)) xint) xint))) xa_nil)))))))
theorem w_law_urn (m_len : mg "len" = none) (m_int : mg "int" = none) (m_enumerate : mg "enumerate" = none) (m_abs : mg "abs" = none) (hr : Room 0 (A.deeper (envOfC "_law_urn" (defScope KHead.s_law_urn) s.heap.objs.size f cdv))) :
    XSs (cxOf CX0 P w K mg base N_law_urn "_law_urn" (defScope KHead.s_law_urn) f cdv A outer s H E).nox (defBody KHead.s_law_urn) (r_law_urn) := by
  have hN : N_law_urn.Nodup := by decide
  have hu64 := hr.units
  have hu1 : (A.deeper (envOfC "_law_urn" (defScope KHead.s_law_urn) s.heap.objs.size f cdv)).units + 1 < cLine := by omega
  exact (xs_cons (xs_set 2 hN (xif (xt_cmp op_lt opd_cmp (nomark _) (xv 1) (xcallB (call_len) cd_len m_len boot_b_len (xa_cons (xv 0) xa_nil))) (xcallT (call_int1) cd_int m_int boot_t_int (xa_cons (xix (xv 0) (xv 1)) xa_nil)) xint)) (xs_cons (xs_set 3 hN (xop op_addAll opd_add xint (xop op_mulAll opd_mul xint (xv 1)))) (xs_cons (xs_for PassesOwn.never rfl (xi_enum m_enumerate (xslc (xv 0) xo_none (xo_some xint))) (xh_tup rfl (xhs_cons (xh_name 4 hN) (xhs_cons (xh_name 5 hN) xhs_nil))) (xs_one (xs_set 3 hN (xop op_modN opd_mod (xcallT (call_int1) cd_int m_int boot_t_int (xa_cons (xop op_addAll opd_add (xop op_addAll opd_add (xop op_mulAll opd_mul (xv 3) xint) (xop op_mulAll opd_mul (xcallT (call_int1) cd_int m_int boot_t_int (xa_cons (xv 5) xa_nil)) (xop op_addAll opd_add (xop op_mulAll opd_mul xint (xv 4)) xint))) xint) xa_nil)) xint)))) (xs_one (xs_ret (xlstT (xa_cons (xif (xw_t (xw_or (xt_cmp op_lt opd_cmp (nomark _) (xv 2) xint) (xw_or1 (xt_cmp op_gt opd_cmp (nomark _) (xv 2) (xop op_pow opd_pow xint xint))))) (xop op_modN opd_mod (xcallB (call_abs) cd_abs m_abs boot_b_abs (xa_cons (xv 2) xa_nil)) (xop op_pow opd_pow xint xint)) xint) (xa_cons (xv 3) xa_nil))))))))
theorem w_law_ball (m_int : mg "int" = none) (hr : Room 0 (A.deeper (envOfC "_law_ball" (defScope KHead.s_law_ball) s.heap.objs.size f cdv))) :
    XSs (cxOf CX0 P w K mg base N_law_ball "_law_ball" (defScope KHead.s_law_ball) f cdv A outer s H E).nox (defBody KHead.s_law_ball) (r_law_ball) := by
  have hN : N_law_ball.Nodup := by decide
  have hu64 := hr.units
  have hu1 : (A.deeper (envOfC "_law_ball" (defScope KHead.s_law_ball) s.heap.objs.size f cdv)).units + 1 < cLine := by omega
  exact (xs_cons (xs_if (xt_cmp op_gt opd_cmp (nomark _) (xix (xv 0) xint) xint) (xs_cons (xs_set 2 hN (xop op_modN opd_mod (xcallT (call_int1) cd_int m_int boot_t_int (xa_cons (xix (xv 0) xint) xa_nil)) (xv 1))) (xs_cons (xs_asg (xop op_divP opd_div (xix (xv 0) xint) (xv 1)) (xh_subL (xv 0) xint)) (xs_one (xs_ret (xv 2))))) xs_nil) (xs_cons (xs_asg (xop op_modN opd_mod (xcallT (call_int1) cd_int m_int boot_t_int (xa_cons (xop op_addAll opd_add (xop op_mulAll opd_mul (xix (xv 0) xint) xint) xint) xa_nil)) xint) (xh_subL (xv 0) xint)) (xs_one (xs_ret (xop op_modN opd_mod (xcallT (call_int1) cd_int m_int boot_t_int (xa_cons (xop op_divP opd_div (xix (xv 0) xint) xint) xa_nil)) (xv 1))))))
theorem w_law_one_of (d_law_ball : CalD P w K mg base 1 "_law_ball" 2 (S_law_ball)) (m_len : mg "len" = none) (hr : Room 1 (A.deeper (envOfC "_law_one_of" (defScope KHead.s_law_one_of) s.heap.objs.size f cdv))) :
    XSs (cxOf CX0 P w K mg base N_law_one_of "_law_one_of" (defScope KHead.s_law_one_of) f cdv A outer s H E).nox (defBody KHead.s_law_one_of) (r_law_one_of) := by
  have hN : N_law_one_of.Nodup := by decide
  have hu64 := hr.units
  have hu1 : (A.deeper (envOfC "_law_one_of" (defScope KHead.s_law_one_of) s.heap.objs.size f cdv)).units + 1 < cLine := by omega
  exact (xs_one (xs_ret (xix (xv 1) (xcall d_law_ball hr (by decide) (xa_cons (xv 0) (xa_cons (xcallB (call_len) cd_len m_len boot_b_len (xa_cons (xv 1) xa_nil)) xa_nil))))))
theorem w_law_equals {nn : Nat} (m_isinstance : mg "isinstance" = none) (m_tuple : mg "tuple" = none) (m_len : mg "len" = none) (m_zip : mg "zip" = none) (m_bool : mg "bool" = none) (m_str : mg "str" = none) (m_int : mg "int" = none) (d_law_equals : CalD P w K mg base (nn + 1) "_law_equals" 2 (S_law_equals nn)) (hr : Room (nn + 1) (A.deeper (envOfC "_law_equals" (defScope KHead.s_law_equals) s.heap.objs.size f cdv))) :
    XSs (cxOf CX0 P w K mg base N_law_equals "_law_equals" (defScope KHead.s_law_equals) f cdv A outer s H E).nox (defBody KHead.s_law_equals) (r_law_equals nn) := by
  have hN : N_law_equals.Nodup := by decide
  have hu64 := hr.units
  have hu1 : (A.deeper (envOfC "_law_equals" (defScope KHead.s_law_equals) s.heap.objs.size f cdv)).units + 1 < cLine := by omega
  exact (xs_cons (xs_if (xw_t (xw_or (xt_val (xcallB call_isi (cd_isi isi_tup) m_isinstance boot_b_isinstance (xa_cons (xv 0) (xa_cons (xbltn m_tuple boot_t_tuple) xa_nil)))) (xw_or1 (xt_val (xcallB call_isi (cd_isi isi_tup) m_isinstance boot_b_isinstance (xa_cons (xv 1) (xa_cons (xbltn m_tuple boot_t_tuple) xa_nil))))))) (xs_cons (xs_if (xw_t (xw_or (xt_not (xt_val (xcallB call_isi (cd_isi isi_tup) m_isinstance boot_b_isinstance (xa_cons (xv 0) (xa_cons (xbltn m_tuple boot_t_tuple) xa_nil))))) (xw_or (xt_not (xt_val (xcallB call_isi (cd_isi isi_tup) m_isinstance boot_b_isinstance (xa_cons (xv 1) (xa_cons (xbltn m_tuple boot_t_tuple) xa_nil))))) (xw_or1 (xt_cmp (op_neD hu64) opd_ne (nomark _) (xcallB (call_len) cd_len m_len boot_b_len (xa_cons (xv 0) xa_nil)) (xcallB (call_len) cd_len m_len boot_b_len (xa_cons (xv 1) xa_nil))))))) (xs_one (xs_ret xbl)) xs_nil) (xs_one (xs_ret (xcmp (op_eqD hu64) opd_eq (nomark _) (xlc (fz := true) rfl hN (xi_zip m_zip (xv 0) (xv 1)) (own := [("one", 2), ("two", 3)]) (blkOk_by (by rfl)) (by decide) (fun s H C cl fp => (xh_tup rfl (xhs_cons (xh_name 2 hN) (xhs_cons (xh_name 3 hN) xhs_nil)))) (fun s H C cl fp => (xts_one (xt_not (xt_val (xcall d_law_equals hr (Nat.le_refl _) (xa_cons (xv 2) (xa_cons (xv 3) xa_nil))))))) (fun s H C cl fp => xint)) (xlst xa_nil))))) xs_nil) (xs_cons (xs_if (xw_t (xw_or (xt_cmp op_isB opd_is (nomark _) (xv 0) xnon) (xw_or1 (xt_cmp op_isB opd_is (nomark _) (xv 1) xnon)))) (xs_one (xs_ret (x_and (xcmp op_isB opd_is (nomark _) (xv 0) xnon) (x_one (xcmp op_isB opd_is (nomark _) (xv 1) xnon))))) xs_nil) (xs_cons (xs_if (xw_t (xw_or (xt_val (xcallB call_isi (cd_isi isi_bool) m_isinstance boot_b_isinstance (xa_cons (xv 0) (xa_cons (xbltn m_bool boot_t_bool) xa_nil)))) (xw_or1 (xt_val (xcallB call_isi (cd_isi isi_bool) m_isinstance boot_b_isinstance (xa_cons (xv 1) (xa_cons (xbltn m_bool boot_t_bool) xa_nil))))))) (xs_one (xs_ret (x_and (xcallB call_isi (cd_isi isi_bool) m_isinstance boot_b_isinstance (xa_cons (xv 0) (xa_cons (xbltn m_bool boot_t_bool) xa_nil))) (x_and (xcallB call_isi (cd_isi isi_bool) m_isinstance boot_b_isinstance (xa_cons (xv 1) (xa_cons (xbltn m_bool boot_t_bool) xa_nil))) (x_one (xcmp (op_eqD hu64) opd_eq (nomark _) (xv 0) (xv 1))))))) xs_nil) (xs_cons (xs_if (xw_t (xw_or (xt_val (xcallB call_isi (cd_isi isi_str) m_isinstance boot_b_isinstance (xa_cons (xv 0) (xa_cons (xbltn m_str boot_t_str) xa_nil)))) (xw_or1 (xt_val (xcallB call_isi (cd_isi isi_str) m_isinstance boot_b_isinstance (xa_cons (xv 1) (xa_cons (xbltn m_str boot_t_str) xa_nil))))))) (xs_one (xs_ret (x_and (xcallB call_isi (cd_isi isi_str) m_isinstance boot_b_isinstance (xa_cons (xv 0) (xa_cons (xbltn m_str boot_t_str) xa_nil))) (x_and (xcallB call_isi (cd_isi isi_str) m_isinstance boot_b_isinstance (xa_cons (xv 1) (xa_cons (xbltn m_str boot_t_str) xa_nil))) (x_one (xcmp (op_eqD hu64) opd_eq (nomark _) (xv 0) (xv 1))))))) xs_nil) (xs_one (xs_ret (x_and (xcallB call_isi (cd_isi isi_int) m_isinstance boot_b_isinstance (xa_cons (xv 0) (xa_cons (xbltn m_int boot_t_int) xa_nil))) (x_and (xcallB call_isi (cd_isi isi_int) m_isinstance boot_b_isinstance (xa_cons (xv 1) (xa_cons (xbltn m_int boot_t_int) xa_nil))) (x_one (xcmp (op_eqD hu64) opd_eq (nomark _) (xv 0) (xv 1)))))))))))
theorem w_law_part (m_abs : mg "abs" = none) (m_range : mg "range" = none) (m_int : mg "int" = none) (hr : Room 0 (A.deeper (envOfC "_law_part" (defScope KHead.s_law_part) s.heap.objs.size f cdv))) :
    XSs (cxOf CX0 P w K mg base N_law_part "_law_part" (defScope KHead.s_law_part) f cdv A outer s H E).nox (defBody KHead.s_law_part) (r_law_part) := by
  have hN : N_law_part.Nodup := by decide
  have hu64 := hr.units
  have hu1 : (A.deeper (envOfC "_law_part" (defScope KHead.s_law_part) s.heap.objs.size f cdv)).units + 1 < cLine := by omega
  exact (xs_cons (xs_par 2 3 rfl hN (xa_cons (xcallB (call_abs) cd_abs m_abs boot_b_abs (xa_cons (xv 0) xa_nil)) (xa_cons (xcallB (call_abs) cd_abs m_abs boot_b_abs (xa_cons (xv 1) xa_nil)) xa_nil))) (xs_cons (xs_for PassesOwn.never rfl (xi_rng1 m_range (xop op_addAll opd_add (xop op_mulAll opd_mul xint (xop op_addAll opd_add (xbits (xv 2)) (xbits (xv 3)))) xint)) (xh_name 4 hN) (xs_cons (xs_if (xt_cmp (op_eqD hu64) opd_eq (nomark _) (xv 3) xint) (xs_one xs_break) xs_nil) (xs_one (xs_par 2 3 rfl hN (xa_cons (xv 3) (xa_cons (xop op_modN opd_mod (xcallT (call_int1) cd_int m_int boot_t_int (xa_cons (xv 2) xa_nil)) (xv 3)) xa_nil)))))) (xs_one (xs_ret (xif (xt_cmp op_gt opd_cmp (nomark _) (xv 1) xint) (xtup (xa_cons (xop op_divP opd_div (xv 0) (xv 2)) (xa_cons (xop op_divP opd_div (xv 1) (xv 2)) xa_nil))) (xtup (xa_cons (xop op_sub' opd_sub xint (xop op_divP opd_div (xv 0) (xv 2))) (xa_cons (xop op_sub' opd_sub xint (xop op_divP opd_div (xv 1) (xv 2))) xa_nil))))))))
theorem w_law_plus (d_law_part : CalD P w K mg base 1 "_law_part" 2 (S_law_part)) (hr : Room 1 (A.deeper (envOfC "_law_plus" (defScope KHead.s_law_plus) s.heap.objs.size f cdv))) :
    XSs (cxOf CX0 P w K mg base N_law_plus "_law_plus" (defScope KHead.s_law_plus) f cdv A outer s H E).nox (defBody KHead.s_law_plus) (r_law_plus) := by
  have hN : N_law_plus.Nodup := by decide
  have hu64 := hr.units
  have hu1 : (A.deeper (envOfC "_law_plus" (defScope KHead.s_law_plus) s.heap.objs.size f cdv)).units + 1 < cLine := by omega
  exact (xs_cons (xs_if (xw_t (xw_and (xt_cmp (op_eqD hu64) opd_eq (nomark _) (xix (xv 0) xint) xint) (xw_and1 (xt_cmp (op_eqD hu64) opd_eq (nomark _) (xix (xv 1) xint) xint)))) (xs_one (xs_ret (xtup (xa_cons (xop op_addAll opd_add (xix (xv 0) xint) (xix (xv 1) xint)) (xa_cons xint xa_nil))))) xs_nil) (xs_one (xs_ret (xcall d_law_part hr (by decide) (xa_cons (xop op_addAll opd_add (xop op_mulAll opd_mul (xix (xv 0) xint) (xix (xv 1) xint)) (xop op_mulAll opd_mul (xix (xv 1) xint) (xix (xv 0) xint))) (xa_cons (xop op_mulAll opd_mul (xix (xv 0) xint) (xix (xv 1) xint)) xa_nil))))))
theorem w_law_by (d_law_part : CalD P w K mg base 1 "_law_part" 2 (S_law_part)) (hr : Room 1 (A.deeper (envOfC "_law_by" (defScope KHead.s_law_by) s.heap.objs.size f cdv))) :
    XSs (cxOf CX0 P w K mg base N_law_by "_law_by" (defScope KHead.s_law_by) f cdv A outer s H E).nox (defBody KHead.s_law_by) (r_law_by) := by
  have hN : N_law_by.Nodup := by decide
  have hu64 := hr.units
  have hu1 : (A.deeper (envOfC "_law_by" (defScope KHead.s_law_by) s.heap.objs.size f cdv)).units + 1 < cLine := by omega
  exact (xs_cons (xs_if (xw_t (xw_and (xt_cmp (op_eqD hu64) opd_eq (nomark _) (xix (xv 0) xint) xint) (xw_and1 (xt_cmp (op_eqD hu64) opd_eq (nomark _) (xix (xv 1) xint) xint)))) (xs_one (xs_ret (xtup (xa_cons (xop op_mulAll opd_mul (xix (xv 0) xint) (xix (xv 1) xint)) (xa_cons xint xa_nil))))) xs_nil) (xs_one (xs_ret (xcall d_law_part hr (by decide) (xa_cons (xop op_mulAll opd_mul (xix (xv 0) xint) (xix (xv 1) xint)) (xa_cons (xop op_mulAll opd_mul (xix (xv 0) xint) (xix (xv 1) xint)) xa_nil))))))
theorem w_law_head (m_enumerate : mg "enumerate" = none) (hr : Room 0 (A.deeper (envOfC "_law_head" (defScope KHead.s_law_head) s.heap.objs.size f cdv))) :
    XSs (cxOf CX0 P w K mg base N_law_head "_law_head" (defScope KHead.s_law_head) f cdv A outer s H E).nox (defBody KHead.s_law_head) (r_law_head) := by
  have hN : N_law_head.Nodup := by decide
  have hu64 := hr.units
  have hu1 : (A.deeper (envOfC "_law_head" (defScope KHead.s_law_head) s.heap.objs.size f cdv)).units + 1 < cLine := by omega
  exact (xs_one (xs_ret (xix (xlc (fz := true) rfl hN (xi_enum m_enumerate (xv 0)) (own := [("at", 1), ("weight", 2)]) (blkOk_by (by rfl)) (by decide) (fun s H C cl fp => (xh_tup rfl (xhs_cons (xh_name 1 hN) (xhs_cons (xh_name 2 hN) xhs_nil)))) (fun s H C cl fp => (xts_one (xt_cmp (op_neD hu64) opd_ne (nomark _) (xix (xv 2) xint) xint))) (fun s H C cl fp => (xv 1))) xint)))
theorem w_law_less_row (m_zip : mg "zip" = none) (d_law_plus : CalD P w K mg base 2 "_law_plus" 2 (S_law_plus)) (d_law_by : CalD P w K mg base 2 "_law_by" 2 (S_law_by)) (hr : Room 2 (A.deeper (envOfC "_law_less_row" (defScope KHead.s_law_less_row) s.heap.objs.size f cdv))) :
    XSs (cxOf CX0 P w K mg base N_law_less_row "_law_less_row" (defScope KHead.s_law_less_row) f cdv A outer s H E).nox (defBody KHead.s_law_less_row) (r_law_less_row) := by
  have hN : N_law_less_row.Nodup := by decide
  have hu64 := hr.units
  have hu1 : (A.deeper (envOfC "_law_less_row" (defScope KHead.s_law_less_row) s.heap.objs.size f cdv)).units + 1 < cLine := by omega
  exact (xs_one (xs_ret (xlc (fz := true) rfl hN (xi_zip m_zip (xv 0) (xv 1)) (own := [("one", 3), ("two", 4)]) (blkOk_by (by rfl)) (by decide) (fun s H C cl fp => (xh_tup rfl (xhs_cons (xh_name 3 hN) (xhs_cons (xh_name 4 hN) xhs_nil)))) (fun s H C cl fp => xts_nil) (fun s H C cl fp => (xcall d_law_plus hr (by decide) (xa_cons (xv 3) (xa_cons (xcall d_law_by hr (by decide) (xa_cons (xtup (xa_cons (xop op_sub' opd_sub xint (xix (xv 2) xint)) (xa_cons (xix (xv 2) xint) xa_nil))) (xa_cons (xv 4) xa_nil))) xa_nil)))))))
theorem w_law_table (m_list : mg "list" = none) (m_sorted : mg "sorted" = none) (d_law_less_row : CalD P w K mg base 3 "_law_less_row" 3 (S_law_less_row)) (d_law_head : CalD P w K mg base 1 "_law_head" 1 (S_law_head)) (d_law_part : CalD P w K mg base 1 "_law_part" 2 (S_law_part)) (m_tuple : mg "tuple" = none) (hr : Room 3 (A.deeper (envOfC "_law_table" (defScope KHead.s_law_table) s.heap.objs.size f cdv))) :
    XSs (cxOf CX0 P w K mg base N_law_table "_law_table" (defScope KHead.s_law_table) f cdv A outer s H E).nox (defBody KHead.s_law_table) (r_law_table) := by
  have hN : N_law_table.Nodup := by decide
  have hu64 := hr.units
  have hu1 : (A.deeper (envOfC "_law_table" (defScope KHead.s_law_table) s.heap.objs.size f cdv)).units + 1 < cLine := by omega
  exact (xs_cons (xs_set 1 hN xdictT) (xs_cons (xs_for PassesOwn.never rfl (xi_sq (xv 0)) (xh_name 2 hN) (xs_cons (xs_set 3 hN (xcallT (call_list_of) cd_lstF m_list boot_t_list (xa_cons (xv 2) xa_nil))) (xs_cons (xs_for PassesOwn.never rfl (xi_sq (xcallB (call_sortedDI rfl) cd_sortD m_sorted boot_b_sorted (xa_cons (xv 1) xa_nil))) (xh_name 4 hN) (xs_one (xs_if (xt_cmp (op_neD hu64) opd_ne (nomark _) (xix (xix (xv 3) (xv 4)) xint) xint) (xs_one (xs_set 3 hN (xcall d_law_less_row hr (by decide) (xa_cons (xv 3) (xa_cons (xdget hu1 (xv 1) (xv 4)) (xa_cons (xix (xv 3) (xv 4)) xa_nil)))))) xs_nil))) (xs_one (xs_if (xt_cmp (op_neD hu64) opd_ne (nomark _) (xlc (fz := true) rfl hN (xi_sq (xv 3)) (own := [("weight", 6)]) (blkOk_by (by rfl)) (by decide) (fun s H C cl fp => (xh_name 6 hN)) (fun s H C cl fp => (xts_one (xt_cmp (op_neD hu64) opd_ne (nomark _) (xix (xv 6) xint) xint))) (fun s H C cl fp => xint)) (xlst xa_nil)) (xs_cons (xs_set 5 hN (xcall d_law_head hr (by decide) (xa_cons (xv 3) xa_nil))) (xs_cons (xs_set 3 hN (xlc (fz := true) rfl hN (xi_sq (xv 3)) (own := [("weight", 6)]) (blkOk_by (by rfl)) (by decide) (fun s H C cl fp => (xh_name 6 hN)) (fun s H C cl fp => xts_nil) (fun s H C cl fp => (xcall d_law_part hr (by decide) (xa_cons (xop op_mulAll opd_mul (xix (xv 6) xint) (xix (xix (xv 3) (xv 5)) xint)) (xa_cons (xop op_mulAll opd_mul (xix (xv 6) xint) (xix (xix (xv 3) (xv 5)) xint)) xa_nil)))))) (xs_cons (xs_for PassesOwn.never rfl (xi_sq (xcallB (call_sortedDI rfl) cd_sortD m_sorted boot_b_sorted (xa_cons (xv 1) xa_nil))) (xh_name 4 hN) (xs_one (xs_if (xt_cmp (op_neD hu64) opd_ne (nomark _) (xix (xix (xdget hu1 (xv 1) (xv 4)) (xv 5)) xint) xint) (xs_one (xs_asg (xcall d_law_less_row hr (by decide) (xa_cons (xdget hu1 (xv 1) (xv 4)) (xa_cons (xv 3) (xa_cons (xix (xdget hu1 (xv 1) (xv 4)) (xv 5)) xa_nil)))) (xh_subD hu1 (xv 1) (xv 4)))) xs_nil))) (xs_one (xs_asg (xv 3) (xh_subD hu1 (xv 1) (xv 5))))))) xs_nil))))) (xs_one (xs_ret (xcallT (call_tuple_of) cd_tup m_tuple boot_t_tuple (xa_cons (xlc (fz := true) rfl hN (xi_sq (xcallB (call_sortedDI rfl) cd_sortD m_sorted boot_b_sorted (xa_cons (xv 1) xa_nil))) (own := [("at", 4)]) (blkOk_by (by rfl)) (by decide) (fun s H C cl fp => (xh_name 4 hN)) (fun s H C cl fp => xts_nil) (fun s H C cl fp => (xcallT (call_tuple_of) cd_tup m_tuple boot_t_tuple (xa_cons (xdget hu1 (xv 1) (xv 4)) xa_nil)))) xa_nil))))))
theorem w_law_any_row (d_law_ball : CalD P w K mg base 1 "_law_ball" 2 (S_law_ball)) (m_tuple : mg "tuple" = none) (m_range : mg "range" = none) (d_law_one_of : CalD P w K mg base 2 "_law_one_of" 2 (S_law_one_of)) (d_law_part : CalD P w K mg base 1 "_law_part" 2 (S_law_part)) (hr : Room 2 (A.deeper (envOfC "_law_any_row" (defScope KHead.s_law_any_row) s.heap.objs.size f cdv))) :
    XSs (cxOf CX0 P w K mg base N_law_any_row "_law_any_row" (defScope KHead.s_law_any_row) f cdv A outer s H E).nox (defBody KHead.s_law_any_row) (r_law_any_row) := by
  have hN : N_law_any_row.Nodup := by decide
  have hu64 := hr.units
  have hu1 : (A.deeper (envOfC "_law_any_row" (defScope KHead.s_law_any_row) s.heap.objs.size f cdv)).units + 1 < cLine := by omega
  exact (xs_cons (xs_set 2 hN (xcall d_law_ball hr (by decide) (xa_cons (xv 0) (xa_cons xint xa_nil)))) (xs_cons (xs_if (xt_cmp (op_eqD hu64) opd_eq (nomark _) (xv 2) xint) (xs_one (xs_ret (xcallT (call_tuple_of) cd_tup m_tuple boot_t_tuple (xa_cons (xlc (fz := true) rfl hN (xi_rng1 m_range (xv 1)) (own := [("k", 3)]) (blkOk_by (by rfl)) (by decide) (fun s H C cl fp => (xh_name 3 hN)) (fun s H C cl fp => xts_nil) (fun s H C cl fp => (xtup (xa_cons xint (xa_cons xint xa_nil))))) xa_nil)))) xs_nil) (xs_one (xs_ret (xcallT (call_tuple_of) cd_tup m_tuple boot_t_tuple (xa_cons (xlc (fz := true) rfl hN (xi_rng1 m_range (xv 1)) (own := [("k", 3)]) (blkOk_by (by rfl)) (by decide) (fun s H C cl fp => (xh_name 3 hN)) (fun s H C cl fp => xts_nil) (fun s H C cl fp => (xif (xt_cmp op_lt opd_cmp (nomark _) (xv 2) xint) (xtup (xa_cons (xcall d_law_one_of hr (by decide) (xa_cons (xv 0) (xa_cons (xtup (xa_cons xint (xa_cons xint (xa_cons xint (xa_cons (xneg xint) (xa_cons xint xa_nil)))))) xa_nil))) (xa_cons xint xa_nil))) (xcall d_law_part hr (by decide) (xa_cons (xop op_sub' opd_sub (xcall d_law_ball hr (by decide) (xa_cons (xv 0) (xa_cons xint xa_nil))) xint) (xa_cons (xop op_addAll opd_add xint (xcall d_law_ball hr (by decide) (xa_cons (xv 0) (xa_cons xint xa_nil)))) xa_nil)))))) xa_nil))))))
theorem w_law_mixed_rows (m_list : mg "list" = none) (m_range : mg "range" = none) (m_len : mg "len" = none) (d_law_ball : CalD P w K mg base 1 "_law_ball" 2 (S_law_ball)) (d_law_part : CalD P w K mg base 1 "_law_part" 2 (S_law_part)) (d_law_one_of : CalD P w K mg base 2 "_law_one_of" 2 (S_law_one_of)) (m_tuple : mg "tuple" = none) (d_law_by : CalD P w K mg base 2 "_law_by" 2 (S_law_by)) (m_zip : mg "zip" = none) (d_law_plus : CalD P w K mg base 2 "_law_plus" 2 (S_law_plus)) (hr : Room 2 (A.deeper (envOfC "_law_mixed_rows" (defScope KHead.s_law_mixed_rows) s.heap.objs.size f cdv))) :
    XSs (cxOf CX0 P w K mg base N_law_mixed_rows "_law_mixed_rows" (defScope KHead.s_law_mixed_rows) f cdv A outer s H E).nox (defBody KHead.s_law_mixed_rows) (r_law_mixed_rows) := by
  have hN : N_law_mixed_rows.Nodup := by decide
  have hu64 := hr.units
  have hu1 : (A.deeper (envOfC "_law_mixed_rows" (defScope KHead.s_law_mixed_rows) s.heap.objs.size f cdv)).units + 1 < cLine := by omega
  exact (xs_cons (xs_par 3 4 rfl hN (xa_cons (xcallT (call_list_of) cd_lstT m_list boot_t_list (xa_cons (xv 1) xa_nil)) (xa_cons (xlstT xa_nil) xa_nil))) (xs_cons (xs_for PassesOwn.never rfl (xi_rng1 m_range (xcallB (call_len) cd_len m_len boot_b_len (xa_cons (xv 1) xa_nil))) (xh_name 5 hN) (xs_cons (xs_asg (xtup (xa_cons (xpopAt (xv 3) (xa_cons (xcall d_law_ball hr (by decide) (xa_cons (xv 0) (xa_cons (xcallB (call_len) cd_len m_len boot_b_len (xa_cons (xv 3) xa_nil)) xa_nil))) xa_nil)) (xa_cons (xcall d_law_part hr (by decide) (xa_cons (xcall d_law_one_of hr (by decide) (xa_cons (xv 0) (xa_cons (xtup (xa_cons xint (xa_cons (xneg xint) (xa_cons xint (xa_cons (xneg xint) (xa_cons xint xa_nil)))))) xa_nil))) (xa_cons (xcall d_law_one_of hr (by decide) (xa_cons (xv 0) (xa_cons (xtup (xa_cons xint (xa_cons xint (xa_cons xint (xa_cons xint xa_nil))))) xa_nil))) xa_nil))) xa_nil))) (xh_tup rfl (xhs_cons (xh_name 6 hN) (xhs_cons (xh_name 7 hN) xhs_nil)))) (xs_one (xs_expr (xapp (xv 4) (xa_cons (xcallT (call_tuple_of) cd_tup m_tuple boot_t_tuple (xa_cons (xlc (fz := true) rfl hN (xi_sq (xv 6)) (own := [("each", 10)]) (blkOk_by (by rfl)) (by decide) (fun s H C cl fp => (xh_name 10 hN)) (fun s H C cl fp => xts_nil) (fun s H C cl fp => (xcall d_law_by hr (by decide) (xa_cons (xv 10) (xa_cons (xv 7) xa_nil))))) xa_nil)) xa_nil)))))) (xs_cons (xs_for PassesOwn.never rfl (xi_rng1 m_range (xif (xt_cmp (op_neD hu64) opd_ne (nomark _) (xv 1) (xtup xa_nil)) (xcall d_law_ball hr (by decide) (xa_cons (xv 0) (xa_cons xint xa_nil))) xint)) (xh_name 5 hN) (xs_cons (xs_asg (xtup (xa_cons (xcall d_law_one_of hr (by decide) (xa_cons (xv 0) (xa_cons (xv 1) xa_nil))) (xa_cons (xcall d_law_one_of hr (by decide) (xa_cons (xv 0) (xa_cons (xv 1) xa_nil))) (xa_cons (xtup (xa_cons (xop op_sub' opd_sub (xcall d_law_ball hr (by decide) (xa_cons (xv 0) (xa_cons xint xa_nil))) xint) (xa_cons xint xa_nil))) xa_nil)))) (xh_tup rfl (xhs_cons (xh_name 8 hN) (xhs_cons (xh_name 9 hN) (xhs_cons (xh_name 7 hN) xhs_nil))))) (xs_one (xs_expr (xapp (xv 4) (xa_cons (xcallT (call_tuple_of) cd_tup m_tuple boot_t_tuple (xa_cons (xlc (fz := true) rfl hN (xi_zip m_zip (xv 8) (xv 9)) (own := [("a", 11), ("b", 12)]) (blkOk_by (by rfl)) (by decide) (fun s H C cl fp => (xh_tup rfl (xhs_cons (xh_name 11 hN) (xhs_cons (xh_name 12 hN) xhs_nil)))) (fun s H C cl fp => xts_nil) (fun s H C cl fp => (xcall d_law_plus hr (by decide) (xa_cons (xv 11) (xa_cons (xcall d_law_by hr (by decide) (xa_cons (xv 7) (xa_cons (xv 12) xa_nil))) xa_nil))))) xa_nil)) xa_nil)))))) (xs_one (xs_ret (xop op_addAll opd_add (xcallT (call_tuple_of) cd_tup m_tuple boot_t_tuple (xa_cons (xv 4) xa_nil)) (xif (xt_cmp (op_eqD hu64) opd_eq (nomark _) (xcall d_law_ball hr (by decide) (xa_cons (xv 0) (xa_cons xint xa_nil))) xint) (xtup (xa_cons (xop op_mulAll opd_mul (xtup (xa_cons (xtup (xa_cons xint (xa_cons xint xa_nil))) xa_nil)) (xv 2)) xa_nil)) (xtup xa_nil))))))))
theorem w_law_odd_tables (m_list : mg "list" = none) (m_tuple : mg "tuple" = none) (m_len : mg "len" = none) (d_law_by : CalD P w K mg base 2 "_law_by" 2 (S_law_by)) (m_zip : mg "zip" = none) (d_law_plus : CalD P w K mg base 2 "_law_plus" 2 (S_law_plus)) (hr : Room 2 (A.deeper (envOfC "_law_odd_tables" (defScope KHead.s_law_odd_tables) s.heap.objs.size f cdv))) :
    XSs (cxOf CX0 P w K mg base N_law_odd_tables "_law_odd_tables" (defScope KHead.s_law_odd_tables) f cdv A outer s H E).nox (defBody KHead.s_law_odd_tables) (r_law_odd_tables) := by
  have hN : N_law_odd_tables.Nodup := by decide
  have hu64 := hr.units
  have hu1 : (A.deeper (envOfC "_law_odd_tables" (defScope KHead.s_law_odd_tables) s.heap.objs.size f cdv)).units + 1 < cLine := by omega
  exact (xs_cons (xs_asg (xtup (xa_cons (xtup (xa_cons xint (xa_cons xint xa_nil))) (xa_cons (xtup (xa_cons xint (xa_cons xint xa_nil))) xa_nil))) (xh_tup rfl (xhs_cons (xh_name 3 hN) (xhs_cons (xh_name 4 hN) xhs_nil)))) (xs_cons (xs_set 5 hN (xlst (xa_cons (xop op_addAll opd_add (xv 1) (xtup (xa_cons (xop op_mulAll opd_mul (xtup (xa_cons (xv 3) xa_nil)) (xv 2)) xa_nil))) (xa_cons (xcallT (call_list_of) cd_lstF m_list boot_t_list (xa_cons (xv 1) xa_nil)) (xa_cons xnon (xa_cons xint (xa_cons (xtup (xa_cons (xtup xa_nil) xa_nil)) (xa_cons (xtup (xa_cons (xop op_mulAll opd_mul (xtup (xa_cons xint xa_nil)) (xv 2)) xa_nil)) xa_nil)))))))) (xs_cons (xs_if (xt_cmp (op_neD hu64) opd_ne (nomark _) (xv 1) (xtup xa_nil)) (xs_cons (xs_set 6 hN (xix (xv 1) (xneg xint))) (xs_one (xs_set 5 hN (xop op_addAll opd_add (xv 5) (xlst (xa_cons (xop op_addAll opd_add (xv 1) (xtup (xa_cons (xop op_mulAll opd_mul (xtup (xa_cons (xv 4) xa_nil)) (xop op_addAll opd_add (xv 2) xint)) xa_nil))) (xa_cons (xop op_addAll opd_add (xv 1) (xslc (xv 1) (xo_some (xneg xint)) xo_none)) (xa_cons (xop op_addAll opd_add (xslc (xv 1) xo_none (xo_some (xneg xint))) (xtup (xa_cons (xcallT (call_tuple_of) cd_tup m_tuple boot_t_tuple (xa_cons (xlc (fz := true) rfl hN (xi_sq (xv 6)) (own := [("each", 8)]) (blkOk_by (by rfl)) (by decide) (fun s H C cl fp => (xh_name 8 hN)) (fun s H C cl fp => xts_nil) (fun s H C cl fp => (xcall d_law_by hr (by decide) (xa_cons (xv 8) (xa_cons (xtup (xa_cons xint (xa_cons xint xa_nil))) xa_nil))))) xa_nil)) xa_nil))) (xa_cons (xop op_addAll opd_add (xslc (xv 1) xo_none (xo_some (xneg xint))) (xtup (xa_cons (xcallT (call_list_of) cd_lstF m_list boot_t_list (xa_cons (xv 6) xa_nil)) xa_nil))) (xa_cons (xif (xt_cmp op_gt opd_cmp (nomark _) (xcallB (call_len) cd_len m_len boot_b_len (xa_cons (xv 1) xa_nil)) xint) (xop op_addAll opd_add (xslc (xv 1) xo_none (xo_some (xneg xint))) (xtup (xa_cons (xslc (xv 6) xo_none (xo_some (xneg xint))) xa_nil))) (xlst (xa_cons (xv 6) xa_nil))) (xa_cons (xop op_addAll opd_add (xslc (xv 1) xo_none (xo_some (xneg xint))) (xtup (xa_cons (xcallT (call_tuple_of) cd_tup m_tuple boot_t_tuple (xa_cons (xlc (fz := true) rfl hN (xi_sq (xv 6)) (own := [("each", 8)]) (blkOk_by (by rfl)) (by decide) (fun s H C cl fp => (xh_name 8 hN)) (fun s H C cl fp => xts_nil) (fun s H C cl fp => (xtup (xa_cons (xop op_mulAll opd_mul (xix (xv 8) xint) xint) (xa_cons (xop op_mulAll opd_mul (xix (xv 8) xint) xint) xa_nil))))) xa_nil)) xa_nil))) xa_nil))))))))))) xs_nil) (xs_cons (xs_if (xt_cmp op_gt opd_cmp (nomark _) (xcallB (call_len) cd_len m_len boot_b_len (xa_cons (xv 1) xa_nil)) xint) (xs_cons (xs_set 7 hN (xcallT (call_tuple_of) cd_tup m_tuple boot_t_tuple (xa_cons (xlc (fz := true) rfl hN (xi_zip m_zip (xix (xv 1) xint) (xix (xv 1) (xneg xint))) (own := [("a", 9), ("b", 10)]) (blkOk_by (by rfl)) (by decide) (fun s H C cl fp => (xh_tup rfl (xhs_cons (xh_name 9 hN) (xhs_cons (xh_name 10 hN) xhs_nil)))) (fun s H C cl fp => xts_nil) (fun s H C cl fp => (xcall d_law_plus hr (by decide) (xa_cons (xv 9) (xa_cons (xv 10) xa_nil))))) xa_nil))) (xs_one (xs_set 5 hN (xop op_addAll opd_add (xv 5) (xlst (xa_cons (xrevT (xv 1)) (xa_cons (xop op_addAll opd_add (xtup (xa_cons (xv 7) xa_nil)) (xslc (xv 1) (xo_some xint) xo_none)) xa_nil))))))) xs_nil) (xs_one (xs_ret (xv 5)))))))
theorem w_law_right (m_range : mg "range" = none) (d_law_ball : CalD P w K mg base 1 "_law_ball" 2 (S_law_ball)) (m_tuple : mg "tuple" = none) (d_law_any_row : CalD P w K mg base 3 "_law_any_row" 2 (S_law_any_row)) (d_law_table : CalD P w K mg base 4 "_law_table" 1 (S_law_table)) (d_law_equals : CalD P w K mg base 6 "_law_equals" 2 (S_law_equals 5)) (d_table : CalD P w K mg base 8 "table" 1 (S_table)) (d_law_mixed_rows : CalD P w K mg base 3 "_law_mixed_rows" 3 (S_law_mixed_rows)) (k_table : CalK P w K mg base 8 "table" ["rows"] 1 (S_table)) (d_is_table : CalD P w K mg base 6 "is_table" 1 (S_is_table)) (k_is_table : CalK P w K mg base 6 "is_table" ["value"] 1 (S_is_table)) (d_law_odd_tables : CalD P w K mg base 3 "_law_odd_tables" 3 (S_law_odd_tables)) (hr : Room 8 (A.deeper (envOfC "_law_right" (defScope KHead.s_law_right) s.heap.objs.size f cdv))) :
    XSs (cxOf CX0 P w K mg base N_law_right "_law_right" (defScope KHead.s_law_right) f cdv A outer s H E).nox (defBody KHead.s_law_right) (r_law_right) := by
  have hN : N_law_right.Nodup := by decide
  have hu64 := hr.units
  have hu1 : (A.deeper (envOfC "_law_right" (defScope KHead.s_law_right) s.heap.objs.size f cdv)).units + 1 < cLine := by omega
  exact (xs_cons (xs_for PassesOwn.never rfl (xi_rng1 m_range xint) (xh_name 1 hN) (xs_cons (xs_set 2 hN (xop op_addAll opd_add xint (xcall d_law_ball hr (by decide) (xa_cons (xv 0) (xa_cons xint xa_nil))))) (xs_cons (xs_set 3 hN (xcallT (call_tuple_of) cd_tup m_tuple boot_t_tuple (xa_cons (xlc (fz := true) rfl hN (xi_rng1 m_range (xcall d_law_ball hr (by decide) (xa_cons (xv 0) (xa_cons xint xa_nil)))) (own := [("k", 5)]) (blkOk_by (by rfl)) (by decide) (fun s H C cl fp => (xh_name 5 hN)) (fun s H C cl fp => xts_nil) (fun s H C cl fp => (xcall d_law_any_row hr (by decide) (xa_cons (xv 0) (xa_cons (xv 2) xa_nil))))) xa_nil))) (xs_cons (xs_set 4 hN (xcall d_law_table hr (by decide) (xa_cons (xv 3) xa_nil))) (xs_cons (xs_if (xt_not (xt_val (xcall d_law_equals hr (by decide) (xa_cons (xtup (xa_cons (xif (xt_cmp (op_eqD hu64) opd_eq (nomark _) (xcall d_law_ball hr (by decide) (xa_cons (xv 0) (xa_cons xint xa_nil))) xint) (xcall d_table hr (by decide) (xa_cons (xv 3) xa_nil)) (xcallK k_table hr (by decide) (xk_cons (xv 3) xk_nil))) (xa_cons (xcall d_table hr (by decide) (xa_cons (xcall d_law_mixed_rows hr (by decide) (xa_cons (xv 0) (xa_cons (xv 3) (xa_cons (xv 2) xa_nil)))) xa_nil)) (xa_cons (xcall d_table hr (by decide) (xa_cons (xv 4) xa_nil)) xa_nil)))) (xa_cons (xtup (xa_cons (xv 4) (xa_cons (xv 4) (xa_cons (xv 4) xa_nil)))) xa_nil))))) (xs_one (xs_ret xbl)) xs_nil) (xs_cons (xs_if (xw_t (xw_or (xt_cmp op_isNotB opd_isnot (nomark _) (xcall d_is_table hr (by decide) (xa_cons (xv 4) xa_nil)) xbl) (xw_or (xt_cmp op_isNotB opd_isnot (nomark _) (xcallK k_is_table hr (by decide) (xk_cons (xv 4) xk_nil)) xbl) (xw_or1 (xt_cmp (op_neD hu64) opd_ne (nomark _) (xlc (fz := true) rfl hN (xi_sq (xcall d_law_odd_tables hr (by decide) (xa_cons (xv 0) (xa_cons (xv 4) (xa_cons (xv 2) xa_nil))))) (own := [("odd", 6)]) (blkOk_by (by rfl)) (by decide) (fun s H C cl fp => (xh_name 6 hN)) (fun s H C cl fp => (xts_one (xt_cmp op_isNotB opd_isnot (nomark _) (xcall d_is_table hr (by decide) (xa_cons (xv 6) xa_nil)) xbl))) (fun s H C cl fp => xint)) (xlst xa_nil)))))) (xs_one (xs_ret xbl)) xs_nil) (xs_one (xs_if (xt_not (xt_val (xcall d_law_equals hr (by decide) (xa_cons (xcall d_is_table hr (by decide) (xa_cons (xv 3) xa_nil)) (xa_cons (xcmp (op_eqD hu64) opd_eq (nomark _) (xv 3) (xv 4)) xa_nil))))) (xs_one (xs_ret xbl)) xs_nil)))))))) (xs_one (xs_ret xbl)))
theorem w_law (m_range : mg "range" = none) (m_max : mg "max" = none) (m_min : mg "min" = none) (m_len : mg "len" = none) (d_law_right : CalD P w K mg base 9 "_law_right" 1 (S_law_right)) (d_law_urn : CalD P w K mg base 1 "_law_urn" 2 (S_law_urn)) (d_is_table : CalD P w K mg base 6 "is_table" 1 (S_is_table)) (d_table : CalD P w K mg base 8 "table" 1 (S_table)) (d_law_equals : CalD P w K mg base 6 "_law_equals" 2 (S_law_equals 5)) (hr : Room 9 (A.deeper (envOfC "law" (defScope KHead.s_law) s.heap.objs.size f cdv))) :
    XSs (cxOf CX0 P w K mg base N_law "law" (defScope KHead.s_law) f cdv A outer s H E).nox (defBody KHead.s_law) (r_law) := by
  have hN : N_law.Nodup := by decide
  have hu64 := hr.units
  have hu1 : (A.deeper (envOfC "law" (defScope KHead.s_law) s.heap.objs.size f cdv)).units + 1 < cLine := by omega
  exact (xs_cons (xs_for PassesOwn.never rfl (xi_rng1 m_range (xcallB (call_max2 rfl) cd_max2 m_max boot_b_max (xa_cons xint (xa_cons (xcallB (call_min2 rfl) cd_min2 m_min boot_b_min (xa_cons xint (xa_cons (xcallB (call_len) cd_len m_len boot_b_len (xa_cons (xv 0) xa_nil)) xa_nil))) xa_nil)))) (xh_name 1 hN) (xs_one (xs_if (xt_not (xt_val (xcall d_law_right hr (by decide) (xa_cons (xcall d_law_urn hr (by decide) (xa_cons (xv 0) (xa_cons (xv 1) xa_nil))) xa_nil)))) (xs_one (xs_ret xbl)) xs_nil))) (xs_cons (xs_asg (xtup (xa_cons (xtup (xa_cons xint (xa_cons xint xa_nil))) (xa_cons (xtup (xa_cons xint (xa_cons xint xa_nil))) xa_nil))) (xh_tup rfl (xhs_cons (xh_name 2 hN) (xhs_cons (xh_name 3 hN) xhs_nil)))) (xs_cons (xs_set 4 hN (xtup (xa_cons (xcall d_table hr (by decide) (xa_cons (xtup xa_nil) xa_nil)) (xa_cons (xcall d_table hr (by decide) (xa_cons (xtup (xa_cons (xtup (xa_cons (xv 2) (xa_cons (xv 2) xa_nil))) xa_nil)) xa_nil)) (xa_cons (xcall d_table hr (by decide) (xa_cons (xtup (xa_cons (xtup (xa_cons (xtup (xa_cons xint (xa_cons xint xa_nil))) (xa_cons (xtup (xa_cons xint (xa_cons xint xa_nil))) (xa_cons (xv 2) xa_nil)))) (xa_cons (xtup (xa_cons (xv 3) (xa_cons (xtup (xa_cons xint (xa_cons xint xa_nil))) (xa_cons (xtup (xa_cons xint (xa_cons xint xa_nil))) xa_nil)))) xa_nil))) xa_nil)) (xa_cons (xcall d_is_table hr (by decide) (xa_cons (xtup xa_nil) xa_nil)) (xa_cons (xcall d_is_table hr (by decide) (xa_cons (xtup (xa_cons (xtup (xa_cons (xv 3) (xa_cons (xv 2) xa_nil))) (xa_cons (xtup (xa_cons (xv 2) (xa_cons (xv 3) xa_nil))) xa_nil))) xa_nil)) (xa_cons (xcall d_is_table hr (by decide) (xa_cons (xtup (xa_cons (xtup (xa_cons (xv 2) (xa_cons (xv 3) xa_nil))) (xa_cons (xtup (xa_cons (xv 3) (xa_cons (xv 2) xa_nil))) xa_nil))) xa_nil)) (xa_cons (xcall d_is_table hr (by decide) (xa_cons (xtup (xa_cons (xtup (xa_cons (xv 3) (xa_cons (xv 3) xa_nil))) (xa_cons (xtup (xa_cons (xv 2) (xa_cons (xv 3) xa_nil))) xa_nil))) xa_nil)) (xa_cons (xcall d_is_table hr (by decide) (xa_cons (xtup (xa_cons (xtup (xa_cons (xtup (xa_cons xint (xa_cons xint xa_nil))) (xa_cons (xv 2) xa_nil))) xa_nil)) xa_nil)) xa_nil)))))))))) (xs_one (xs_ret (xcall d_law_equals hr (by decide) (xa_cons (xv 4) (xa_cons (xtup (xa_cons (xtup xa_nil) (xa_cons (xtup xa_nil) (xa_cons (xtup (xa_cons (xtup (xa_cons (xv 3) (xa_cons (xtup (xa_cons xint (xa_cons xint xa_nil))) (xa_cons (xv 2) xa_nil)))) (xa_cons (xtup (xa_cons (xv 2) (xa_cons (xv 2) (xa_cons (xv 3) xa_nil)))) xa_nil))) (xa_cons xbl (xa_cons xbl (xa_cons xbl (xa_cons xbl (xa_cons xbl xa_nil))))))))) xa_nil))))))))
end
end K43
set_option Elab.async false
set_option linter.all false
set_option maxRecDepth 100000
set_option maxHeartbeats 4000000
namespace K43
open PySem PySem.Spec PyProof.Rows L2 DL
abbrev Ends1 (Q : DE) : DEnds := { nx := fun _ G' => Q .non G', rt := Q }
theorem leaf_ty {d : D} (h : leafOk d = true) : (tyD d).isSome = true := by
  cases d <;> first | rfl | cases h
theorem okn_ty {n : Nat} {d : D} (h : okn n d = true) : (tyD d).isSome = true := by
  cases n with
  | zero => exact leaf_ty h
  | succ n => cases d <;> first | rfl | cases h
theorem okn_up : ∀ {n : Nat} {d : D}, okn n d = true → okn (n + 1) d = true
  | 0, d, h => by cases d <;> first | exact h | cases h
  | n + 1, d, h => by
    cases d <;> first | exact h | skip
    · rename_i ds
      have h' : (decide (ds.length ≤ 1000) && ds.all (okn n)) = true := h
      show (decide (ds.length ≤ 1000) && ds.all (okn (n + 1))) = true
      rw [Bool.and_eq_true] at h' ⊢
      exact ⟨h'.1, List.all_eq_true.mpr fun x hx => okn_up (List.all_eq_true.mp h'.2 x hx)⟩
    · rename_i ds
      have h' : (decide (ds.length ≤ 1000) && ds.all (okn n)) = true := h
      show (decide (ds.length ≤ 1000) && ds.all (okn (n + 1))) = true
      rw [Bool.and_eq_true] at h' ⊢
      exact ⟨h'.1, List.all_eq_true.mpr fun x hx => okn_up (List.all_eq_true.mp h'.2 x hx)⟩
theorem okn_le {n m : Nat} {d : D} (h : okn n d = true) (l : n ≤ m) : okn m d = true := by
  induction l with
  | refl => exact h
  | step _ ih => exact okn_up ih
theorem okn_dok : ∀ {n : Nat} {d : D}, okn n d = true → dok n d = true
  | 0, d, h => h
  | n + 1, d, h => by
    cases d <;> first | exact h | skip
    · rename_i ds
      have h' : (decide (ds.length ≤ 1000) && ds.all (okn n)) = true := h
      rw [Bool.and_eq_true] at h'
      exact List.all_eq_true.mpr fun x hx => okn_dok (List.all_eq_true.mp h'.2 x hx)
    · rename_i ds
      have h' : (decide (ds.length ≤ 1000) && ds.all (okn n)) = true := h
      rw [Bool.and_eq_true] at h'
      exact List.all_eq_true.mpr fun x hx => okn_dok (List.all_eq_true.mp h'.2 x hx)
    · cases h
theorem dok_up : ∀ {n : Nat} {d : D}, dok n d = true → dok (n + 1) d = true
  | 0, d, h => by cases d <;> first | exact h | cases h
  | n + 1, d, h => by
    cases d <;> first | exact h | exact List.all_eq_true.mpr fun x hx => dok_up (List.all_eq_true.mp h x hx)
theorem dok_le {n m : Nat} {d : D} (h : dok n d = true) (l : n ≤ m) : dok m d = true := by
  induction l with
  | refl => exact h
  | step _ ih => exact dok_up ih
theorem okn_60 {n : Nat} {d : D} (h : okn n d = true) (l : n ≤ 60) : dok 60 d = true := dok_le (okn_dok h) l
theorem okn_tup {n : Nat} {ds : List D} (h : okn (n + 1) (.tup ds) = true) : ds.length ≤ 1000 ∧ ∀ x ∈ ds, okn n x = true := by
  have h' : (decide (ds.length ≤ 1000) && ds.all (okn n)) = true := h
  rw [Bool.and_eq_true] at h'
  exact ⟨of_decide_eq_true h'.1, List.all_eq_true.mp h'.2⟩
theorem lt_size {n : Nat} (h : n ≤ 1000) : n ≤ sizeLine := by rw [sizeLine_eq]; omega
/-! equal ints -/
theorem deq_int (i j : Int) : deq (.int i) (.int j) = decide (i = j) := by
  unfold deq
  simp only [toP]
  rfl
theorem l_is_whole {ds G Q} (h : S_is_whole ds G Q) : r_is_whole (Ends1 Q) (startD N_is_whole ds) G := by
  obtain ⟨d, rfl, h1, h2⟩ := h
  rw [show startD N_is_whole [d] = [some d] from rfl]
  simp only [r_is_whole, dVar, dC, dOp, dB, dAnd, dOr, dNot, dAndV, dOrV, dNotV, dIf, dNil, dCons, dTup, dLst, dLstT, fAdd, fSub, fDiv, fMod, fPow, fMul, fCmp, fLt, fLe, fGt, fGe, fEq, fNe, fIs, fIsNot, isNonD, dNeg, dCB, on1, fLen, fTup, fLstF, fLstT, fAbs, fInt, onI2, fGcd, fMax2, fMin2, fIsi, frzOf, dSq, dRng1, dRng2, dEnum, dZip, dKeys, dVals, dItems, onK, onS, onD, onB, onKs, onY, onI, onN, dctOf, keyOf, gNm, DL.gNil, DL.gCons, gTp, gSubL, gSubD, dNx, dSeq, dBk, dCt, dDrop, dRet, dRetN, dIfS, dAsg, dPar, dPar3, dFor, dWhile, dLc, dLc2, dDc, dItemsT, dDGet, dDGet2, dApp, dPopAt, dPart, dNoPart, dSlc, fSlc, insOf, dFld, dFldS, dCall, dMeth, dMk, mkEnd, dRevT, dNever, dBits, dDictT, dDict1, fSortD, fListD, sl, wipeD, seqOf, IsLst, getFD, putFD, fIx, List.set, List.length_cons, List.length_nil, List.cons.injEq, and_true, true_and, Nat.reduceAdd, reduceCtorEq, if_true, if_false, Bool.false_eq_true, ne_eq, not_false_eq_true, ite_true, ite_false]
  have t := okn_ty h1
  refine ⟨t, ?_⟩
  unfold isWh at h2
  cases e : isIntD d
  · rw [e] at h2
    exact h2
  · rw [e] at h2
    simp only [List.set, List.length_cons, List.length_nil, List.cons.injEq, and_true, true_and, Nat.reduceAdd, reduceCtorEq, if_true, if_false, Bool.false_eq_true, ne_eq, not_false_eq_true, ite_true, ite_false]
    exact ⟨t, h2⟩
theorem all_bl (f : D → Bool) : ∀ ds : List D, ds.map (fun d => D.bl (f d)) = (ds.map f).map D.bl
  | [] => rfl
  | _ :: r => congrArg _ (all_bl f r)
theorem all_id (f : D → Bool) : ∀ ds : List D, (ds.map f).all id = ds.all f
  | [] => rfl
  | d :: r => by
    show (f d && (r.map f).all id) = (f d && r.all f)
    rw [all_id f r]
theorem any_id {α : Type} (f : α → Bool) : ∀ ds : List α, (ds.map f).any id = ds.any f
  | [] => rfl
  | d :: r => by
    show (f d || (r.map f).any id) = (f d || r.any f)
    rw [any_id f r]
/-- all([f(x) for x in ds]) -/
theorem all_lc {f : D → Bool} {ds : List D} {G : GH} {Q : DE} (hq : Q (.bl (ds.all f)) G) : fAll (.lst (ds.map fun d => D.bl (f d))) G Q :=
  ⟨ds.map f, by rw [all_bl]; rfl, fun _ => D.noConfusion, by rw [all_id]; exact hq⟩
theorem any_lc {f : D → Bool} {ds : List D} {G : GH} {Q : DE} (hq : Q (.bl (ds.any f)) G) : fAny (.lst (ds.map fun d => D.bl (f d))) G Q :=
  ⟨ds.map f, by rw [all_bl]; rfl, fun _ => D.noConfusion, by rw [any_id]; exact hq⟩
theorem dok_int (i : Int) : dok 60 (.int i) = true := rfl
theorem l_are_wholes {ds G Q} (h : S_are_wholes ds G Q) : r_are_wholes (Ends1 Q) (startD N_are_wholes ds) G := by
  obtain ⟨d, n, rfl, h1, h2⟩ := h
  rw [show startD N_are_wholes [d, .int n] = [some d, some (.int n), none] from rfl]
  simp only [r_are_wholes, dVar, dC, dOp, dB, dAnd, dOr, dNot, dAndV, dOrV, dNotV, dIf, dNil, dCons, dTup, dLst, dLstT, fAdd, fSub, fDiv, fMod, fPow, fMul, fCmp, fLt, fLe, fGt, fGe, fEq, fNe, fIs, fIsNot, isNonD, dNeg, dCB, on1, fLen, fTup, fLstF, fLstT, fAbs, fInt, onI2, fGcd, fMax2, fMin2, fIsi, frzOf, dSq, dRng1, dRng2, dEnum, dZip, dKeys, dVals, dItems, onK, onS, onD, onB, onKs, onY, onI, onN, dctOf, keyOf, gNm, DL.gNil, DL.gCons, gTp, gSubL, gSubD, dNx, dSeq, dBk, dCt, dDrop, dRet, dRetN, dIfS, dAsg, dPar, dPar3, dFor, dWhile, dLc, dLc2, dDc, dItemsT, dDGet, dDGet2, dApp, dPopAt, dPart, dNoPart, dSlc, fSlc, insOf, dFld, dFldS, dCall, dMeth, dMk, mkEnd, dRevT, dNever, dBits, dDictT, dDict1, fSortD, fListD, sl, wipeD, seqOf, IsLst, getFD, putFD, fIx, List.set, List.length_cons, List.length_nil, List.cons.injEq, and_true, true_and, Nat.reduceAdd, reduceCtorEq, if_true, if_false, Bool.false_eq_true, ne_eq, not_false_eq_true, ite_true, ite_false]
  refine ⟨okn_ty h1, ?_⟩
  cases d <;> first | exact h2 | skip
  rename_i es
  obtain ⟨hl, ho⟩ := okn_tup h1
  simp only [isTupD, if_true, dok_int, Bool.and_self, deq_int, true_and]
  have e : areWh (.tup es) n = (decide ((es.length : Int) = n) && es.all isWh) := rfl
  rw [e] at h2
  cases ed : decide ((es.length : Int) = n)
  · rw [ed] at h2
    exact h2
  · rw [ed] at h2
    intro p hp
    refine lc_map (fun d => .bl (isWh d)) (lt_size hl) hp (fun x hx G' C _ hc => ?_) (all_lc h2)
    exact ⟨rfl, x, rfl, ho x hx, hc⟩
theorem zip_lc : ∀ (ns : List Int), zipD (ns.map D.int) (ns.tail.map D.int) = (ns.zip ns.tail).map fun p => .tup [.int p.1, .int p.2] := by
  have gen : ∀ ns ms : List Int, zipD (ns.map D.int) (ms.map D.int) = (ns.zip ms).map fun p => .tup [.int p.1, .int p.2] := by
    intro ns
    induction ns with
    | nil => intro ms; rfl
    | cons n ns ih => intro ms; cases ms with
      | nil => rfl
      | cons m ms => exact congrArg _ (ih ms)
  exact fun ns => gen ns ns.tail
theorem cut1 (ds : List D) (h : ds.length ≤ 1000) : DL.cutD ds (some 1) none = ds.tail := by
  unfold DL.cutD
  cases ds with
  | nil => rfl
  | cons d r =>
    have e1 : HT.sIx (d :: r).length 0 (some 1) = 1 := by
      simp [HT.sIx]
    have e2 : HT.sIx (d :: r).length (d :: r).length none = (d :: r).length := by simp [HT.sIx]
    rw [e1, e2]
    simp
theorem all_map {α : Type} (f : D → Bool) (g : α → D) : ∀ l : List α, (l.map g).all f = l.all fun x => f (g x)
  | [] => rfl
  | x :: r => by
    show (f (g x) && (r.map g).all f) = (f (g x) && r.all fun x => f (g x))
    rw [all_map f g r]
def ltPair (d : D) : Bool := match d with
  | .tup [.int i, .int j] => decide (i < j)
  | _ => false
theorem l_is_rising {ds G Q} (h : S_is_rising ds G Q) : r_is_rising (Ends1 Q) (startD N_is_rising ds) G := by
  obtain ⟨ns, rfl, h1, h2⟩ := h
  rw [show startD N_is_rising [.lst (ns.map D.int)] = [some (.lst (ns.map D.int)), none, none] from rfl]
  simp only [r_is_rising, dVar, dC, dOp, dB, dAnd, dOr, dNot, dAndV, dOrV, dNotV, dIf, dNil, dCons, dTup, dLst, dLstT, fAdd, fSub, fDiv, fMod, fPow, fMul, fCmp, fLt, fLe, fGt, fGe, fEq, fNe, fIs, fIsNot, isNonD, dNeg, dCB, on1, fLen, fTup, fLstF, fLstT, fAbs, fInt, onI2, fGcd, fMax2, fMin2, fIsi, frzOf, dSq, dRng1, dRng2, dEnum, dZip, dKeys, dVals, dItems, onK, onS, onD, onB, onKs, onY, onI, onN, dctOf, keyOf, gNm, DL.gNil, DL.gCons, gTp, gSubL, gSubD, dNx, dSeq, dBk, dCt, dDrop, dRet, dRetN, dIfS, dAsg, dPar, dPar3, dFor, dWhile, dLc, dLc2, dDc, dItemsT, dDGet, dDGet2, dApp, dPopAt, dPart, dNoPart, dSlc, fSlc, insOf, dFld, dFldS, dCall, dMeth, dMk, mkEnd, dRevT, dNever, dBits, dDictT, dDict1, fSortD, fListD, sl, wipeD, seqOf, IsLst, getFD, putFD, fIx, List.set, List.length_cons, List.length_nil, List.cons.injEq, and_true, true_and, Nat.reduceAdd, reduceCtorEq, if_true, if_false, Bool.false_eq_true, ne_eq, not_false_eq_true, ite_true, ite_false]
  intro p hp
  have hc : DL.cutD (ns.map D.int) (some 1) none = ns.tail.map D.int := by rw [cut1 _ (by rw [List.length_map]; exact h1), List.map_tail]
  rw [hc, zip_lc]
  refine lc_map (fun d => .bl (ltPair d)) ?_ hp (fun x hx G' C _ hc => ?_) (all_lc ?_)
  · refine lt_size ?_
    rw [List.length_map, List.length_zip]
    omega
  · obtain ⟨q, _, rfl⟩ := List.mem_map.mp hx
    exact ⟨rfl, rfl, hc⟩
  · rw [all_map]
    exact h2
/-! fractions -/
theorem log2_lt {n k : Nat} (h : n < 2 ^ k) (h0 : n ≠ 0) : n.log2 < k := (Nat.log2_lt h0).mpr h
theorem no_pylong {x y : Int} (h : y.natAbs < 2 ^ 9000) : Builtin.divisionGoesByPylong x y = false := by
  unfold Builtin.divisionGoesByPylong
  by_cases e : y = 0
  · subst e; simp
  · have h0 : y.natAbs ≠ 0 := fun z => e (Int.natAbs_eq_zero.mp z)
    have l := log2_lt h h0
    have e2 : (y == 0) = false := beq_false_of_ne e
    have b : ¬ (300 < y.natAbs.log2 / 30 + 1) := by omega
    simp only [e2]
    have : decide ((if false = true then 0 else y.natAbs.log2 / 30 + 1) > 300) = false := decide_eq_false b
    simp only [Bool.false_eq_true, if_false] at this ⊢
    rw [this]
    rfl
theorem divInt_parts (a b : Int) (hb : b ≠ 0) : (Rat.divInt a b).num = a.fdiv (if 0 < b then ((Nat.gcd a.natAbs b.natAbs : Nat) : Int) else -((Nat.gcd a.natAbs b.natAbs : Nat) : Int)) ∧
    (((Rat.divInt a b).den : Nat) : Int) = b.fdiv (if 0 < b then ((Nat.gcd a.natAbs b.natAbs : Nat) : Int) else -((Nat.gcd a.natAbs b.natAbs : Nat) : Int)) := by
  have hg : 0 < Nat.gcd a.natAbs b.natAbs := Nat.gcd_pos_of_pos_right _ (Int.natAbs_pos.mpr hb)
  have d1 : ((Nat.gcd a.natAbs b.natAbs : Nat) : Int) ∣ a := Int.ofNat_dvd_left.mpr (Nat.gcd_dvd_left ..)
  have d2 : ((Nat.gcd a.natAbs b.natAbs : Nat) : Int) ∣ b := Int.ofNat_dvd_left.mpr (Nat.gcd_dvd_right ..)
  rcases b with b | b
  · have hpos : 0 < Int.ofNat b := by
      have : Int.ofNat b ≠ 0 := hb
      have h2 : (0 : Int) ≤ Int.ofNat b := Int.natCast_nonneg b
      omega
    rw [if_pos hpos]
    have hb' : b ≠ 0 := fun z => hb (by rw [z]; rfl)
    have e : Rat.divInt a (Int.ofNat b) = Rat.normalize a b hb' := by
      rw [show Rat.divInt a (Int.ofNat b) = mkRat a b from rfl]
      unfold mkRat
      rw [dif_neg hb']
    rw [e, Rat.normalize_eq]
    have n1 : (Int.ofNat b).natAbs = b := rfl
    rw [n1] at d1 d2 hg ⊢
    refine ⟨?_, ?_⟩
    · show a / _ = _
      rw [Int.fdiv_eq_ediv_of_dvd d1]
    · show ((b / (a.natAbs.gcd b) : Nat) : Int) = _
      rw [Int.fdiv_eq_ediv_of_dvd d2, Int.natCast_ediv]
      rfl
  · have hneg : ¬ 0 < Int.negSucc b := by
      have := Int.negSucc_lt_zero b
      omega
    rw [if_neg hneg]
    have e : Rat.divInt a (Int.negSucc b) = Rat.normalize (-a) (b + 1) (Nat.succ_ne_zero b) := rfl
    rw [e, Rat.normalize_eq]
    have n1 : (Int.negSucc b).natAbs = b + 1 := rfl
    rw [n1] at d1 d2 hg ⊢
    have g1 : (-a).natAbs.gcd (b + 1) = a.natAbs.gcd (b + 1) := by rw [Int.natAbs_neg]
    refine ⟨?_, ?_⟩
    · show -a / (((-a).natAbs.gcd (b + 1) : Nat) : Int) = _
      rw [g1, Int.fdiv_eq_ediv_of_dvd (Int.neg_dvd.mpr d1), Int.ediv_neg, Int.neg_ediv_of_dvd d1]
    · show (((b + 1) / ((-a).natAbs.gcd (b + 1)) : Nat) : Int) = _
      rw [g1, Int.fdiv_eq_ediv_of_dvd (Int.neg_dvd.mpr d2), Int.ediv_neg, Int.natCast_ediv]
      have e3 : Int.negSucc b = -((b + 1 : Nat) : Int) := rfl
      rw [e3, Int.neg_ediv_of_dvd (by rw [e3] at d2; exact Int.dvd_neg.mp d2), Int.neg_neg]
theorem l_fraction {ds G Q} (h : S_fraction ds G Q) : r_fraction (Ends1 Q) (startD N_fraction ds) G := by
  obtain ⟨a, b, rfl, h1, h2, h3⟩ := h
  rw [show startD N_fraction [.int a, .int b] = [some (.int a), some (.int b), none] from rfl]
  simp only [r_fraction, dVar, dC, dOp, dB, dAnd, dOr, dNot, dAndV, dOrV, dNotV, dIf, dNil, dCons, dTup, dLst, dLstT, fAdd, fSub, fDiv, fMod, fPow, fMul, fCmp, fLt, fLe, fGt, fGe, fEq, fNe, fIs, fIsNot, isNonD, dNeg, dCB, on1, fLen, fTup, fLstF, fLstT, fAbs, fInt, onI2, fGcd, fMax2, fMin2, fIsi, frzOf, dSq, dRng1, dRng2, dEnum, dZip, dKeys, dVals, dItems, onK, onS, onD, onB, onKs, onY, onI, onN, dctOf, keyOf, gNm, DL.gNil, DL.gCons, gTp, gSubL, gSubD, dNx, dSeq, dBk, dCt, dDrop, dRet, dRetN, dIfS, dAsg, dPar, dPar3, dFor, dWhile, dLc, dLc2, dDc, dItemsT, dDGet, dDGet2, dApp, dPopAt, dPart, dNoPart, dSlc, fSlc, insOf, dFld, dFldS, dCall, dMeth, dMk, mkEnd, dRevT, dNever, dBits, dDictT, dDict1, fSortD, fListD, sl, wipeD, seqOf, IsLst, getFD, putFD, fIx, List.set, List.length_cons, List.length_nil, List.cons.injEq, and_true, true_and, Nat.reduceAdd, reduceCtorEq, if_true, if_false, Bool.false_eq_true, ne_eq, not_false_eq_true, ite_true, ite_false]
  obtain ⟨p1, p2⟩ := divInt_parts a b h1
  unfold dQ at h3
  rw [p1, p2] at h3
  have hg : 0 < Nat.gcd a.natAbs b.natAbs := Nat.gcd_pos_of_pos_right _ (Int.natAbs_pos.mpr h1)
  have hl : Nat.gcd a.natAbs b.natAbs < 2 ^ 9000 := Nat.lt_of_le_of_lt (Nat.gcd_le_right _ (Int.natAbs_pos.mpr h1)) h2
  by_cases e' : 0 < b
  · rw [if_pos e'] at h3
    rw [if_pos (decide_eq_true e')]
    refine ⟨⟨by omega, no_pylong hl⟩, ⟨by omega, no_pylong hl⟩, lt_size (by omega), h3⟩
  · rw [if_neg e'] at h3
    rw [if_neg (by rw [decide_eq_false e']; exact Bool.false_ne_true)]
    refine ⟨⟨by omega, no_pylong (by rw [Int.natAbs_neg]; exact hl)⟩, ⟨by omega, no_pylong (by rw [Int.natAbs_neg]; exact hl)⟩, lt_size (by omega), h3⟩
/-! kinds of fractions, rows -/
theorem isWh_int {n : Nat} {d : D} (h : isWh d = true) : ∃ i, d = .int i := by
  cases d <;> first | exact ⟨_, rfl⟩ | cases h
theorem areWh_two {d : D} (h : areWh d 2 = true) : ∃ a b, d = .tup [.int a, .int b] := by
  cases d <;> first | cases h | skip
  rename_i es
  have e : (decide ((es.length : Int) = 2) && es.all isWh) = true := h
  rw [Bool.and_eq_true] at e
  obtain ⟨e1, e2⟩ := e
  have e1 := of_decide_eq_true e1
  match es, e1, e2 with
  | [x, y], _, e2 =>
    have e3 := List.all_eq_true.mp e2
    obtain ⟨a, rfl⟩ := isWh_int (n := 0) (e3 x (by simp))
    obtain ⟨b, rfl⟩ := isWh_int (n := 0) (e3 y (by simp))
    exact ⟨a, b, rfl⟩
  | [], e1, _ => simp at e1
  | [_], e1, _ => simp at e1
  | _ :: _ :: _ :: _, e1, _ => simp at e1; omega
theorem isFr_wh {d : D} : isFr d = true → areWh d 2 = true := fun h => by
  unfold isFr at h
  split at h
  · rfl
  · cases h
theorem at0 (x : D) (r : List D) : atI (x :: r) 0 = some x := by
  have h : atI (x :: r) ((0 : Nat) : Int) = some x := atI_nat (by rfl)
  exact h
theorem at1 (x y : D) (r : List D) : atI (x :: y :: r) 1 = some y := by
  have h : atI (x :: y :: r) ((1 : Nat) : Int) = some y := atI_nat (by rfl)
  exact h
theorem l_is_fraction {ds G Q} (h : S_is_fraction ds G Q) : r_is_fraction (Ends1 Q) (startD N_is_fraction ds) G := by
  obtain ⟨d, rfl, h1, h2⟩ := h
  rw [show startD N_is_fraction [d] = [some d] from rfl]
  simp only [r_is_fraction, dVar, dC, dOp, dB, dAnd, dOr, dNot, dAndV, dOrV, dNotV, dIf, dNil, dCons, dTup, dLst, dLstT, fAdd, fSub, fDiv, fMod, fPow, fMul, fCmp, fLt, fLe, fGt, fGe, fEq, fNe, fIs, fIsNot, isNonD, dNeg, dCB, on1, fLen, fTup, fLstF, fLstT, fAbs, fInt, onI2, fGcd, fMax2, fMin2, fIsi, frzOf, dSq, dRng1, dRng2, dEnum, dZip, dKeys, dVals, dItems, onK, onS, onD, onB, onKs, onY, onI, onN, dctOf, keyOf, gNm, DL.gNil, DL.gCons, gTp, gSubL, gSubD, dNx, dSeq, dBk, dCt, dDrop, dRet, dRetN, dIfS, dAsg, dPar, dPar3, dFor, dWhile, dLc, dLc2, dDc, dItemsT, dDGet, dDGet2, dApp, dPopAt, dPart, dNoPart, dSlc, fSlc, insOf, dFld, dFldS, dCall, dMeth, dMk, mkEnd, dRevT, dNever, dBits, dDictT, dDict1, fSortD, fListD, sl, wipeD, seqOf, IsLst, getFD, putFD, fIx, List.set, List.length_cons, List.length_nil, List.cons.injEq, and_true, true_and, Nat.reduceAdd, reduceCtorEq, if_true, if_false, Bool.false_eq_true, ne_eq, not_false_eq_true, ite_true, ite_false]
  refine ⟨d, 2, rfl, h1, ?_⟩
  cases e : areWh d 2
  · have e2 : isFr d = false := by
      cases e3 : isFr d
      · rfl
      · rw [isFr_wh e3] at e; cases e
    rw [e2] at h2
    exact h2
  · obtain ⟨a, b, rfl⟩ := areWh_two e
    simp only [at0, at1, dVar, dC, dOp, dB, dAnd, dOr, dNot, dAndV, dOrV, dNotV, dIf, dNil, dCons, dTup, dLst, dLstT, fAdd, fSub, fDiv, fMod, fPow, fMul, fCmp, fLt, fLe, fGt, fGe, fEq, fNe, fIs, fIsNot, isNonD, dNeg, dCB, on1, fLen, fTup, fLstF, fLstT, fAbs, fInt, onI2, fGcd, fMax2, fMin2, fIsi, frzOf, dSq, dRng1, dRng2, dEnum, dZip, dKeys, dVals, dItems, onK, onS, onD, onB, onKs, onY, onI, onN, dctOf, keyOf, gNm, DL.gNil, DL.gCons, gTp, gSubL, gSubD, dNx, dSeq, dBk, dCt, dDrop, dRet, dRetN, dIfS, dAsg, dPar, dPar3, dFor, dWhile, dLc, dLc2, dDc, dItemsT, dDGet, dDGet2, dApp, dPopAt, dPart, dNoPart, dSlc, fSlc, insOf, dFld, dFldS, dCall, dMeth, dMk, mkEnd, dRevT, dNever, dBits, dDictT, dDict1, fSortD, fListD, sl, wipeD, seqOf, IsLst, getFD, putFD, fIx, List.set, List.length_cons, List.length_nil, List.cons.injEq, and_true, true_and, Nat.reduceAdd, reduceCtorEq, if_true, if_false, Bool.false_eq_true, ne_eq, not_false_eq_true, ite_true, ite_false, dok_int, Bool.and_self, deq_int]
    have e2 : isFr (.tup [.int a, .int b]) = (decide (0 < b) && decide (Nat.gcd a.natAbs b.natAbs = 1)) := rfl
    rw [e2] at h2
    by_cases hb : 0 < b
    · rw [decide_eq_true hb] at h2 ⊢
      rw [if_pos rfl]
      have e3 : decide (((Nat.gcd a.natAbs b.natAbs : Nat) : Int) = 1) = decide (Nat.gcd a.natAbs b.natAbs = 1) := decide_eq_decide.mpr (by omega)
      rw [e3]
      exact h2
    · rw [decide_eq_false hb] at h2 ⊢
      exact h2
theorem l_are_fractions {ds G Q} (h : S_are_fractions ds G Q) : r_are_fractions (Ends1 Q) (startD N_are_fractions ds) G := by
  obtain ⟨d, n, rfl, h1, h2⟩ := h
  rw [show startD N_are_fractions [d, .int n] = [some d, some (.int n), none] from rfl]
  simp only [r_are_fractions, dVar, dC, dOp, dB, dAnd, dOr, dNot, dAndV, dOrV, dNotV, dIf, dNil, dCons, dTup, dLst, dLstT, fAdd, fSub, fDiv, fMod, fPow, fMul, fCmp, fLt, fLe, fGt, fGe, fEq, fNe, fIs, fIsNot, isNonD, dNeg, dCB, on1, fLen, fTup, fLstF, fLstT, fAbs, fInt, onI2, fGcd, fMax2, fMin2, fIsi, frzOf, dSq, dRng1, dRng2, dEnum, dZip, dKeys, dVals, dItems, onK, onS, onD, onB, onKs, onY, onI, onN, dctOf, keyOf, gNm, DL.gNil, DL.gCons, gTp, gSubL, gSubD, dNx, dSeq, dBk, dCt, dDrop, dRet, dRetN, dIfS, dAsg, dPar, dPar3, dFor, dWhile, dLc, dLc2, dDc, dItemsT, dDGet, dDGet2, dApp, dPopAt, dPart, dNoPart, dSlc, fSlc, insOf, dFld, dFldS, dCall, dMeth, dMk, mkEnd, dRevT, dNever, dBits, dDictT, dDict1, fSortD, fListD, sl, wipeD, seqOf, IsLst, getFD, putFD, fIx, List.set, List.length_cons, List.length_nil, List.cons.injEq, and_true, true_and, Nat.reduceAdd, reduceCtorEq, if_true, if_false, Bool.false_eq_true, ne_eq, not_false_eq_true, ite_true, ite_false]
  refine ⟨okn_ty h1, ?_⟩
  cases d <;> first | exact h2 | skip
  rename_i es
  obtain ⟨hl, ho⟩ := okn_tup h1
  simp only [isTupD, if_true, dok_int, Bool.and_self, deq_int, true_and]
  have e : areFr (.tup es) n = (decide ((es.length : Int) = n) && es.all isFr) := rfl
  rw [e] at h2
  cases ed : decide ((es.length : Int) = n)
  · rw [ed] at h2
    exact h2
  · rw [ed] at h2
    intro p hp
    refine lc_map (fun d => .bl (isFr d)) (lt_size hl) hp (fun x hx G' C _ hc => ?_) (all_lc h2)
    exact ⟨rfl, x, rfl, ho x hx, hc⟩
theorem deq_self_nil (ds : List D) : deq (.tup ds) (.tup []) = ds.isEmpty := by
  unfold deq
  simp only [toP, toPs]
  cases ds <;> rfl
def rowFull (d : D) : D := .bl (fullRow d)
theorem l_are_rows {ds G Q} (h : S_are_rows ds G Q) : r_are_rows (Ends1 Q) (startD N_are_rows ds) G := by
  obtain ⟨d, rfl, h1, h2⟩ := h
  rw [show startD N_are_rows [d] = [some d, none] from rfl]
  simp only [r_are_rows, dVar, dC, dOp, dB, dAnd, dOr, dNot, dAndV, dOrV, dNotV, dIf, dNil, dCons, dTup, dLst, dLstT, fAdd, fSub, fDiv, fMod, fPow, fMul, fCmp, fLt, fLe, fGt, fGe, fEq, fNe, fIs, fIsNot, isNonD, dNeg, dCB, on1, fLen, fTup, fLstF, fLstT, fAbs, fInt, onI2, fGcd, fMax2, fMin2, fIsi, frzOf, dSq, dRng1, dRng2, dEnum, dZip, dKeys, dVals, dItems, onK, onS, onD, onB, onKs, onY, onI, onN, dctOf, keyOf, gNm, DL.gNil, DL.gCons, gTp, gSubL, gSubD, dNx, dSeq, dBk, dCt, dDrop, dRet, dRetN, dIfS, dAsg, dPar, dPar3, dFor, dWhile, dLc, dLc2, dDc, dItemsT, dDGet, dDGet2, dApp, dPopAt, dPart, dNoPart, dSlc, fSlc, insOf, dFld, dFldS, dCall, dMeth, dMk, mkEnd, dRevT, dNever, dBits, dDictT, dDict1, fSortD, fListD, sl, wipeD, seqOf, IsLst, getFD, putFD, fIx, List.set, List.length_cons, List.length_nil, List.cons.injEq, and_true, true_and, Nat.reduceAdd, reduceCtorEq, if_true, if_false, Bool.false_eq_true, ne_eq, not_false_eq_true, ite_true, ite_false]
  refine ⟨okn_ty h1, ?_⟩
  cases d <;> first | exact h2 | skip
  rename_i es
  obtain ⟨hl, ho⟩ := okn_tup h1
  simp only [isTupD, List.set, List.length_cons, List.length_nil, List.cons.injEq, and_true, true_and, Nat.reduceAdd, reduceCtorEq, if_true, if_false, Bool.false_eq_true, ne_eq, not_false_eq_true, ite_true, ite_false, Bool.not_true]
  have e : areRows (.tup es) = (es.all fullRow && es.all fun r => areFr r ((itemsT (es.headD .non)).length : Int)) := rfl
  rw [e] at h2
  intro p hp
  refine lc_map (fun d => .bl (fullRow d)) (lt_size hl) hp (fun x hx G' C _ hc => ?_) (all_lc ?_)
  · simp only [dVar, dC, dOp, dB, dAnd, dOr, dNot, dAndV, dOrV, dNotV, dIf, dNil, dCons, dTup, dLst, dLstT, fAdd, fSub, fDiv, fMod, fPow, fMul, fCmp, fLt, fLe, fGt, fGe, fEq, fNe, fIs, fIsNot, isNonD, dNeg, dCB, on1, fLen, fTup, fLstF, fLstT, fAbs, fInt, onI2, fGcd, fMax2, fMin2, fIsi, frzOf, dSq, dRng1, dRng2, dEnum, dZip, dKeys, dVals, dItems, onK, onS, onD, onB, onKs, onY, onI, onN, dctOf, keyOf, gNm, DL.gNil, DL.gCons, gTp, gSubL, gSubD, dNx, dSeq, dBk, dCt, dDrop, dRet, dRetN, dIfS, dAsg, dPar, dPar3, dFor, dWhile, dLc, dLc2, dDc, dItemsT, dDGet, dDGet2, dApp, dPopAt, dPart, dNoPart, dSlc, fSlc, insOf, dFld, dFldS, dCall, dMeth, dMk, mkEnd, dRevT, dNever, dBits, dDictT, dDict1, fSortD, fListD, sl, wipeD, seqOf, IsLst, getFD, putFD, fIx, List.set, List.length_cons, List.length_nil, List.cons.injEq, and_true, true_and, Nat.reduceAdd, reduceCtorEq, if_true, if_false, Bool.false_eq_true, ne_eq, not_false_eq_true, ite_true, ite_false]
    refine ⟨okn_ty (ho x hx), ?_⟩
    cases x <;> first | exact hc | skip
    rename_i xs
    simp only [isTupD, List.set, List.length_cons, List.length_nil, List.cons.injEq, and_true, true_and, Nat.reduceAdd, reduceCtorEq, if_true, if_false, Bool.false_eq_true, ne_eq, not_false_eq_true, ite_true, ite_false]
    refine ⟨Nat.zero_le _, ?_, ?_⟩
    · rw [okn_60 (ho _ hx) (by omega)]
      rfl
    · rw [deq_self_nil]
      exact hc
  · cases e1 : es.all fullRow
    · rw [e1] at h2
      exact h2
    · rw [e1] at h2
      simp only [Bool.not_true, List.set, List.length_cons, List.length_nil, List.cons.injEq, and_true, true_and, Nat.reduceAdd, reduceCtorEq, if_true, if_false, Bool.false_eq_true, ne_eq, not_false_eq_true, ite_true, ite_false]
      intro p hp
      refine lc_map (fun d => .bl (areFr d ((itemsT (es.headD .non)).length : Int))) (lt_size hl) hp (fun x hx G' C _ hc => ?_) (all_lc h2)
      match es, e1, hx with
      | y :: r, e1, hx =>
        have fy : fullRow y = true := List.all_eq_true.mp e1 y (by simp)
        cases y <;> first | cases fy | skip
        rename_i ys
        simp only [dVar, dC, dOp, dB, dAnd, dOr, dNot, dAndV, dOrV, dNotV, dIf, dNil, dCons, dTup, dLst, dLstT, fAdd, fSub, fDiv, fMod, fPow, fMul, fCmp, fLt, fLe, fGt, fGe, fEq, fNe, fIs, fIsNot, isNonD, dNeg, dCB, on1, fLen, fTup, fLstF, fLstT, fAbs, fInt, onI2, fGcd, fMax2, fMin2, fIsi, frzOf, dSq, dRng1, dRng2, dEnum, dZip, dKeys, dVals, dItems, onK, onS, onD, onB, onKs, onY, onI, onN, dctOf, keyOf, gNm, DL.gNil, DL.gCons, gTp, gSubL, gSubD, dNx, dSeq, dBk, dCt, dDrop, dRet, dRetN, dIfS, dAsg, dPar, dPar3, dFor, dWhile, dLc, dLc2, dDc, dItemsT, dDGet, dDGet2, dApp, dPopAt, dPart, dNoPart, dSlc, fSlc, insOf, dFld, dFldS, dCall, dMeth, dMk, mkEnd, dRevT, dNever, dBits, dDictT, dDict1, fSortD, fListD, sl, wipeD, seqOf, IsLst, getFD, putFD, fIx, List.set, List.length_cons, List.length_nil, List.cons.injEq, and_true, true_and, Nat.reduceAdd, reduceCtorEq, if_true, if_false, Bool.false_eq_true, ne_eq, not_false_eq_true, ite_true, ite_false, at0]
        exact ⟨x, _, rfl, ho x hx, hc⟩
end K43
set_option Elab.async false
set_option linter.all false
set_option maxRecDepth 100000
set_option maxHeartbeats 4000000
namespace K43
open PySem PySem.Spec PyProof.Rows L2 DL
theorem num_zero (q : Rat) : decide (q.num = 0) = decide (q = 0) := decide_eq_decide.mpr Rat.num_eq_zero
theorem dok_q (q : Rat) : dok 60 (dQ q) = true := rfl
theorem l_is_nought_row {ds G Q} (h : S_is_nought_row ds G Q) : r_is_nought_row (Ends1 Q) (startD N_is_nought_row ds) G := by
  obtain ⟨r, rfl, h1, h2⟩ := h
  rw [show startD N_is_nought_row [dRow r] = [some (dRow r), none] from rfl]
  simp only [r_is_nought_row, dRow, dVar, dC, dOp, dB, dAnd, dOr, dNot, dAndV, dOrV, dNotV, dIf, dNil, dCons, dTup, dLst, dLstT, fAdd, fSub, fDiv, fMod, fPow, fMul, fCmp, fLt, fLe, fGt, fGe, fEq, fNe, fIs, fIsNot, isNonD, dNeg, dCB, on1, fLen, fTup, fLstF, fLstT, fAbs, fInt, onI2, fGcd, fMax2, fMin2, fIsi, frzOf, dSq, dRng1, dRng2, dEnum, dZip, dKeys, dVals, dItems, onK, onS, onD, onB, onKs, onY, onI, onN, dctOf, keyOf, gNm, DL.gNil, DL.gCons, gTp, gSubL, gSubD, dNx, dSeq, dBk, dCt, dDrop, dRet, dRetN, dIfS, dAsg, dPar, dPar3, dFor, dWhile, dLc, dLc2, dDc, dItemsT, dDGet, dDGet2, dApp, dPopAt, dPart, dNoPart, dSlc, fSlc, insOf, dFld, dFldS, dCall, dMeth, dMk, mkEnd, dRevT, dNever, dBits, dDictT, dDict1, fSortD, fListD, sl, wipeD, seqOf, IsLst, getFD, putFD, fIx, List.set, List.length_cons, List.length_nil, List.cons.injEq, and_true, true_and, Nat.reduceAdd, reduceCtorEq, if_true, if_false, Bool.false_eq_true, ne_eq, not_false_eq_true, ite_true, ite_false]
  intro p hp
  refine lc_map (fun d => match d with
    | .tup [.int n, _] => .bl (decide (n = 0))
    | _ => .non) (lt_size (by rw [List.length_map]; exact h1)) hp (fun x hx G' C _ hc => ?_) ⟨r.map fun q => decide (q = 0), ?_, fun _ => D.noConfusion, ?_⟩
  · obtain ⟨q, _, rfl⟩ := List.mem_map.mp hx
    simp only [dQ, dVar, dC, dOp, dB, dAnd, dOr, dNot, dAndV, dOrV, dNotV, dIf, dNil, dCons, dTup, dLst, dLstT, fAdd, fSub, fDiv, fMod, fPow, fMul, fCmp, fLt, fLe, fGt, fGe, fEq, fNe, fIs, fIsNot, isNonD, dNeg, dCB, on1, fLen, fTup, fLstF, fLstT, fAbs, fInt, onI2, fGcd, fMax2, fMin2, fIsi, frzOf, dSq, dRng1, dRng2, dEnum, dZip, dKeys, dVals, dItems, onK, onS, onD, onB, onKs, onY, onI, onN, dctOf, keyOf, gNm, DL.gNil, DL.gCons, gTp, gSubL, gSubD, dNx, dSeq, dBk, dCt, dDrop, dRet, dRetN, dIfS, dAsg, dPar, dPar3, dFor, dWhile, dLc, dLc2, dDc, dItemsT, dDGet, dDGet2, dApp, dPopAt, dPart, dNoPart, dSlc, fSlc, insOf, dFld, dFldS, dCall, dMeth, dMk, mkEnd, dRevT, dNever, dBits, dDictT, dDict1, fSortD, fListD, sl, wipeD, seqOf, IsLst, getFD, putFD, fIx, List.set, List.length_cons, List.length_nil, List.cons.injEq, and_true, true_and, Nat.reduceAdd, reduceCtorEq, if_true, if_false, Bool.false_eq_true, ne_eq, not_false_eq_true, ite_true, ite_false, at0, dok_int, Bool.and_self, deq_int]
    exact hc
  · show some _ = some _
    rw [List.map_map, List.map_map]
    refine congrArg some (List.map_congr_left fun q _ => ?_)
    exact congrArg D.bl (num_zero q)
  · rw [show (r.map fun q => decide (q = 0)).all id = r.all fun q => decide (q = 0) by rw [List.all_map]; rfl]
    exact h2
def nzC (d : D) : Bool := match d with
  | .tup [_, .tup [.int n, _]] => !decide (n = 0)
  | _ => false
def fstC (d : D) : D := match d with
  | .tup [x, _] => x
  | _ => .non
theorem lead_list : ∀ (r : List Rat) (k i : Nat), leadQ r = some i → ∃ rest, ((enumD k (r.map dQ)).filter nzC).map fstC = .int ((k + i : Nat) : Int) :: rest
  | [], _, _, h => by cases h
  | q :: r, k, i, h => by
    have hc : nzC (.tup [.int (k : Int), dQ q]) = !decide (q.num = 0) := rfl
    show ∃ rest, ((D.tup [.int (k : Int), dQ q] :: enumD (k + 1) (r.map dQ)).filter nzC).map fstC = _
    by_cases e : q = 0
    · have h' : (leadQ r).map (· + 1) = some i := by rw [leadQ, if_pos e] at h; exact h
      obtain ⟨j, ej, rfl⟩ := Option.map_eq_some_iff.mp h'
      rw [List.filter_cons_of_neg (by rw [hc, num_zero, decide_eq_true e]; simp)]
      obtain ⟨rest, er⟩ := lead_list r (k + 1) j ej
      exact ⟨rest, by rw [er]; congr 3; omega⟩
    · have h' : some 0 = some i := by rw [leadQ, if_neg e] at h; exact h
      cases h'
      rw [List.filter_cons_of_pos (by rw [hc, num_zero, decide_eq_false e]; rfl)]
      exact ⟨_, rfl⟩
theorem enum_nz {r : List Rat} {k : Nat} {x : D} (h : x ∈ enumD k (r.map dQ)) : ∃ (j : Nat) (q : Rat), x = .tup [.int (j : Int), dQ q] := by
  obtain ⟨i, hi⟩ := List.mem_iff_getElem?.mp h
  rw [enumD_get] at hi
  obtain ⟨y, ey, rfl⟩ := Option.map_eq_some_iff.mp hi
  rw [List.getElem?_map] at ey
  obtain ⟨q, _, rfl⟩ := Option.map_eq_some_iff.mp ey
  exact ⟨_, q, rfl⟩
theorem lead_go {r : List Rat} {i : Nat} {ρ : Dt} {G : GH} {p : Addr} {Q : DE} (h1 : r.length ≤ 1000) (h2 : leadQ r = some i) (h3 : Q (.int i) G) (hp : G p = none) (hρ : ρ = [some (dRow r), none, none] ∨ ρ = [some (.lst (r.map dQ)), none, none]) :
    lcIn (gTp 2 (DL.gCons (gNm 1) (DL.gCons (gNm 2) DL.gNil))) (dB (dOp fNe (dOp fIx (dVar 2) (dC (.int 0))) (dC (.int 0)))) (dVar 1) ρ p (lcEnd true (fun x G2 => fIx x (.int 0) G2 Q) p) (enumD 0 (r.map dQ)) [] (gput G p (.lst [])) := by
  refine lc_fm nzC fstC (lt_size (by rw [enumD_len, List.length_map]; exact h1)) hp (fun x hx G' K1 K0 _ hc => ?_) ?_
  · obtain ⟨j, q, rfl⟩ := enum_nz hx
    have e1 : nzC (.tup [.int (j : Int), dQ q]) = !decide (q.num = 0) := rfl
    have e2 : fstC (.tup [.int (j : Int), dQ q]) = .int (j : Int) := rfl
    rw [e1, e2] at hc
    rcases hρ with rfl | rfl
    all_goals (simp only [dQ, dVar, dC, dOp, dB, dAnd, dOr, dNot, dAndV, dOrV, dNotV, dIf, dNil, dCons, dTup, dLst, dLstT, fAdd, fSub, fDiv, fMod, fPow, fMul, fCmp, fLt, fLe, fGt, fGe, fEq, fNe, fIs, fIsNot, isNonD, dNeg, dCB, on1, fLen, fTup, fLstF, fLstT, fAbs, fInt, onI2, fGcd, fMax2, fMin2, fIsi, frzOf, dSq, dRng1, dRng2, dEnum, dZip, dKeys, dVals, dItems, onK, onS, onD, onB, onKs, onY, onI, onN, dctOf, keyOf, gNm, DL.gNil, DL.gCons, gTp, gSubL, gSubD, dNx, dSeq, dBk, dCt, dDrop, dRet, dRetN, dIfS, dAsg, dPar, dPar3, dFor, dWhile, dLc, dLc2, dDc, dItemsT, dDGet, dDGet2, dApp, dPopAt, dPart, dNoPart, dSlc, fSlc, insOf, dFld, dFldS, dCall, dMeth, dMk, mkEnd, dRevT, dNever, dBits, dDictT, dDict1, fSortD, fListD, sl, wipeD, seqOf, IsLst, getFD, putFD, fIx, List.set, List.length_cons, List.length_nil, List.cons.injEq, and_true, true_and, Nat.reduceAdd, reduceCtorEq, if_true, if_false, Bool.false_eq_true, ne_eq, not_false_eq_true, ite_true, ite_false, at0, dok_int, Bool.and_self, deq_int]; exact hc)
  · obtain ⟨rest, er⟩ := lead_list r 0 i h2
    rw [er]
    simp only [dVar, dC, dOp, dB, dAnd, dOr, dNot, dAndV, dOrV, dNotV, dIf, dNil, dCons, dTup, dLst, dLstT, fAdd, fSub, fDiv, fMod, fPow, fMul, fCmp, fLt, fLe, fGt, fGe, fEq, fNe, fIs, fIsNot, isNonD, dNeg, dCB, on1, fLen, fTup, fLstF, fLstT, fAbs, fInt, onI2, fGcd, fMax2, fMin2, fIsi, frzOf, dSq, dRng1, dRng2, dEnum, dZip, dKeys, dVals, dItems, onK, onS, onD, onB, onKs, onY, onI, onN, dctOf, keyOf, gNm, DL.gNil, DL.gCons, gTp, gSubL, gSubD, dNx, dSeq, dBk, dCt, dDrop, dRet, dRetN, dIfS, dAsg, dPar, dPar3, dFor, dWhile, dLc, dLc2, dDc, dItemsT, dDGet, dDGet2, dApp, dPopAt, dPart, dNoPart, dSlc, fSlc, insOf, dFld, dFldS, dCall, dMeth, dMk, mkEnd, dRevT, dNever, dBits, dDictT, dDict1, fSortD, fListD, sl, wipeD, seqOf, IsLst, getFD, putFD, fIx, List.set, List.length_cons, List.length_nil, List.cons.injEq, and_true, true_and, Nat.reduceAdd, reduceCtorEq, if_true, if_false, Bool.false_eq_true, ne_eq, not_false_eq_true, ite_true, ite_false, at0]
    rw [Nat.zero_add]
    exact h3
theorem l_lead_of {ds G Q} (h : S_lead_of ds G Q) : r_lead_of (Ends1 Q) (startD N_lead_of ds) G := by
  obtain ⟨r, i, rfl, h1, h2, h3⟩ := h
  rw [show startD N_lead_of [dRow r] = [some (dRow r), none, none] from rfl]
  show ∀ p, G p = none → _
  intro p hp
  exact lead_go h1 h2 h3 hp (.inl rfl)
theorem l_law_head {ds G Q} (h : S_law_head ds G Q) : r_law_head (Ends1 Q) (startD N_law_head ds) G := by
  obtain ⟨r, i, rfl, h1, h2, h3⟩ := h
  rw [show startD N_law_head [.lst (r.map dQ)] = [some (.lst (r.map dQ)), none, none] from rfl]
  show ∀ p, G p = none → _
  intro p hp
  exact lead_go h1 h2 h3 hp (.inr rfl)
end K43
set_option Elab.async false
set_option linter.all false
set_option maxRecDepth 100000
set_option maxHeartbeats 4000000
namespace K43
open PySem PySem.Spec PyProof.Rows L2 DL
theorem deq_pair (a b c d : Int) : deq (.tup [.int a, .int b]) (.tup [.int c, .int d]) = (decide (a = c) && decide (b = d)) := by
  unfold deq
  simp [toP, toPs, PyData.eqv, PyData.eqvAll]
  rfl
theorem q_one (q : Rat) : (decide (q.num = 1) && decide ((q.den : Int) = 1)) = decide (q = 1) := by
  rw [← Bool.decide_and]
  refine decide_eq_decide.mpr ⟨fun ⟨h1, h2⟩ => ?_, fun h => by rw [h]; exact ⟨rfl, rfl⟩⟩
  exact Rat.ext h1 (by show q.den = 1; omega)
theorem frac_isFr (q : Rat) : isFr (dQ q) = true := by
  show (decide (0 < (q.den : Int)) && decide (Nat.gcd q.num.natAbs (q.den : Int).natAbs = 1)) = true
  rw [Bool.and_eq_true]
  exact ⟨decide_eq_true (by have := q.den_pos; omega), decide_eq_true q.reduced⟩
theorem areRows_tab {t : List (List Rat)} {w : Nat} (hw : 0 < w) (h : ∀ r ∈ t, r.length = w) : areRows (dTab t) = true := by
  show ((t.map dRow).all fullRow && (t.map dRow).all fun r => areFr r ((itemsT ((t.map dRow).headD .non)).length : Int)) = true
  cases t with
  | nil => rfl
  | cons r0 t =>
  have e : (itemsT (((r0 :: t).map dRow).headD .non)).length = w := by
    show (r0.map dQ).length = w
    rw [List.length_map]
    exact h r0 (by simp)
  rw [e, Bool.and_eq_true, List.all_map, List.all_map]
  refine ⟨List.all_eq_true.mpr fun r hr => ?_, List.all_eq_true.mpr fun r hr => ?_⟩
  · show (true && !((r.map dQ).isEmpty)) = true
    have := h r hr
    cases r with
    | nil => rw [List.length_nil] at this; omega
    | cons _ _ => rfl
  · show (true && (decide (((r.map dQ).length : Int) = (w : Int)) && (r.map dQ).all isFr)) = true
    rw [List.length_map, h r hr, decide_eq_true rfl, List.all_map]
    exact List.all_eq_true.mpr fun q _ => frac_isFr q
theorem okn_tab {t : List (List Rat)} (h : okn 8 (dTab t) = true) : t.length ≤ 1000 ∧ ∀ r ∈ t, r.length ≤ 1000 := by
  obtain ⟨h1, h2⟩ := okn_tup h
  rw [List.length_map] at h1
  refine ⟨h1, fun r hr => ?_⟩
  obtain ⟨h3, _⟩ := okn_tup (h2 (dRow r) (List.mem_map_of_mem hr))
  rw [List.length_map] at h3
  exact h3
theorem leadQ_some {r : List Rat} (h : (r.all fun q => decide (q = 0)) = false) : ∃ i, leadQ r = some i ∧ i < r.length ∧ vecQ r i ≠ 0 := by
  induction r with
  | nil => cases h
  | cons q r ih =>
    unfold leadQ
    by_cases e : q = 0
    · rw [if_pos e]
      have h' : (decide (q = 0) && r.all fun q => decide (q = 0)) = false := h
      rw [decide_eq_true e, Bool.true_and] at h'
      obtain ⟨i, e1, e2, e3⟩ := ih h'
      exact ⟨i + 1, by rw [e1]; rfl, by rw [List.length_cons]; omega, by unfold vecQ at e3 ⊢; simpa using e3⟩
    · rw [if_neg e]
      exact ⟨0, rfl, by simp, by unfold vecQ; simpa using e⟩
def ld (r : List Rat) : Nat := (leadQ r).getD 0
theorem zip_up (l : List Nat) : ((l.map fun n : Nat => (n : Int)).zip (l.map fun n : Nat => (n : Int)).tail).all (fun p => decide (p.1 < p.2)) = (l.zip l.tail).all fun p => decide (p.1 < p.2) := by
  rw [← List.map_tail, List.zip_map, List.all_map]
  refine congrArg (fun f => (l.zip l.tail).all f) (funext fun p => ?_)
  exact decide_eq_decide.mpr Int.ofNat_lt
theorem zip_tl : ∀ t : List (List Rat), zipD (t.map dRow) (t.map fun r => D.int ((ld r : Nat) : Int)) = t.map fun r => .tup [dRow r, .int ((ld r : Nat) : Int)]
  | [] => rfl
  | r :: t => congrArg _ (zip_tl t)
theorem at_row {r : List Rat} {n : Nat} (h : n < r.length) : atI (r.map dQ) (n : Int) = some (dQ (vecQ r n)) := by
  refine atI_nat ?_
  rw [List.getElem?_map]
  unfold vecQ
  rw [List.getD_eq_getElem?_getD, List.getElem?_eq_getElem h]
  rfl
theorem sum_const {α : Type} (l : List α) (k : Nat) : (l.map fun _ => k).sum = l.length * k := by
  induction l with
  | nil => simp
  | cons a l ih => rw [List.map_cons, List.sum_cons, ih, List.length_cons, Nat.succ_mul]; omega
theorem l_is_table {ds G Q} (h : S_is_table ds G Q) : r_is_table (Ends1 Q) (startD N_is_table ds) G := by
  obtain ⟨d, rfl, h1, h2⟩ := h
  rw [show startD N_is_table [d] = [some d, none, none, none] from rfl]
  simp only [r_is_table, dVar, dC, dOp, dB, dAnd, dOr, dNot, dAndV, dOrV, dNotV, dIf, dNil, dCons, dTup, dLst, dLstT, fAdd, fSub, fDiv, fMod, fPow, fMul, fCmp, fLt, fLe, fGt, fGe, fEq, fNe, fIs, fIsNot, isNonD, dNeg, dCB, on1, fLen, fTup, fLstF, fLstT, fAbs, fInt, onI2, fGcd, fMax2, fMin2, fIsi, frzOf, dSq, dRng1, dRng2, dEnum, dZip, dKeys, dVals, dItems, onK, onS, onD, onB, onKs, onY, onI, onN, dctOf, keyOf, gNm, DL.gNil, DL.gCons, gTp, gSubL, gSubD, dNx, dSeq, dBk, dCt, dDrop, dRet, dRetN, dIfS, dAsg, dPar, dPar3, dFor, dWhile, dLc, dLc2, dDc, dItemsT, dDGet, dDGet2, dApp, dPopAt, dPart, dNoPart, dSlc, fSlc, insOf, dFld, dFldS, dCall, dMeth, dMk, mkEnd, dRevT, dNever, dBits, dDictT, dDict1, fSortD, fListD, sl, wipeD, seqOf, IsLst, getFD, putFD, fIx, List.set, List.length_cons, List.length_nil, List.cons.injEq, and_true, true_and, Nat.reduceAdd, reduceCtorEq, if_true, if_false, Bool.false_eq_true, ne_eq, not_false_eq_true, ite_true, ite_false]
  refine ⟨d, rfl, h1, ?_⟩
  rcases h2 with ⟨e, h2⟩ | ⟨t, w, rfl, hw, hw1, hl, h2⟩
  · rw [e]
    exact h2
  rw [areRows_tab hw hl]
  obtain ⟨ht, hr⟩ := okn_tab h1
  have zt : t.length ≤ sizeLine := lt_size ht
  have zr : ∀ r ∈ t, r.length ≤ 1000 := hr
  simp only [dTab, dVar, dC, dOp, dB, dAnd, dOr, dNot, dAndV, dOrV, dNotV, dIf, dNil, dCons, dTup, dLst, dLstT, fAdd, fSub, fDiv, fMod, fPow, fMul, fCmp, fLt, fLe, fGt, fGe, fEq, fNe, fIs, fIsNot, isNonD, dNeg, dCB, on1, fLen, fTup, fLstF, fLstT, fAbs, fInt, onI2, fGcd, fMax2, fMin2, fIsi, frzOf, dSq, dRng1, dRng2, dEnum, dZip, dKeys, dVals, dItems, onK, onS, onD, onB, onKs, onY, onI, onN, dctOf, keyOf, gNm, DL.gNil, DL.gCons, gTp, gSubL, gSubD, dNx, dSeq, dBk, dCt, dDrop, dRet, dRetN, dIfS, dAsg, dPar, dPar3, dFor, dWhile, dLc, dLc2, dDc, dItemsT, dDGet, dDGet2, dApp, dPopAt, dPart, dNoPart, dSlc, fSlc, insOf, dFld, dFldS, dCall, dMeth, dMk, mkEnd, dRevT, dNever, dBits, dDictT, dDict1, fSortD, fListD, sl, wipeD, seqOf, IsLst, getFD, putFD, fIx, List.set, List.length_cons, List.length_nil, List.cons.injEq, and_true, true_and, Nat.reduceAdd, reduceCtorEq, if_true, if_false, Bool.false_eq_true, ne_eq, not_false_eq_true, ite_true, ite_false, Bool.not_true]
  intro p hp
  refine lc_mapA (fun r : List Rat => .bl (r.all fun q => decide (q = 0))) zt hp (fun r hr' G' C _ hc => ?_) ⟨t.map fun r => r.all fun q => decide (q = 0), ?_, fun _ => D.noConfusion, ?_⟩
  · exact ⟨rfl, r, rfl, zr r hr', hc⟩
  · show some _ = some _
    rw [List.map_map]
    rfl
  rw [any_id]
  unfold isTabQ at h2
  have e0 : t.all (fun r => !(r.all fun q => decide (q = 0))) = !(t.any fun r => r.all fun q => decide (q = 0)) := by
    rw [List.not_any_eq_all_not]
  cases ea : t.any fun r => r.all fun q => decide (q = 0)
  case true =>
    rw [e0, ea] at h2
    exact h2
  rw [e0, ea] at h2
  simp only [Bool.not_false, Bool.true_and, List.set, List.length_cons, List.length_nil, List.cons.injEq, and_true, true_and, Nat.reduceAdd, reduceCtorEq, if_true, if_false, Bool.false_eq_true, ne_eq, not_false_eq_true, ite_true, ite_false] at h2 ⊢
  have hlead : ∀ r ∈ t, ∃ i, leadQ r = some i ∧ i < r.length ∧ vecQ r i ≠ 0 := fun r hr' => leadQ_some (by
    have := List.any_eq_false.mp ea r hr'
    simpa using this)
  intro p hp
  refine lc_mapA (fun r : List Rat => .int (((leadQ r).getD 0 : Nat) : Int)) zt hp (fun r hr' G' C _ hc => ?_) ?_
  · obtain ⟨i, e1, _⟩ := hlead r hr'
    rw [e1] at hc
    exact ⟨rfl, r, i, rfl, zr r hr', e1, hc⟩
  have hl' : ∀ q ∈ t, ∀ r ∈ t, ld q < r.length := fun q hq r hr' => by
    obtain ⟨i, e1, e2, _⟩ := hlead q hq
    have : ld q = i := by unfold ld; rw [e1]; rfl
    rw [this, hl r hr', ← hl q hq]
    exact e2
  refine ⟨(t.map ld).map fun n : Nat => (n : Int), by rw [List.map_map, List.map_map]; rfl, by rw [List.length_map, List.length_map]; exact ht, ?_⟩
  rw [zip_up]
  have h2 : Q (.bl (((t.map ld).zip (t.map ld).tail).all (fun p => decide (p.1 < p.2)) && ((t.all fun r => decide (vecQ r (ld r) = 1)) && t.all fun r => t.all fun q => decide (ld q = ld r) || decide (vecQ r (ld q) = 0)))) G := h2
  cases eu : ((t.map ld).zip (t.map ld).tail).all fun p => decide (p.1 < p.2)
  case false =>
    rw [eu] at h2
    exact h2
  rw [eu] at h2
  simp only [Bool.not_true, Bool.true_and, List.set, List.length_cons, List.length_nil, List.cons.injEq, and_true, true_and, Nat.reduceAdd, reduceCtorEq, if_true, if_false, Bool.false_eq_true, ne_eq, not_false_eq_true, ite_true, ite_false] at h2 ⊢
  intro p hp
  rw [show (t.map fun r => D.int (((leadQ r).getD 0 : Nat) : Int)) = t.map fun r => D.int ((ld r : Nat) : Int) from rfl, zip_tl]
  refine lc_mapA (fun r : List Rat => .bl (!decide (vecQ r (ld r) = 1))) zt hp (fun r hr' G' C _ hc => ?_) ⟨t.map fun r => !decide (vecQ r (ld r) = 1), ?_, fun _ => D.noConfusion, ?_⟩
  · simp only [dVar, dC, dOp, dB, dAnd, dOr, dNot, dAndV, dOrV, dNotV, dIf, dNil, dCons, dTup, dLst, dLstT, fAdd, fSub, fDiv, fMod, fPow, fMul, fCmp, fLt, fLe, fGt, fGe, fEq, fNe, fIs, fIsNot, isNonD, dNeg, dCB, on1, fLen, fTup, fLstF, fLstT, fAbs, fInt, onI2, fGcd, fMax2, fMin2, fIsi, frzOf, dSq, dRng1, dRng2, dEnum, dZip, dKeys, dVals, dItems, onK, onS, onD, onB, onKs, onY, onI, onN, dctOf, keyOf, gNm, DL.gNil, DL.gCons, gTp, gSubL, gSubD, dNx, dSeq, dBk, dCt, dDrop, dRet, dRetN, dIfS, dAsg, dPar, dPar3, dFor, dWhile, dLc, dLc2, dDc, dItemsT, dDGet, dDGet2, dApp, dPopAt, dPart, dNoPart, dSlc, fSlc, insOf, dFld, dFldS, dCall, dMeth, dMk, mkEnd, dRevT, dNever, dBits, dDictT, dDict1, fSortD, fListD, sl, wipeD, seqOf, IsLst, getFD, putFD, fIx, List.set, List.length_cons, List.length_nil, List.cons.injEq, and_true, true_and, Nat.reduceAdd, reduceCtorEq, if_true, if_false, Bool.false_eq_true, ne_eq, not_false_eq_true, ite_true, ite_false, dRow, at_row (hl' r hr' r hr')]
    refine ⟨rfl, ?_⟩
    unfold dQ
    rw [deq_pair, q_one]
    exact hc
  · show some _ = some _
    rw [List.map_map]
    rfl
  rw [any_id]
  have e1 : (t.any fun r => !decide (vecQ r (ld r) = 1)) = !(t.all fun r => decide (vecQ r (ld r) = 1)) := by
    rw [List.not_all_eq_any_not]
  rw [e1]
  cases eo : t.all fun r => decide (vecQ r (ld r) = 1)
  case false =>
    rw [eo] at h2
    exact h2
  rw [eo] at h2
  simp only [Bool.not_true, Bool.true_and, List.set, List.length_cons, List.length_nil, List.cons.injEq, and_true, true_and, Nat.reduceAdd, reduceCtorEq, if_true, if_false, Bool.false_eq_true, ne_eq, not_false_eq_true, ite_true, ite_false] at h2 ⊢
  intro p hp
  refine lc2_A dRow (fun _ => t.map ld) (fun n : Nat => .int (n : Int)) (fun r n => !decide (n = ld r)) (fun r n => .bl (decide (vecQ r n = 0))) hp t [] ?_ (fun r hr' => ?_) ?_
  · rw [sum_const, List.length_nil, List.length_map, sizeLine_eq]
    have := Nat.mul_le_mul ht ht
    omega
  · refine ⟨[some (.tup (t.map dRow)), some (.lst (t.map fun r => D.int ((ld r : Nat) : Int))), some (dRow r), none], fun C G' _ hc => ?_, fun n hn G' K1 K0 _ hc => ?_⟩
    · simp only [dVar, dC, dOp, dB, dAnd, dOr, dNot, dAndV, dOrV, dNotV, dIf, dNil, dCons, dTup, dLst, dLstT, fAdd, fSub, fDiv, fMod, fPow, fMul, fCmp, fLt, fLe, fGt, fGe, fEq, fNe, fIs, fIsNot, isNonD, dNeg, dCB, on1, fLen, fTup, fLstF, fLstT, fAbs, fInt, onI2, fGcd, fMax2, fMin2, fIsi, frzOf, dSq, dRng1, dRng2, dEnum, dZip, dKeys, dVals, dItems, onK, onS, onD, onB, onKs, onY, onI, onN, dctOf, keyOf, gNm, DL.gNil, DL.gCons, gTp, gSubL, gSubD, dNx, dSeq, dBk, dCt, dDrop, dRet, dRetN, dIfS, dAsg, dPar, dPar3, dFor, dWhile, dLc, dLc2, dDc, dItemsT, dDGet, dDGet2, dApp, dPopAt, dPart, dNoPart, dSlc, fSlc, insOf, dFld, dFldS, dCall, dMeth, dMk, mkEnd, dRevT, dNever, dBits, dDictT, dDict1, fSortD, fListD, sl, wipeD, seqOf, IsLst, getFD, putFD, fIx, List.set, List.length_cons, List.length_nil, List.cons.injEq, and_true, true_and, Nat.reduceAdd, reduceCtorEq, if_true, if_false, Bool.false_eq_true, ne_eq, not_false_eq_true, ite_true, ite_false]
      rw [List.map_map] at hc
      exact hc
    · obtain ⟨q, hq, rfl⟩ := List.mem_map.mp hn
      obtain ⟨i, e1, _⟩ := hlead r hr'
      have ei : ld r = i := by unfold ld; rw [e1]; rfl
      simp only [dVar, dC, dOp, dB, dAnd, dOr, dNot, dAndV, dOrV, dNotV, dIf, dNil, dCons, dTup, dLst, dLstT, fAdd, fSub, fDiv, fMod, fPow, fMul, fCmp, fLt, fLe, fGt, fGe, fEq, fNe, fIs, fIsNot, isNonD, dNeg, dCB, on1, fLen, fTup, fLstF, fLstT, fAbs, fInt, onI2, fGcd, fMax2, fMin2, fIsi, frzOf, dSq, dRng1, dRng2, dEnum, dZip, dKeys, dVals, dItems, onK, onS, onD, onB, onKs, onY, onI, onN, dctOf, keyOf, gNm, DL.gNil, DL.gCons, gTp, gSubL, gSubD, dNx, dSeq, dBk, dCt, dDrop, dRet, dRetN, dIfS, dAsg, dPar, dPar3, dFor, dWhile, dLc, dLc2, dDc, dItemsT, dDGet, dDGet2, dApp, dPopAt, dPart, dNoPart, dSlc, fSlc, insOf, dFld, dFldS, dCall, dMeth, dMk, mkEnd, dRevT, dNever, dBits, dDictT, dDict1, fSortD, fListD, sl, wipeD, seqOf, IsLst, getFD, putFD, fIx, List.set, List.length_cons, List.length_nil, List.cons.injEq, and_true, true_and, Nat.reduceAdd, reduceCtorEq, if_true, if_false, Bool.false_eq_true, ne_eq, not_false_eq_true, ite_true, ite_false, dRow, at_row (hl' q hq r hr')]
      refine ⟨r, i, rfl, zr r hr', e1, rfl, ?_⟩
      rw [deq_int, ← ei]
      have e2 : decide (((ld q : Nat) : Int) = ((ld r : Nat) : Int)) = decide (ld q = ld r) := decide_eq_decide.mpr Int.ofNat_inj
      rw [e2]
      simp only [dQ, at0, dVar, dC, dOp, dB, dAnd, dOr, dNot, dAndV, dOrV, dNotV, dIf, dNil, dCons, dTup, dLst, dLstT, fAdd, fSub, fDiv, fMod, fPow, fMul, fCmp, fLt, fLe, fGt, fGe, fEq, fNe, fIs, fIsNot, isNonD, dNeg, dCB, on1, fLen, fTup, fLstF, fLstT, fAbs, fInt, onI2, fGcd, fMax2, fMin2, fIsi, frzOf, dSq, dRng1, dRng2, dEnum, dZip, dKeys, dVals, dItems, onK, onS, onD, onB, onKs, onY, onI, onN, dctOf, keyOf, gNm, DL.gNil, DL.gCons, gTp, gSubL, gSubD, dNx, dSeq, dBk, dCt, dDrop, dRet, dRetN, dIfS, dAsg, dPar, dPar3, dFor, dWhile, dLc, dLc2, dDc, dItemsT, dDGet, dDGet2, dApp, dPopAt, dPart, dNoPart, dSlc, fSlc, insOf, dFld, dFldS, dCall, dMeth, dMk, mkEnd, dRevT, dNever, dBits, dDictT, dDict1, fSortD, fListD, sl, wipeD, seqOf, IsLst, getFD, putFD, fIx, List.set, List.length_cons, List.length_nil, List.cons.injEq, and_true, true_and, Nat.reduceAdd, reduceCtorEq, if_true, if_false, Bool.false_eq_true, ne_eq, not_false_eq_true, ite_true, ite_false, deq_int]
      split at hc
      · rename_i ec
        rw [if_pos ec]
        refine ⟨rfl, ?_⟩
        rw [num_zero]
        exact hc
      · rename_i ec
        rw [if_neg ec]
        exact hc
  · rw [List.nil_append]
    refine ⟨t.flatMap fun r => ((t.map ld).filter fun n => !decide (n = ld r)).map fun n => decide (vecQ r n = 0), ?_, fun _ => D.noConfusion, ?_⟩
    · show some _ = some _
      rw [List.map_flatMap]
      refine congrArg some (congrArg (fun f => List.flatMap f t) (funext fun r => ?_))
      rw [List.map_map]
      rfl
    · have e2 : (t.flatMap fun r => ((t.map ld).filter fun n => !decide (n = ld r)).map fun n => decide (vecQ r n = 0)).all id = t.all fun r => t.all fun q => decide (ld q = ld r) || decide (vecQ r (ld q) = 0) := by
        rw [List.all_flatMap]
        refine congrArg (fun f => t.all f) (funext fun r => ?_)
        rw [List.all_map, List.all_filter, List.all_map]
        refine congrArg (fun f => t.all f) (funext fun q => ?_)
        simp
      rw [e2]
      exact h2
end K43
set_option Elab.async false
set_option linter.all false
set_option maxRecDepth 100000
set_option maxHeartbeats 4000000
namespace K43
open PySem PySem.Spec PyProof.Rows L2 DL
theorem l_Line_initD {cL ds G Q} (h : S_Line_initD cL ds G Q) : r_Line_initD cL (Ends1 Q) (startD N_Line_initD ds) G := by
  obtain ⟨p, x, y, rfl, hG, hq⟩ := h
  rw [show startD N_Line_initD [.ref p, x, y] = [some (.ref p), some x, some y] from rfl]
  simp only [r_Line_initD, dVar, dC, dOp, dB, dAnd, dOr, dNot, dAndV, dOrV, dNotV, dIf, dNil, dCons, dTup, dLst, dLstT, fAdd, fSub, fDiv, fMod, fPow, fMul, fCmp, fLt, fLe, fGt, fGe, fEq, fNe, fIs, fIsNot, isNonD, dNeg, dCB, on1, fLen, fTup, fLstF, fLstT, fAbs, fInt, onI2, fGcd, fMax2, fMin2, fIsi, frzOf, dSq, dRng1, dRng2, dEnum, dZip, dKeys, dVals, dItems, onK, onS, onD, onB, onKs, onY, onI, onN, dctOf, keyOf, gNm, DL.gNil, DL.gCons, gTp, gSubL, gSubD, dNx, dSeq, dBk, dCt, dDrop, dRet, dRetN, dIfS, dAsg, dPar, dPar3, dFor, dWhile, dLc, dLc2, dDc, dItemsT, dDGet, dDGet2, dApp, dPopAt, dPart, dNoPart, dSlc, fSlc, insOf, dFld, dFldS, dCall, dMeth, dMk, mkEnd, dRevT, dNever, dBits, dDictT, dDict1, fSortD, fListD, sl, wipeD, seqOf, IsLst, getFD, putFD, fIx, List.set, List.length_cons, List.length_nil, List.cons.injEq, and_true, true_and, Nat.reduceAdd, reduceCtorEq, if_true, if_false, Bool.false_eq_true, ne_eq, not_false_eq_true, ite_true, ite_false, hG, gput_same, gput_gput]
  refine ⟨by omega, by omega, hq⟩
theorem drop_get {ns : List Int} {i : Nat} (h : i < ns.length) : ns.drop i = nthZ i ns :: ns.drop (i + 1) := by
  rw [List.drop_eq_getElem_cons h]
  unfold nthZ
  rw [List.getD_eq_getElem?_getD, List.getElem?_eq_getElem h]
  rfl
theorem at_int {ns : List Int} {i : Nat} (h : i < ns.length) : atI (ns.map D.int) (i : Int) = some (.int (nthZ i ns)) := by
  refine atI_nat ?_
  rw [List.getElem?_map]
  unfold nthZ
  rw [List.getD_eq_getElem?_getD, List.getElem?_eq_getElem h]
  rfl
theorem l_Line_lead {cL ds G Q} (h : S_Line_lead cL ds G Q) : r_Line_lead cL (Ends1 Q) (startD N_Line_lead ds) G := by
  obtain ⟨ns, sh, rfl, hl, hq⟩ := h
  rw [show startD N_Line_lead [dLine cL ns sh] = [some (dLine cL ns sh), none] from rfl]
  simp only [r_Line_lead, dLine, dVar, dC, dOp, dB, dAnd, dOr, dNot, dAndV, dOrV, dNotV, dIf, dNil, dCons, dTup, dLst, dLstT, fAdd, fSub, fDiv, fMod, fPow, fMul, fCmp, fLt, fLe, fGt, fGe, fEq, fNe, fIs, fIsNot, isNonD, dNeg, dCB, on1, fLen, fTup, fLstF, fLstT, fAbs, fInt, onI2, fGcd, fMax2, fMin2, fIsi, frzOf, dSq, dRng1, dRng2, dEnum, dZip, dKeys, dVals, dItems, onK, onS, onD, onB, onKs, onY, onI, onN, dctOf, keyOf, gNm, DL.gNil, DL.gCons, gTp, gSubL, gSubD, dNx, dSeq, dBk, dCt, dDrop, dRet, dRetN, dIfS, dAsg, dPar, dPar3, dFor, dWhile, dLc, dLc2, dDc, dItemsT, dDGet, dDGet2, dApp, dPopAt, dPart, dNoPart, dSlc, fSlc, insOf, dFld, dFldS, dCall, dMeth, dMk, mkEnd, dRevT, dNever, dBits, dDictT, dDict1, fSortD, fListD, sl, wipeD, seqOf, IsLst, getFD, putFD, fIx, List.set, List.length_cons, List.length_nil, List.cons.injEq, and_true, true_and, Nat.reduceAdd, reduceCtorEq, if_true, if_false, Bool.false_eq_true, ne_eq, not_false_eq_true, ite_true, ite_false]
  refine ⟨fun m ρ G' => ∃ i : Nat, ρ = [some (dLine cL ns sh), some (.int (i : Int))] ∧ G' = G ∧ m = ns.length - i ∧ i ≤ ns.length ∧ leadZ ns = i + leadZ (ns.drop i), ⟨ns.length, 0, rfl, rfl, rfl, Nat.zero_le _, by simp⟩, ?_⟩
  rintro m ρ G' ⟨i, rfl, rfl, rfl, hi, he⟩
  simp only [dLine, dVar, dC, dOp, dB, dAnd, dOr, dNot, dAndV, dOrV, dNotV, dIf, dNil, dCons, dTup, dLst, dLstT, fAdd, fSub, fDiv, fMod, fPow, fMul, fCmp, fLt, fLe, fGt, fGe, fEq, fNe, fIs, fIsNot, isNonD, dNeg, dCB, on1, fLen, fTup, fLstF, fLstT, fAbs, fInt, onI2, fGcd, fMax2, fMin2, fIsi, frzOf, dSq, dRng1, dRng2, dEnum, dZip, dKeys, dVals, dItems, onK, onS, onD, onB, onKs, onY, onI, onN, dctOf, keyOf, gNm, DL.gNil, DL.gCons, gTp, gSubL, gSubD, dNx, dSeq, dBk, dCt, dDrop, dRet, dRetN, dIfS, dAsg, dPar, dPar3, dFor, dWhile, dLc, dLc2, dDc, dItemsT, dDGet, dDGet2, dApp, dPopAt, dPart, dNoPart, dSlc, fSlc, insOf, dFld, dFldS, dCall, dMeth, dMk, mkEnd, dRevT, dNever, dBits, dDictT, dDict1, fSortD, fListD, sl, wipeD, seqOf, IsLst, getFD, putFD, fIx, List.set, List.length_cons, List.length_nil, List.cons.injEq, and_true, true_and, Nat.reduceAdd, reduceCtorEq, if_true, if_false, Bool.false_eq_true, ne_eq, not_false_eq_true, ite_true, ite_false, List.length_map]
  by_cases h1 : i < ns.length
  · have e1 : decide ((i : Int) < (ns.length : Int)) = true := decide_eq_true (by omega)
    rw [if_pos e1, at_int h1]
    simp only [dVar, dC, dOp, dB, dAnd, dOr, dNot, dAndV, dOrV, dNotV, dIf, dNil, dCons, dTup, dLst, dLstT, fAdd, fSub, fDiv, fMod, fPow, fMul, fCmp, fLt, fLe, fGt, fGe, fEq, fNe, fIs, fIsNot, isNonD, dNeg, dCB, on1, fLen, fTup, fLstF, fLstT, fAbs, fInt, onI2, fGcd, fMax2, fMin2, fIsi, frzOf, dSq, dRng1, dRng2, dEnum, dZip, dKeys, dVals, dItems, onK, onS, onD, onB, onKs, onY, onI, onN, dctOf, keyOf, gNm, DL.gNil, DL.gCons, gTp, gSubL, gSubD, dNx, dSeq, dBk, dCt, dDrop, dRet, dRetN, dIfS, dAsg, dPar, dPar3, dFor, dWhile, dLc, dLc2, dDc, dItemsT, dDGet, dDGet2, dApp, dPopAt, dPart, dNoPart, dSlc, fSlc, insOf, dFld, dFldS, dCall, dMeth, dMk, mkEnd, dRevT, dNever, dBits, dDictT, dDict1, fSortD, fListD, sl, wipeD, seqOf, IsLst, getFD, putFD, fIx, List.set, List.length_cons, List.length_nil, List.cons.injEq, and_true, true_and, Nat.reduceAdd, reduceCtorEq, if_true, if_false, Bool.false_eq_true, ne_eq, not_false_eq_true, ite_true, ite_false]
    refine ⟨rfl, ?_⟩
    rw [deq_int]
    rw [drop_get h1] at he
    by_cases h2 : nthZ i ns = 0
    · rw [if_pos (decide_eq_true h2)]
      refine ⟨fun ρ' G2 => ρ' = [some (dLine cL ns sh), some (.int ((i + 1 : Nat) : Int))] ∧ G2 = G', ?_, rfl, rfl⟩
      rintro ρ' G2 ⟨rfl, rfl⟩
      refine ⟨ns.length - (i + 1), by omega, i + 1, rfl, rfl, rfl, h1, ?_⟩
      rw [leadZ, if_pos h2] at he
      omega
    · rw [if_neg (by rw [decide_eq_false h2]; exact Bool.false_ne_true)]
      rw [leadZ, if_neg h2] at he
      rw [he] at hq
      exact hq
  · have e1 : ¬ decide ((i : Int) < (ns.length : Int)) = true := by
      rw [decide_eq_false (by omega)]
      exact Bool.false_ne_true
    rw [if_neg e1]
    have e2 : i = ns.length := by omega
    rw [e2, List.drop_length] at he
    have e3 : leadZ ns = ns.length := he
    rw [e3] at hq
    rw [e2]
    exact hq
/-! small -/
theorem gcdL_go : ∀ (ns : List Int) (g : Nat), ns.foldl (fun g n => Nat.gcd g n.natAbs) g = Nat.gcd g (gcdL ns)
  | [], g => by show g = Nat.gcd g 0; rw [Nat.gcd_zero_right]
  | n :: r, g => by
    unfold gcdL
    rw [List.foldl_cons, List.foldl_cons, gcdL_go r, gcdL_go r, Nat.gcd_zero_left, Nat.gcd_assoc]
theorem gcdL_cons (n : Int) (r : List Int) : gcdL (n :: r) = Nat.gcd n.natAbs (gcdL r) := by
  show (n :: r).foldl (fun g n => Nat.gcd g n.natAbs) 0 = _
  rw [List.foldl_cons, gcdL_go, Nat.gcd_zero_left]
theorem gcdL_dvd : ∀ {ns : List Int} {n : Int}, n ∈ ns → (gcdL ns : Int) ∣ n
  | m :: r, n, h => by
    rw [gcdL_cons]
    rcases List.mem_cons.mp h with rfl | h
    · exact Int.ofNat_dvd_left.mpr (Nat.gcd_dvd_left ..)
    · exact Int.dvd_trans (Int.ofNat_dvd.mpr (Nat.gcd_dvd_right ..)) (gcdL_dvd h)
theorem gcdL_great : ∀ {ns : List Int} {g : Nat}, (∀ n ∈ ns, (g : Int) ∣ n) → g ∣ gcdL ns
  | [], g, _ => Nat.dvd_zero g
  | m :: r, g, h => by
    rw [gcdL_cons]
    exact Nat.dvd_gcd (Int.ofNat_dvd_left.mp (h m (by simp))) (gcdL_great fun n hn => h n (List.mem_cons_of_mem _ hn))
theorem gcdL_append (ns ms : List Int) : gcdL (ns ++ ms) = Nat.gcd (gcdL ns) (gcdL ms) := by
  unfold gcdL
  rw [List.foldl_append, gcdL_go]
  rfl
theorem sh_keys (sh : Sh) : (sh.map fun p => (Sum.inl p.1 : Key)).Nodup ↔ (sh.map (·.1)).Nodup := by
  have e : (sh.map fun p => (Sum.inl p.1 : Key)) = (sh.map (·.1)).map Sum.inl := by rw [List.map_map]; rfl
  rw [e]
  constructor
  · intro h
    exact List.Pairwise.of_map Sum.inl (fun a b hab e => hab (congrArg Sum.inl e)) h
  · intro h
    exact List.Pairwise.map Sum.inl (fun a b hab e => hab (by cases e; rfl)) h
theorem items_sh (sh : Sh) : itemsD (sh.map fun p => ((.inl p.1 : Key), D.int p.2)) = sh.map fun p => .tup [.int p.1, .int p.2] := by
  unfold itemsD
  rw [List.map_map]
  rfl
theorem vals_sh (sh : Sh) : valsD (sh.map fun p => ((.inl p.1 : Key), D.int p.2)) = (sh.map (·.2)).map D.int := by
  unfold valsD
  rw [List.map_map, List.map_map]
  rfl
theorem sn_ : (("shares" : PySem.Str) = ("numbers" : PySem.Str)) = False := eq_false (by decide)
theorem mk_line {cL : Addr} {x y : D} {G : GH} {p : Addr} {Q : DE} (hp : G p = none) (hq : Q (.ins cL [("numbers", x), ("shares", y)]) G) : S_Line_initD cL [.ref p, x, y] (gput G p (.ins cL [])) (mkEnd true cL Q p) := by
  refine ⟨p, x, y, rfl, gput_same, rfl, ?_⟩
  simp only [gput_gput, gput_same, true_and]
  rw [gdel_gput hp]
  exact hq
theorem l_Line_small {cL ds G Q} (h : S_Line_small cL ds G Q) : r_Line_small cL (Ends1 Q) (startD N_Line_small ds) G := by
  obtain ⟨ns, sh, rfl, hl, ⟨hs, hs2⟩, hb, hq⟩ := h
  rw [show startD N_Line_small [dLine cL ns sh] = [some (dLine cL ns sh), none, none, none, none] from rfl]
  simp only [r_Line_small, dVar, dC, dOp, dB, dAnd, dOr, dNot, dAndV, dOrV, dNotV, dIf, dNil, dCons, dTup, dLst, dLstT, fAdd, fSub, fDiv, fMod, fPow, fMul, fCmp, fLt, fLe, fGt, fGe, fEq, fNe, fIs, fIsNot, isNonD, dNeg, dCB, on1, fLen, fTup, fLstF, fLstT, fAbs, fInt, onI2, fGcd, fMax2, fMin2, fIsi, frzOf, dSq, dRng1, dRng2, dEnum, dZip, dKeys, dVals, dItems, onK, onS, onD, onB, onKs, onY, onI, onN, dctOf, keyOf, gNm, DL.gNil, DL.gCons, gTp, gSubL, gSubD, dNx, dSeq, dBk, dCt, dDrop, dRet, dRetN, dIfS, dAsg, dPar, dPar3, dFor, dWhile, dLc, dLc2, dDc, dItemsT, dDGet, dDGet2, dApp, dPopAt, dPart, dNoPart, dSlc, fSlc, insOf, dFld, dFldS, dCall, dMeth, dMk, mkEnd, dRevT, dNever, dBits, dDictT, dDict1, fSortD, fListD, sl, wipeD, seqOf, IsLst, getFD, putFD, fIx, dLine, dSh, vals_sh, List.set, List.length_cons, List.length_nil, List.cons.injEq, and_true, true_and, Nat.reduceAdd, reduceCtorEq, if_true, if_false, Bool.false_eq_true, ne_eq, not_false_eq_true, ite_true, ite_false]
  refine for_run (fun rest ρ G' => (∃ (d : List Int) (r : List Int) (o : Option D), d ++ r = ns ∧ rest = r.map D.int ∧ ρ = [some (dLine cL ns sh), some (.int (gcdL d : Int)), o, none, none]) ∧ G' = G) ?_ ?_ _ _ _ ⟨⟨[], ns, none, rfl, rfl, rfl⟩, rfl⟩
  · rintro ρ G' ⟨⟨d, r, o, e1, e2, rfl⟩, rfl⟩
    have er : r = [] := by
      cases r with
      | nil => rfl
      | cons _ _ => cases e2
    subst er
    rw [List.append_nil] at e1
    subst e1
    simp only [dVar, dC, dOp, dB, dAnd, dOr, dNot, dAndV, dOrV, dNotV, dIf, dNil, dCons, dTup, dLst, dLstT, fAdd, fSub, fDiv, fMod, fPow, fMul, fCmp, fLt, fLe, fGt, fGe, fEq, fNe, fIs, fIsNot, isNonD, dNeg, dCB, on1, fLen, fTup, fLstF, fLstT, fAbs, fInt, onI2, fGcd, fMax2, fMin2, fIsi, frzOf, dSq, dRng1, dRng2, dEnum, dZip, dKeys, dVals, dItems, onK, onS, onD, onB, onKs, onY, onI, onN, dctOf, keyOf, gNm, DL.gNil, DL.gCons, gTp, gSubL, gSubD, dNx, dSeq, dBk, dCt, dDrop, dRet, dRetN, dIfS, dAsg, dPar, dPar3, dFor, dWhile, dLc, dLc2, dDc, dItemsT, dDGet, dDGet2, dApp, dPopAt, dPart, dNoPart, dSlc, fSlc, insOf, dFld, dFldS, dCall, dMeth, dMk, mkEnd, dRevT, dNever, dBits, dDictT, dDict1, fSortD, fListD, sl, wipeD, seqOf, IsLst, getFD, putFD, fIx, dLine, dSh, vals_sh, List.set, List.length_cons, List.length_nil, List.cons.injEq, and_true, true_and, Nat.reduceAdd, reduceCtorEq, if_true, if_false, Bool.false_eq_true, ne_eq, not_false_eq_true, ite_true, ite_false]
    refine for_run (fun rest ρ G2 => (∃ (d' : List Int) (r : List Int) (o : Option D), d' ++ r = sh.map (·.2) ∧ rest = r.map D.int ∧ ρ = [some (dLine cL d sh), some (.int (gcdL (d ++ d') : Int)), o, none, none]) ∧ G2 = G') ?_ ?_ _ _ _ ⟨⟨[], sh.map (·.2), o, rfl, vals_sh sh, by rw [List.append_nil]; rfl⟩, rfl⟩
    · rintro ρ G2 ⟨⟨d', r, o, e1, e2, rfl⟩, rfl⟩
      have er : r = [] := by
        cases r with
        | nil => rfl
        | cons _ _ => cases e2
      subst er
      rw [List.append_nil] at e1
      subst e1
      simp only [dVar, dC, dOp, dB, dAnd, dOr, dNot, dAndV, dOrV, dNotV, dIf, dNil, dCons, dTup, dLst, dLstT, fAdd, fSub, fDiv, fMod, fPow, fMul, fCmp, fLt, fLe, fGt, fGe, fEq, fNe, fIs, fIsNot, isNonD, dNeg, dCB, on1, fLen, fTup, fLstF, fLstT, fAbs, fInt, onI2, fGcd, fMax2, fMin2, fIsi, frzOf, dSq, dRng1, dRng2, dEnum, dZip, dKeys, dVals, dItems, onK, onS, onD, onB, onKs, onY, onI, onN, dctOf, keyOf, gNm, DL.gNil, DL.gCons, gTp, gSubL, gSubD, dNx, dSeq, dBk, dCt, dDrop, dRet, dRetN, dIfS, dAsg, dPar, dPar3, dFor, dWhile, dLc, dLc2, dDc, dItemsT, dDGet, dDGet2, dApp, dPopAt, dPart, dNoPart, dSlc, fSlc, insOf, dFld, dFldS, dCall, dMeth, dMk, mkEnd, dRevT, dNever, dBits, dDictT, dDict1, fSortD, fListD, sl, wipeD, seqOf, IsLst, getFD, putFD, fIx, dLine, dSh, vals_sh, items_sh, List.set, List.length_cons, List.length_nil, List.cons.injEq, and_true, true_and, Nat.reduceAdd, reduceCtorEq, if_true, if_false, Bool.false_eq_true, ne_eq, not_false_eq_true, ite_true, ite_false]
      have eg : gcdL (d ++ sh.map (·.2)) = gcdL (allOf d sh) := rfl
      rw [eg]
      by_cases h2 : gcdL (allOf d sh) < 2
      · rw [if_pos (decide_eq_true (by omega))]
        have q := hq 1 (by rw [if_pos h2]; rfl)
        have e3 : d.map (· / (1 : Int)) = d := by
          rw [show (fun x : Int => x / 1) = id from funext fun x => Int.ediv_one x, List.map_id]
        have e4 : sh.map (fun p => (p.1, p.2 / (1 : Int))) = sh := by
          rw [show (fun p : Int × Int => (p.1, p.2 / 1)) = id from funext fun p => by rw [Int.ediv_one]; rfl, List.map_id]
        rw [e3, e4] at q
        exact q
      · rw [if_neg (by rw [decide_eq_false (by omega)]; exact Bool.false_ne_true)]
        have q := hq _ rfl
        rw [if_neg h2] at q
        have hnp : ∀ x : Int, Builtin.divisionGoesByPylong x (gcdL (allOf d sh) : Int) = false := fun x => no_pylong (by rw [Int.natAbs_natCast]; exact hb)
        have hdv : ∀ x ∈ allOf d sh, x.fdiv (gcdL (allOf d sh) : Int) = x / (gcdL (allOf d sh) : Int) := fun x hx => Int.fdiv_eq_ediv_of_dvd (gcdL_dvd hx)
        have hz : (gcdL (allOf d sh) : Int) ≠ 0 := by omega
        generalize gcdL (allOf d sh) = g at *
        intro p hp
        refine lc_mapA (fun n : Int => .int (n / (g : Int))) (lt_size hl) hp (fun n hn G3 C _ hc => ?_) ?_
        · simp only [dVar, dC, dOp, dB, dAnd, dOr, dNot, dAndV, dOrV, dNotV, dIf, dNil, dCons, dTup, dLst, dLstT, fAdd, fSub, fDiv, fMod, fPow, fMul, fCmp, fLt, fLe, fGt, fGe, fEq, fNe, fIs, fIsNot, isNonD, dNeg, dCB, on1, fLen, fTup, fLstF, fLstT, fAbs, fInt, onI2, fGcd, fMax2, fMin2, fIsi, frzOf, dSq, dRng1, dRng2, dEnum, dZip, dKeys, dVals, dItems, onK, onS, onD, onB, onKs, onY, onI, onN, dctOf, keyOf, gNm, DL.gNil, DL.gCons, gTp, gSubL, gSubD, dNx, dSeq, dBk, dCt, dDrop, dRet, dRetN, dIfS, dAsg, dPar, dPar3, dFor, dWhile, dLc, dLc2, dDc, dItemsT, dDGet, dDGet2, dApp, dPopAt, dPart, dNoPart, dSlc, fSlc, insOf, dFld, dFldS, dCall, dMeth, dMk, mkEnd, dRevT, dNever, dBits, dDictT, dDict1, fSortD, fListD, sl, wipeD, seqOf, IsLst, getFD, putFD, fIx, List.set, List.length_cons, List.length_nil, List.cons.injEq, and_true, true_and, Nat.reduceAdd, reduceCtorEq, if_true, if_false, Bool.false_eq_true, ne_eq, not_false_eq_true, ite_true, ite_false]
          refine ⟨⟨hz, hnp n⟩, ?_⟩
          rw [hdv n (List.mem_append_left _ hn)]
          exact hc
        · simp only [sn_, items_sh, List.set, List.length_cons, List.length_nil, List.cons.injEq, and_true, true_and, Nat.reduceAdd, reduceCtorEq, if_true, if_false, Bool.false_eq_true, ne_eq, not_false_eq_true, ite_true, ite_false]
          intro p hp
          refine dc_mapA (l := sh) true (fun p => (.inl p.1 : Key)) (fun p => .int (p.2 / (g : Int))) (lt_size hs2) ((sh_keys sh).mpr hs) hp (fun x hx G3 K1 _ hc => ?_) ?_
          · simp only [dVar, dC, dOp, dB, dAnd, dOr, dNot, dAndV, dOrV, dNotV, dIf, dNil, dCons, dTup, dLst, dLstT, fAdd, fSub, fDiv, fMod, fPow, fMul, fCmp, fLt, fLe, fGt, fGe, fEq, fNe, fIs, fIsNot, isNonD, dNeg, dCB, on1, fLen, fTup, fLstF, fLstT, fAbs, fInt, onI2, fGcd, fMax2, fMin2, fIsi, frzOf, dSq, dRng1, dRng2, dEnum, dZip, dKeys, dVals, dItems, onK, onS, onD, onB, onKs, onY, onI, onN, dctOf, keyOf, gNm, DL.gNil, DL.gCons, gTp, gSubL, gSubD, dNx, dSeq, dBk, dCt, dDrop, dRet, dRetN, dIfS, dAsg, dPar, dPar3, dFor, dWhile, dLc, dLc2, dDc, dItemsT, dDGet, dDGet2, dApp, dPopAt, dPart, dNoPart, dSlc, fSlc, insOf, dFld, dFldS, dCall, dMeth, dMk, mkEnd, dRevT, dNever, dBits, dDictT, dDict1, fSortD, fListD, sl, wipeD, seqOf, IsLst, getFD, putFD, fIx, List.set, List.length_cons, List.length_nil, List.cons.injEq, and_true, true_and, Nat.reduceAdd, reduceCtorEq, if_true, if_false, Bool.false_eq_true, ne_eq, not_false_eq_true, ite_true, ite_false]
            refine ⟨⟨hz, hnp x.2⟩, ?_⟩
            rw [hdv x.2 (List.mem_append_right _ (List.mem_map_of_mem hx))]
            exact hc
          · intro p hp
            refine mk_line hp ?_
            unfold dLine dSh at q
            rw [List.map_map, List.map_map] at q
            exact q
    · rintro x r ρ G2 C ⟨⟨d', r', o, e1, e2, rfl⟩, rfl⟩ hc
      cases r' with
      | nil => cases e2
      | cons n r' =>
        cases e2
        simp only [dVar, dC, dOp, dB, dAnd, dOr, dNot, dAndV, dOrV, dNotV, dIf, dNil, dCons, dTup, dLst, dLstT, fAdd, fSub, fDiv, fMod, fPow, fMul, fCmp, fLt, fLe, fGt, fGe, fEq, fNe, fIs, fIsNot, isNonD, dNeg, dCB, on1, fLen, fTup, fLstF, fLstT, fAbs, fInt, onI2, fGcd, fMax2, fMin2, fIsi, frzOf, dSq, dRng1, dRng2, dEnum, dZip, dKeys, dVals, dItems, onK, onS, onD, onB, onKs, onY, onI, onN, dctOf, keyOf, gNm, DL.gNil, DL.gCons, gTp, gSubL, gSubD, dNx, dSeq, dBk, dCt, dDrop, dRet, dRetN, dIfS, dAsg, dPar, dPar3, dFor, dWhile, dLc, dLc2, dDc, dItemsT, dDGet, dDGet2, dApp, dPopAt, dPart, dNoPart, dSlc, fSlc, insOf, dFld, dFldS, dCall, dMeth, dMk, mkEnd, dRevT, dNever, dBits, dDictT, dDict1, fSortD, fListD, sl, wipeD, seqOf, IsLst, getFD, putFD, fIx, List.set, List.length_cons, List.length_nil, List.cons.injEq, and_true, true_and, Nat.reduceAdd, reduceCtorEq, if_true, if_false, Bool.false_eq_true, ne_eq, not_false_eq_true, ite_true, ite_false]
        refine hc _ _ ⟨⟨d' ++ [n], r', some (.int n), by rw [List.append_assoc]; exact e1, rfl, ?_⟩, rfl⟩
        have e3 : gcdL (d ++ (d' ++ [n])) = Nat.gcd (gcdL (d ++ d')) n.natAbs := by
          rw [← List.append_assoc, gcdL_append, gcdL_cons]
          show Nat.gcd _ (Nat.gcd _ 0) = _
          rw [Nat.gcd_zero_right]
        rw [e3]
        rfl
  · rintro x r ρ G2 C ⟨⟨d', r', o, e1, e2, rfl⟩, rfl⟩ hc
    cases r' with
    | nil => cases e2
    | cons n r' =>
      cases e2
      simp only [dVar, dC, dOp, dB, dAnd, dOr, dNot, dAndV, dOrV, dNotV, dIf, dNil, dCons, dTup, dLst, dLstT, fAdd, fSub, fDiv, fMod, fPow, fMul, fCmp, fLt, fLe, fGt, fGe, fEq, fNe, fIs, fIsNot, isNonD, dNeg, dCB, on1, fLen, fTup, fLstF, fLstT, fAbs, fInt, onI2, fGcd, fMax2, fMin2, fIsi, frzOf, dSq, dRng1, dRng2, dEnum, dZip, dKeys, dVals, dItems, onK, onS, onD, onB, onKs, onY, onI, onN, dctOf, keyOf, gNm, DL.gNil, DL.gCons, gTp, gSubL, gSubD, dNx, dSeq, dBk, dCt, dDrop, dRet, dRetN, dIfS, dAsg, dPar, dPar3, dFor, dWhile, dLc, dLc2, dDc, dItemsT, dDGet, dDGet2, dApp, dPopAt, dPart, dNoPart, dSlc, fSlc, insOf, dFld, dFldS, dCall, dMeth, dMk, mkEnd, dRevT, dNever, dBits, dDictT, dDict1, fSortD, fListD, sl, wipeD, seqOf, IsLst, getFD, putFD, fIx, List.set, List.length_cons, List.length_nil, List.cons.injEq, and_true, true_and, Nat.reduceAdd, reduceCtorEq, if_true, if_false, Bool.false_eq_true, ne_eq, not_false_eq_true, ite_true, ite_false]
      refine hc _ _ ⟨⟨d' ++ [n], r', some (.int n), by rw [List.append_assoc]; exact e1, rfl, ?_⟩, rfl⟩
      have e3 : gcdL (d' ++ [n]) = Nat.gcd (gcdL d') n.natAbs := by
        rw [gcdL_append, gcdL_cons]
        show Nat.gcd _ (Nat.gcd _ 0) = _
        rw [Nat.gcd_zero_right]
      rw [e3]
      rfl
end K43
set_option Elab.async false
set_option linter.all false
set_option maxRecDepth 100000
set_option maxHeartbeats 4000000
namespace K43
open PySem PySem.Spec PyProof.Rows L2 DL
theorem bits_le {a : Int} {k : Nat} (h : a.natAbs < 2 ^ k) : Builtin.Int.intBits a ≤ k := by
  unfold Builtin.Int.intBits
  split
  · omega
  · rename_i e
    have := log2_lt h (by intro z; apply e; simp at *; omega)
    omega
theorem mul_ok {a b : Int} {k m : Nat} (ha : a.natAbs < 2 ^ k) (hb : b.natAbs < 2 ^ m) (h : k + m ≤ 2 ^ 27 := by decide) : IntMulOk a b := by
  have h1 := bits_le ha
  have h2 := bits_le hb
  unfold IntMulOk
  intro z
  rw [Bool.and_eq_true, Bool.and_eq_true] at z
  have z3 := z.2
  unfold Builtin.Int.intTooBig at z3
  have z4 := of_decide_eq_true z3
  have z5 : bitsLine = 2 ^ 27 := rfl
  omega
/-! shares -/
def putSh (acc : Sh) (l v : Int) : Sh := if l ∈ acc.map (·.1) then acc.map (fun p => if p.1 = l then (p.1, v) else p) else acc ++ [(l, v)]
def kd (p : Int × Int) : Key × D := (.inl p.1, .int p.2)
theorem putKD_sh (acc : Sh) (l v : Int) : putKD (acc.map kd) (.inl l) (.int v) = (putSh acc l v).map kd := by
  unfold putKD putSh
  have e : ((acc.map kd).any fun p => decide (p.1 = (Sum.inl l : Key))) = decide (l ∈ acc.map (·.1)) := by
    rw [List.any_map]
    induction acc with
    | nil => rfl
    | cons p r ih =>
      rw [List.any_cons, ih, List.map_cons]
      have e1 : ((fun p : Key × D => decide (p.1 = (Sum.inl l : Key))) ∘ kd) p = decide (l = p.1) := by
        show decide ((Sum.inl p.1 : Key) = Sum.inl l) = _
        refine decide_eq_decide.mpr ⟨fun z => by cases z; rfl, fun z => by rw [z]⟩
      rw [e1, ← Bool.decide_or]
      exact decide_eq_decide.mpr List.mem_cons.symm
  rw [e]
  by_cases h : l ∈ acc.map (·.1)
  · rw [if_pos (decide_eq_true h), if_pos h, List.map_map, List.map_map]
    refine List.map_congr_left fun p _ => ?_
    show (if (Sum.inl p.1 : Key) = Sum.inl l then ((Sum.inl p.1 : Key), D.int v) else kd p) = kd (if p.1 = l then (p.1, v) else p)
    by_cases e2 : p.1 = l
    · rw [if_pos e2, if_pos (by rw [e2])]
      rfl
    · rw [if_neg e2, if_neg (fun z => e2 (by cases z; rfl))]
  · rw [if_neg (by rw [decide_eq_false h]; exact Bool.false_ne_true), if_neg h, List.map_append]
    rfl
theorem val_sh (l : Int) : ∀ acc : Sh, (valKD (acc.map kd) (.inl l)).getD (.int 0) = .int (getZ l acc)
  | [] => rfl
  | p :: r => by
    show (if (Sum.inl p.1 : Key) = Sum.inl l then some (D.int p.2) else valKD (r.map kd) (.inl l)).getD (.int 0) = .int (if p.1 = l then p.2 else getZ l r)
    by_cases e2 : p.1 = l
    · rw [if_pos e2, if_pos (by rw [e2])]
      rfl
    · rw [if_neg e2, if_neg (fun z => e2 (by cases z; rfl))]
      exact val_sh l r
theorem getZ_out {l : Int} : ∀ {sh : Sh}, l ∉ sh.map (·.1) → getZ l sh = 0
  | [], _ => rfl
  | p :: r, h => by
    rw [getZ, if_neg (fun z => h (by rw [List.map_cons, z]; exact List.mem_cons_self ..))]
    exact getZ_out fun z => h (List.mem_cons_of_mem _ z)
theorem getZ_mem {sh : Sh} (hn : (sh.map (·.1)).Nodup) : ∀ {p : Int × Int}, p ∈ sh → getZ p.1 sh = p.2 := by
  induction sh with
  | nil => intro p h; cases h
  | cons q r ih =>
    intro p h
    rw [List.map_cons, List.nodup_cons] at hn
    rcases List.mem_cons.mp h with rfl | h
    · rw [getZ, if_pos rfl]
    · rw [getZ, if_neg fun z => hn.1 (by rw [z]; exact List.mem_map_of_mem h)]
      exact ih hn.2 h
theorem getZ_in {l : Int} : ∀ {sh : Sh}, getZ l sh ≠ 0 → ∃ v, (l, v) ∈ sh ∧ getZ l sh = v
  | [], h => absurd rfl h
  | p :: r, h => by
    unfold getZ at h ⊢
    by_cases e : p.1 = l
    · rw [if_pos e]
      exact ⟨p.2, by rw [← e]; exact List.mem_cons_self .., rfl⟩
    · rw [if_neg e] at h ⊢
      obtain ⟨v, h1, h2⟩ := getZ_in h
      exact ⟨v, List.mem_cons_of_mem _ h1, h2⟩
theorem getZ_map {f : Int → Int} (f0 : f 0 = 0) (l : Int) : ∀ sh : Sh, getZ l (sh.map fun p => (p.1, f p.2)) = f (getZ l sh)
  | [] => f0.symm
  | p :: r => by
    show (if p.1 = l then f p.2 else getZ l (r.map fun p => (p.1, f p.2))) = f (if p.1 = l then p.2 else getZ l r)
    split
    · rfl
    · exact getZ_map f0 l r
theorem getZ_filter (l : Int) : ∀ {sh : Sh}, (sh.map (·.1)).Nodup → getZ l (sh.filter fun p => !decide (p.2 = 0)) = getZ l sh
  | [], _ => rfl
  | p :: r, h => by
    rw [List.map_cons, List.nodup_cons] at h
    by_cases e : p.2 = 0
    · rw [List.filter_cons_of_neg (by simp [e]), getZ_filter l h.2]
      show getZ l r = if p.1 = l then p.2 else getZ l r
      split
      · rename_i e2
        rw [e, ← e2]
        exact getZ_out h.1
      · rfl
    · rw [List.filter_cons_of_pos (by simp [e])]
      show (if p.1 = l then p.2 else getZ l (r.filter fun p => !decide (p.2 = 0))) = if p.1 = l then p.2 else getZ l r
      rw [getZ_filter l h.2]
theorem getZ_append (l : Int) : ∀ (sh th : Sh), getZ l (sh ++ th) = if l ∈ sh.map (·.1) then getZ l sh else getZ l th
  | [], th => by simp [getZ]
  | p :: r, th => by
    show (if p.1 = l then p.2 else getZ l (r ++ th)) = if l ∈ (p :: r).map (·.1) then (if p.1 = l then p.2 else getZ l r) else getZ l th
    by_cases e : p.1 = l
    · rw [if_pos e, if_pos e, if_pos (by rw [List.map_cons, e]; exact List.mem_cons_self ..)]
    · rw [if_neg e, if_neg e, getZ_append l r th]
      have e2 : (l ∈ (p :: r).map (·.1)) ↔ l ∈ r.map (·.1) := by
        rw [List.map_cons, List.mem_cons]
        exact ⟨fun z => z.resolve_left fun z => e z.symm, .inr⟩
      by_cases e3 : l ∈ r.map (·.1)
      · rw [if_pos e3, if_pos (e2.mpr e3)]
      · rw [if_neg e3, if_neg fun z => e3 (e2.mp z)]
theorem getZ_put (k l v : Int) (acc : Sh) : getZ k (putSh acc l v) = if k = l then v else getZ k acc := by
  unfold putSh
  by_cases h : l ∈ acc.map (·.1)
  · rw [if_pos h]
    induction acc with
    | nil => cases h
    | cons p r ih =>
      rw [List.map_cons]
      by_cases e : p.1 = l
      · rw [if_pos e]
        show (if p.1 = k then v else _) = _
        by_cases ek : k = l
        · rw [if_pos ek, if_pos (by rw [e, ek])]
        · rw [if_neg ek, if_neg (fun z => ek (by rw [← z, e]))]
          show getZ k (r.map fun p => if p.1 = l then (p.1, v) else p) = if p.1 = k then p.2 else getZ k r
          rw [if_neg (fun z => ek (by rw [← z, e]))]
          by_cases hr : l ∈ r.map (·.1)
          · rw [ih hr, if_neg ek]
          · have : (r.map fun p => if p.1 = l then (p.1, v) else p) = r := by
              conv => rhs; rw [← List.map_id r]
              refine List.map_congr_left fun q hq => ?_
              rw [if_neg fun z => hr (by rw [← z]; exact List.mem_map_of_mem hq)]
              rfl
            rw [this]
      · rw [if_neg e]
        have hr : l ∈ r.map (·.1) := by
          rw [List.map_cons, List.mem_cons] at h
          exact h.resolve_left fun z => e z.symm
        show (if p.1 = k then p.2 else getZ k (r.map fun p => if p.1 = l then (p.1, v) else p)) = if k = l then v else (if p.1 = k then p.2 else getZ k r)
        rw [ih hr]
        by_cases ek : k = l
        · rw [if_pos ek, if_pos ek, if_neg fun z => e (by rw [z, ek])]
        · rw [if_neg ek, if_neg ek]
  · rw [if_neg h, getZ_append]
    by_cases ek : k = l
    · rw [if_pos ek, if_neg (by rw [ek]; exact h), ek]
      show (if l = l then v else _) = v
      rw [if_pos rfl]
    · rw [if_neg ek]
      by_cases hk : k ∈ acc.map (·.1)
      · rw [if_pos hk]
      · rw [if_neg hk, getZ_out hk]
        show (if l = k then v else 0) = 0
        rw [if_neg fun z => ek z.symm]
theorem put_keys (l v : Int) (acc : Sh) : (putSh acc l v).map (·.1) = if l ∈ acc.map (·.1) then acc.map (·.1) else acc.map (·.1) ++ [l] := by
  unfold putSh
  split
  · rw [List.map_map]
    refine List.map_congr_left fun p _ => ?_
    show (if p.1 = l then (p.1, v) else p).1 = p.1
    split <;> rfl
  · rw [List.map_append]
    rfl
theorem LabOk.put {m l v : Int} {acc : Sh} (h : LabOk m acc) (h0 : 0 ≤ l) (h1 : l < m) : LabOk m (putSh acc l v) := by
  have key : ∀ k, k ∈ (putSh acc l v).map (·.1) → 0 ≤ k ∧ k < m := by
    intro k hk
    rw [put_keys] at hk
    split at hk
    · obtain ⟨p, hp, rfl⟩ := List.mem_map.mp hk
      exact h.2 p hp
    · rcases List.mem_append.mp hk with hk | hk
      · obtain ⟨p, hp, rfl⟩ := List.mem_map.mp hk
        exact h.2 p hp
      · rw [List.mem_singleton.mp hk]
        exact ⟨h0, h1⟩
  refine ⟨?_, fun p hp => key p.1 (List.mem_map_of_mem hp)⟩
  rw [put_keys]
  split
  · exact h.1
  · rename_i hn
    rw [List.nodup_append]
    refine ⟨h.1, by simp, fun a ha b hb e => ?_⟩
    rw [List.mem_singleton.mp hb] at e
    exact hn (e ▸ ha)
/-- few, as all are below m -/
theorem few_below : ∀ (n : Nat) (l : List Int), l.Nodup → (∀ x ∈ l, 0 ≤ x ∧ x < (n : Int)) → l.length ≤ n
  | 0, [], _, _ => Nat.le_refl _
  | 0, x :: _, _, h => by
    have := h x (List.mem_cons_self ..)
    omega
  | n + 1, l, hn, h => by
    have h1 : (l.filter fun x => !decide (x = (n : Int))).length ≤ n := by
      refine few_below n _ (hn.sublist List.filter_sublist) fun x hx => ?_
      obtain ⟨h1, h2⟩ := List.mem_filter.mp hx
      have := h x h1
      have h3 : ¬ x = (n : Int) := by simpa using h2
      omega
    have h2 : l.length ≤ (l.filter fun x => !decide (x = (n : Int))).length + 1 := by
      clear h1 h
      induction l with
      | nil => simp
      | cons x r ih =>
        rw [List.nodup_cons] at hn
        by_cases e : x = (n : Int)
        · rw [List.filter_cons_of_neg (by simp [e])]
          have e2 : r.filter (fun x => !decide (x = (n : Int))) = r := by
            rw [List.filter_eq_self]
            intro y hy
            have : y ≠ (n : Int) := fun z => hn.1 (by rw [e, ← z]; exact hy)
            simp [this]
          rw [e2, List.length_cons]
          exact Nat.le_refl _
        · rw [List.filter_cons_of_pos (by simp [e]), List.length_cons, List.length_cons]
          have := ih hn.2
          omega
    omega
theorem LabOk.few {n : Nat} {sh : Sh} (h : LabOk (n : Int) sh) : sh.length ≤ n := by
  have := few_below n (sh.map (·.1)) h.1 fun x hx => by
    obtain ⟨p, hp, rfl⟩ := List.mem_map.mp hx
    exact h.2 p hp
  rw [List.length_map] at this
  exact this
theorem gcdL_lt {B : Nat} (hB : 0 < B) : ∀ {ns : List Int}, (∀ n ∈ ns, n.natAbs < B) → gcdL ns < B
  | [], _ => hB
  | n :: r, h => by
    rw [gcdL_cons]
    by_cases e : n.natAbs = 0
    · rw [e, Nat.gcd_zero_left]
      exact gcdL_lt hB fun n hn => h n (List.mem_cons_of_mem _ hn)
    · exact Nat.lt_of_le_of_lt (Nat.gcd_le_left _ (by omega)) (h n (List.mem_cons_self ..))
end K43
set_option Elab.async false
set_option linter.all false
set_option maxRecDepth 100000
set_option maxHeartbeats 4000000
namespace K43
open PySem PySem.Spec PyProof.Rows L2 DL
theorem zip_ints : ∀ ns ms : List Int, zipD (ns.map D.int) (ms.map D.int) = (ns.zip ms).map fun p => .tup [.int p.1, .int p.2]
  | [], _ => rfl
  | _ :: _, [] => rfl
  | _ :: ns, _ :: ms => congrArg _ (zip_ints ns ms)
theorem small_nth {ns : List Int} {sh : Sh} {e : Nat} (h : Small e ns sh) (i : Nat) : (nthZ i ns).natAbs < 2 ^ e := by
  unfold nthZ
  rw [List.getD_eq_getElem?_getD]
  cases g : ns[i]? with
  | none => exact Nat.two_pow_pos e
  | some v => exact h v (List.mem_append_left _ (List.mem_of_getElem? g))
theorem small_get {ns : List Int} {sh : Sh} {e : Nat} (h : Small e ns sh) (l : Int) : (getZ l sh).natAbs < 2 ^ e := by
  by_cases z : getZ l sh = 0
  · rw [z]; exact Nat.two_pow_pos e
  · obtain ⟨v, h1, h2⟩ := getZ_in z
    rw [h2]
    exact h v (List.mem_append_right _ (List.mem_map.mpr ⟨_, h1, rfl⟩))
theorem combo_lt {a b c d : Int} {k : Nat} (ha : a.natAbs < 2 ^ k) (hb : b.natAbs < 2 ^ k) (hc : c.natAbs < 2 ^ k) (hd : d.natAbs < 2 ^ k) : (a * b - c * d).natAbs < 2 ^ (2 * k + 1) := by
  have h1 : (a * b).natAbs < 2 ^ k * 2 ^ k := by rw [Int.natAbs_mul]; exact Nat.mul_lt_mul_of_lt_of_lt ha hb
  have h2 : (c * d).natAbs < 2 ^ k * 2 ^ k := by rw [Int.natAbs_mul]; exact Nat.mul_lt_mul_of_lt_of_lt hc hd
  have e : 2 ^ (2 * k + 1) = 2 ^ k * 2 ^ k + 2 ^ k * 2 ^ k := by rw [Nat.pow_succ, Nat.two_mul, Nat.pow_add]; omega
  rw [e]
  generalize 2 ^ k * 2 ^ k = N at *
  generalize a * b = x at *
  generalize c * d = y at *
  omega
/-- one share taken off -/
def offSh (by_ s : Int) (th : Sh) (sh : Sh) : Sh := th.foldl (fun acc p => putSh acc p.1 (getZ p.1 acc - s * p.2)) (sh.map fun p => (p.1, by_ * p.2))
theorem map_keys (f : Int → Int) (sh : Sh) : (sh.map fun p => (p.1, f p.2)).map (·.1) = sh.map (·.1) := by
  rw [List.map_map]
  rfl
theorem off_go (s : Int) (k : Int) : ∀ (th acc : Sh), (th.map (·.1)).Nodup → getZ k (th.foldl (fun acc p => putSh acc p.1 (getZ p.1 acc - s * p.2)) acc) = getZ k acc - s * getZ k th
  | [], acc, _ => by show getZ k acc = getZ k acc - s * 0; rw [Int.mul_zero, Int.sub_zero]
  | p :: r, acc, h => by
    rw [List.map_cons, List.nodup_cons] at h
    rw [List.foldl_cons, off_go s k r _ h.2, getZ_put]
    show _ = getZ k acc - s * (if p.1 = k then p.2 else getZ k r)
    by_cases e : k = p.1
    · rw [if_pos e, if_pos e.symm, ← e]
      have : getZ k r = 0 := getZ_out (by rw [e]; exact h.1)
      rw [this, Int.mul_zero, Int.sub_zero]
    · rw [if_neg e, if_neg fun z => e z.symm]
theorem off_lab {m : Int} (s : Int) : ∀ (th acc : Sh), LabOk m acc → (∀ p ∈ th, 0 ≤ p.1 ∧ p.1 < m) → LabOk m (th.foldl (fun acc p => putSh acc p.1 (getZ p.1 acc - s * p.2)) acc)
  | [], acc, h, _ => h
  | p :: r, acc, h, h2 => off_lab s r _ (h.put (h2 p (List.mem_cons_self ..)).1 (h2 p (List.mem_cons_self ..)).2) fun q hq => h2 q (List.mem_cons_of_mem _ hq)
theorem map_lab {m : Int} {f : Int → Int} {sh : Sh} (h : LabOk m sh) : LabOk m (sh.map fun p => (p.1, f p.2)) := by
  refine ⟨by rw [map_keys]; exact h.1, fun p hp => ?_⟩
  obtain ⟨q, hq, rfl⟩ := List.mem_map.mp hp
  exact h.2 q hq
theorem filter_lab {m : Int} {c : Int × Int → Bool} {sh : Sh} (h : LabOk m sh) : LabOk m (sh.filter c) :=
  ⟨h.1.sublist (List.filter_sublist.map _), fun p hp => h.2 p (List.mem_filter.mp hp).1⟩
def nzSh (sh : Sh) : Sh := sh.filter fun p => !decide (p.2 = 0)
def offNs (by_ s : Int) (ns ms : List Int) : List Int := (ns.zip ms).map fun p => by_ * p.1 - s * p.2
theorem offNs_nth {by_ s : Int} {ns ms : List Int} (h : ms.length = ns.length) (i : Nat) : nthZ i (offNs by_ s ns ms) = by_ * nthZ i ns - s * nthZ i ms := by
  unfold nthZ offNs
  rw [List.getD_eq_getElem?_getD, List.getD_eq_getElem?_getD, List.getD_eq_getElem?_getD, List.getElem?_map]
  by_cases hi : i < ns.length
  · have hi2 : i < ms.length := by omega
    rw [List.getElem?_eq_getElem hi, List.getElem?_eq_getElem hi2, List.getElem?_eq_getElem (by rw [List.length_zip]; omega), List.getElem_zip]
    rfl
  · rw [List.getElem?_eq_none (by omega : ns.length ≤ i), List.getElem?_eq_none (by omega : ms.length ≤ i), List.getElem?_eq_none (by rw [List.length_zip]; omega)]
    show (0 : Int) = by_ * 0 - s * 0
    rw [Int.mul_zero, Int.mul_zero, Int.sub_zero]
theorem off_small {ns ms : List Int} {sh th : Sh} {i : Nat} (hl : ms.length = ns.length) (a : Small 4400 ns sh) (b : Small 4400 ms th) (s1 : LabOk 100 sh) (s2 : LabOk 100 th) :
    ∀ n ∈ allOf (offNs (nthZ i ms) (nthZ i ns) ns ms) (nzSh (offSh (nthZ i ms) (nthZ i ns) th sh)), n.natAbs < 2 ^ 8801 := by
  intro n hn
  rcases List.mem_append.mp hn with hn | hn
  · obtain ⟨p, hp, rfl⟩ := List.mem_map.mp hn
    obtain ⟨h1, h2⟩ := List.of_mem_zip hp
    exact combo_lt (small_nth b i) (a _ (List.mem_append_left _ h1)) (small_nth a i) (b _ (List.mem_append_left _ h2))
  · obtain ⟨p, hp, rfl⟩ := List.mem_map.mp hn
    have hp := (List.mem_filter.mp hp).1
    have hL : LabOk 100 (offSh (nthZ i ms) (nthZ i ns) th sh) := off_lab _ _ _ (map_lab (f := fun x => nthZ i ms * x) s1) s2.2
    rw [← getZ_mem hL.1 hp]
    unfold offSh
    rw [off_go _ _ _ _ s2.1, getZ_map (f := fun x => nthZ i ms * x) (Int.mul_zero _)]
    exact combo_lt (small_nth b i) (small_get a _) (small_nth a i) (small_get b _)
theorem nth_div (g : Int) (j : Nat) (ns : List Int) : nthZ j (ns.map (· / g)) = nthZ j ns / g := by
  unfold nthZ
  rw [List.getD_eq_getElem?_getD, List.getD_eq_getElem?_getD, List.getElem?_map]
  cases ns[j]? with
  | none => exact (Int.zero_ediv g).symm
  | some v => rfl
theorem nth_mem (j : Nat) (ns : List Int) : nthZ j ns ∈ ns ∨ nthZ j ns = 0 := by
  unfold nthZ
  rw [List.getD_eq_getElem?_getD]
  cases h : ns[j]? with
  | none => exact .inr rfl
  | some v => exact .inl (List.mem_of_getElem? h)
/-- what small makes of it is less -/
theorem less_of {ns ms : List Int} {sh th : Sh} {i : Nat} (hl : ms.length = ns.length) (s1 : LabOk 100 sh) (s2 : LabOk 100 th) {g : Int}
    (hg : g = (if gcdL (allOf (offNs (nthZ i ms) (nthZ i ns) ns ms) (nzSh (offSh (nthZ i ms) (nthZ i ns) th sh))) < 2 then 1 else gcdL (allOf (offNs (nthZ i ms) (nthZ i ns) ns ms) (nzSh (offSh (nthZ i ms) (nthZ i ns) th sh))) : Nat)) :
    Less ns ms sh th i ((offNs (nthZ i ms) (nthZ i ns) ns ms).map (· / g)) ((nzSh (offSh (nthZ i ms) (nthZ i ns) th sh)).map fun p => (p.1, p.2 / g)) := by
  have hL : LabOk 100 (offSh (nthZ i ms) (nthZ i ns) th sh) := off_lab _ _ _ (map_lab (f := fun x => nthZ i ms * x) s1) s2.2
  have gz : ∀ l, getZ l (nzSh (offSh (nthZ i ms) (nthZ i ns) th sh)) = nthZ i ms * getZ l sh - nthZ i ns * getZ l th := fun l => by
    unfold nzSh
    rw [getZ_filter l hL.1]
    unfold offSh
    rw [off_go _ _ _ _ s2.1, getZ_map (f := fun x => nthZ i ms * x) (Int.mul_zero _)]
  have gpos : 0 < g := by
    rw [hg]
    split <;> omega
  have gd : ∀ n ∈ allOf (offNs (nthZ i ms) (nthZ i ns) ns ms) (nzSh (offSh (nthZ i ms) (nthZ i ns) th sh)), g ∣ n := fun n hn => by
    rw [hg]
    split
    · exact Int.one_dvd n
    · exact gcdL_dvd hn
  refine ⟨⟨g, gpos, fun j => ?_, fun l => ?_⟩, by rw [List.length_map]; unfold offNs; rw [List.length_map, List.length_zip]; omega, ?_, fun m h1 h2 => map_lab (f := fun x => x / g) (filter_lab (off_lab _ _ _ (map_lab (f := fun x => nthZ i ms * x) h1) h2.2))⟩
  · rw [nth_div, ← offNs_nth hl]
    refine Int.mul_ediv_cancel' ?_
    rcases nth_mem j (offNs (nthZ i ms) (nthZ i ns) ns ms) with h | h
    · exact gd _ (List.mem_append_left _ h)
    · rw [h]
      exact Int.dvd_zero g
  · rw [getZ_map (f := fun x => x / g) (Int.zero_ediv g), gz]
    refine Int.mul_ediv_cancel' ?_
    rw [← gz]
    by_cases z : getZ l (nzSh (offSh (nthZ i ms) (nthZ i ns) th sh)) = 0
    · rw [z]; exact Int.dvd_zero g
    · obtain ⟨v, h1, h2⟩ := getZ_in z
      rw [h2]
      exact gd v (List.mem_append_right _ (List.mem_map.mpr ⟨_, h1, rfl⟩))
  · have e : allOf ((offNs (nthZ i ms) (nthZ i ns) ns ms).map (· / g)) ((nzSh (offSh (nthZ i ms) (nthZ i ns) th sh)).map fun p => (p.1, p.2 / g)) = (allOf (offNs (nthZ i ms) (nthZ i ns) ns ms) (nzSh (offSh (nthZ i ms) (nthZ i ns) th sh))).map (· / g) := by
      unfold allOf
      rw [List.map_append, List.map_map, List.map_map]
      rfl
    rw [e]
    generalize allOf (offNs (nthZ i ms) (nthZ i ns) ns ms) (nzSh (offSh (nthZ i ms) (nthZ i ns) th sh)) = xs at *
    by_cases h2 : gcdL xs < 2
    · rw [if_pos h2] at hg
      have : g = 1 := hg
      rw [this, show (fun x : Int => x / 1) = id from funext fun x => Int.ediv_one x, List.map_id]
      omega
    · rw [if_neg h2] at hg
      have h3 : gcdL (xs.map (· / g)) * gcdL xs ∣ gcdL xs := gcdL_great fun n hn => by
        have h4 := gcdL_dvd (List.mem_map_of_mem (f := (· / g)) hn)
        obtain ⟨c, hc⟩ := h4
        have h5 : n = g * (n / g) := (Int.mul_ediv_cancel' (gd n hn)).symm
        refine ⟨c, ?_⟩
        rw [h5]
        have h6 : n / g = (gcdL (xs.map (· / g)) : Int) * c := hc
        rw [h6, Int.natCast_mul, ← hg, Int.mul_comm (gcdL (xs.map (· / g)) : Int) g, Int.mul_assoc]
      have h7 := Nat.le_of_dvd (by omega) h3
      have h8 : 0 < gcdL xs := by omega
      have h9 : gcdL (xs.map (· / g)) * gcdL xs ≤ 1 * gcdL xs := by omega
      exact Nat.le_of_mul_le_mul_right h9 h8
theorem items_kd (sh : Sh) : itemsD (sh.map kd) = sh.map fun p => .tup [.int p.1, .int p.2] := items_sh sh
theorem l_Line_less {cL ds G Q} (h : S_Line_less cL ds G Q) : r_Line_less cL (Ends1 Q) (startD N_Line_less ds) G := by
  obtain ⟨ns, ms, sh, th, i, rfl, hl, hm, hi, s1, s2, a, b, hq⟩ := h
  rw [show startD N_Line_less [dLine cL ns sh, dLine cL ms th, .int i] = [some (dLine cL ns sh), some (dLine cL ms th), some (.int i), none, none, none, none, none, none, none, none] from rfl]
  have hi2 : i < ms.length := by omega
  have f1 : sh.length ≤ 100 := s1.few (n := 100)
  have f2 : th.length ≤ 100 := s2.few (n := 100)
  simp only [r_Line_less, dVar, dC, dOp, dB, dAnd, dOr, dNot, dAndV, dOrV, dNotV, dIf, dNil, dCons, dTup, dLst, dLstT, fAdd, fSub, fDiv, fMod, fPow, fMul, fCmp, fLt, fLe, fGt, fGe, fEq, fNe, fIs, fIsNot, isNonD, dNeg, dCB, on1, fLen, fTup, fLstF, fLstT, fAbs, fInt, onI2, fGcd, fMax2, fMin2, fIsi, frzOf, dSq, dRng1, dRng2, dEnum, dZip, dKeys, dVals, dItems, onK, onS, onD, onB, onKs, onY, onI, onN, dctOf, keyOf, gNm, DL.gNil, DL.gCons, gTp, gSubL, gSubD, dNx, dSeq, dBk, dCt, dDrop, dRet, dRetN, dIfS, dAsg, dPar, dPar3, dFor, dWhile, dLc, dLc2, dDc, dItemsT, dDGet, dDGet2, dApp, dPopAt, dPart, dNoPart, dSlc, fSlc, insOf, dFld, dFldS, dCall, dMeth, dMk, mkEnd, dRevT, dNever, dBits, dDictT, dDict1, fSortD, fListD, sl, wipeD, seqOf, IsLst, getFD, putFD, fIx, dLine, dSh, at_int hi, at_int hi2, zip_ints, sn_, List.set, List.length_cons, List.length_nil, List.cons.injEq, and_true, true_and, Nat.reduceAdd, reduceCtorEq, if_true, if_false, Bool.false_eq_true, ne_eq, not_false_eq_true, ite_true, ite_false]
  refine ⟨lt_size (by omega), fun p hp => ?_⟩
  refine lc_mapA (fun p : Int × Int => .int (nthZ i ms * p.1 - nthZ i ns * p.2)) (lt_size (by rw [List.length_zip]; omega)) hp (fun q hq' G3 C _ hc => ?_) ?_
  · obtain ⟨h1, h2⟩ := List.of_mem_zip hq'
    simp only [dVar, dC, dOp, dB, dAnd, dOr, dNot, dAndV, dOrV, dNotV, dIf, dNil, dCons, dTup, dLst, dLstT, fAdd, fSub, fDiv, fMod, fPow, fMul, fCmp, fLt, fLe, fGt, fGe, fEq, fNe, fIs, fIsNot, isNonD, dNeg, dCB, on1, fLen, fTup, fLstF, fLstT, fAbs, fInt, onI2, fGcd, fMax2, fMin2, fIsi, frzOf, dSq, dRng1, dRng2, dEnum, dZip, dKeys, dVals, dItems, onK, onS, onD, onB, onKs, onY, onI, onN, dctOf, keyOf, gNm, DL.gNil, DL.gCons, gTp, gSubL, gSubD, dNx, dSeq, dBk, dCt, dDrop, dRet, dRetN, dIfS, dAsg, dPar, dPar3, dFor, dWhile, dLc, dLc2, dDc, dItemsT, dDGet, dDGet2, dApp, dPopAt, dPart, dNoPart, dSlc, fSlc, insOf, dFld, dFldS, dCall, dMeth, dMk, mkEnd, dRevT, dNever, dBits, dDictT, dDict1, fSortD, fListD, sl, wipeD, seqOf, IsLst, getFD, putFD, fIx, List.set, List.length_cons, List.length_nil, List.cons.injEq, and_true, true_and, Nat.reduceAdd, reduceCtorEq, if_true, if_false, Bool.false_eq_true, ne_eq, not_false_eq_true, ite_true, ite_false]
    exact ⟨mul_ok (small_nth b i) (a _ (List.mem_append_left _ h1)), mul_ok (small_nth a i) (b _ (List.mem_append_left _ h2)), hc⟩
  intro p hp
  simp only [items_sh]
  refine dc_mapA (l := sh) false (fun q => (.inl q.1 : Key)) (fun q => .int (nthZ i ms * q.2)) (lt_size (by omega)) ((sh_keys sh).mpr s1.1) hp (fun x hx G3 K1 _ hc => ?_) ?_
  · simp only [dVar, dC, dOp, dB, dAnd, dOr, dNot, dAndV, dOrV, dNotV, dIf, dNil, dCons, dTup, dLst, dLstT, fAdd, fSub, fDiv, fMod, fPow, fMul, fCmp, fLt, fLe, fGt, fGe, fEq, fNe, fIs, fIsNot, isNonD, dNeg, dCB, on1, fLen, fTup, fLstF, fLstT, fAbs, fInt, onI2, fGcd, fMax2, fMin2, fIsi, frzOf, dSq, dRng1, dRng2, dEnum, dZip, dKeys, dVals, dItems, onK, onS, onD, onB, onKs, onY, onI, onN, dctOf, keyOf, gNm, DL.gNil, DL.gCons, gTp, gSubL, gSubD, dNx, dSeq, dBk, dCt, dDrop, dRet, dRetN, dIfS, dAsg, dPar, dPar3, dFor, dWhile, dLc, dLc2, dDc, dItemsT, dDGet, dDGet2, dApp, dPopAt, dPart, dNoPart, dSlc, fSlc, insOf, dFld, dFldS, dCall, dMeth, dMk, mkEnd, dRevT, dNever, dBits, dDictT, dDict1, fSortD, fListD, sl, wipeD, seqOf, IsLst, getFD, putFD, fIx, List.set, List.length_cons, List.length_nil, List.cons.injEq, and_true, true_and, Nat.reduceAdd, reduceCtorEq, if_true, if_false, Bool.false_eq_true, ne_eq, not_false_eq_true, ite_true, ite_false]
    exact ⟨mul_ok (small_nth b i) (a _ (List.mem_append_right _ (List.mem_map_of_mem hx))), hc⟩
  refine for_run (fun rest ρ G' => ∃ (d r : Sh) (o1 o2 : Option D), d ++ r = th ∧ rest = r.map (fun p => .tup [.int p.1, .int p.2]) ∧
    ρ = [some (dLine cL ns sh), some (dLine cL ms th), some (.int i), some (.int (nthZ i ms)), some (.int (nthZ i ns)), some (.lst ((offNs (nthZ i ms) (nthZ i ns) ns ms).map D.int)), some (.ref p), o1, o2, none, none] ∧
    G' = gput G p (.dct ((offSh (nthZ i ms) (nthZ i ns) d sh).map kd))) ?_ ?_ _ _ _ ⟨[], th, none, none, rfl, rfl, ?_, ?_⟩
  · rintro ρ G' ⟨d, r, o1, o2, e1, e2, rfl, rfl⟩
    have er : r = [] := by
      cases r with
      | nil => rfl
      | cons _ _ => cases e2
    subst er
    rw [List.append_nil] at e1
    subst e1
    simp only [dVar, dC, dOp, dB, dAnd, dOr, dNot, dAndV, dOrV, dNotV, dIf, dNil, dCons, dTup, dLst, dLstT, fAdd, fSub, fDiv, fMod, fPow, fMul, fCmp, fLt, fLe, fGt, fGe, fEq, fNe, fIs, fIsNot, isNonD, dNeg, dCB, on1, fLen, fTup, fLstF, fLstT, fAbs, fInt, onI2, fGcd, fMax2, fMin2, fIsi, frzOf, dSq, dRng1, dRng2, dEnum, dZip, dKeys, dVals, dItems, onK, onS, onD, onB, onKs, onY, onI, onN, dctOf, keyOf, gNm, DL.gNil, DL.gCons, gTp, gSubL, gSubD, dNx, dSeq, dBk, dCt, dDrop, dRet, dRetN, dIfS, dAsg, dPar, dPar3, dFor, dWhile, dLc, dLc2, dDc, dItemsT, dDGet, dDGet2, dApp, dPopAt, dPart, dNoPart, dSlc, fSlc, insOf, dFld, dFldS, dCall, dMeth, dMk, mkEnd, dRevT, dNever, dBits, dDictT, dDict1, fSortD, fListD, sl, wipeD, seqOf, IsLst, getFD, putFD, fIx, List.set, List.length_cons, List.length_nil, List.cons.injEq, and_true, true_and, Nat.reduceAdd, reduceCtorEq, if_true, if_false, Bool.false_eq_true, ne_eq, not_false_eq_true, ite_true, ite_false, gput_same, items_kd, gdel_gput hp]
    have hL : LabOk 100 (offSh (nthZ i ms) (nthZ i ns) d sh) := off_lab _ _ _ (map_lab (f := fun x => nthZ i ms * x) s1) s2.2
    have hs := off_small (i := i) hm a b s1 s2
    intro p2 hp2
    refine dc_fmA (l := offSh (nthZ i ms) (nthZ i ns) d sh) (fun q => !decide (q.2 = 0)) (fun q => (.inl q.1 : Key)) (fun q => .int q.2) (lt_size (Nat.le_trans (LabOk.few (n := 100) hL) (by omega))) ((sh_keys _).mpr (filter_lab hL).1) hp2 (fun x hx G3 K1 K0 _ hc => ?_) ?_
    · simp only [dVar, dC, dOp, dB, dAnd, dOr, dNot, dAndV, dOrV, dNotV, dIf, dNil, dCons, dTup, dLst, dLstT, fAdd, fSub, fDiv, fMod, fPow, fMul, fCmp, fLt, fLe, fGt, fGe, fEq, fNe, fIs, fIsNot, isNonD, dNeg, dCB, on1, fLen, fTup, fLstF, fLstT, fAbs, fInt, onI2, fGcd, fMax2, fMin2, fIsi, frzOf, dSq, dRng1, dRng2, dEnum, dZip, dKeys, dVals, dItems, onK, onS, onD, onB, onKs, onY, onI, onN, dctOf, keyOf, gNm, DL.gNil, DL.gCons, gTp, gSubL, gSubD, dNx, dSeq, dBk, dCt, dDrop, dRet, dRetN, dIfS, dAsg, dPar, dPar3, dFor, dWhile, dLc, dLc2, dDc, dItemsT, dDGet, dDGet2, dApp, dPopAt, dPart, dNoPart, dSlc, fSlc, insOf, dFld, dFldS, dCall, dMeth, dMk, mkEnd, dRevT, dNever, dBits, dDictT, dDict1, fSortD, fListD, sl, wipeD, seqOf, IsLst, getFD, putFD, fIx, List.set, List.length_cons, List.length_nil, List.cons.injEq, and_true, true_and, Nat.reduceAdd, reduceCtorEq, if_true, if_false, Bool.false_eq_true, ne_eq, not_false_eq_true, ite_true, ite_false, deq_int]
      exact ⟨rfl, hc⟩
    · intro p3 hp3
      refine mk_line hp3 ⟨⟨rfl, rfl⟩, ?_⟩
      refine ⟨_, nzSh (offSh (nthZ i ms) (nthZ i ns) d sh), rfl, ?_, ⟨(filter_lab hL).1, Nat.le_trans (LabOk.few (n := 100) (filter_lab hL)) (by omega)⟩, ?_, fun g hg => ?_⟩
      · unfold offNs
        rw [List.length_map, List.length_zip]
        omega
      · exact Nat.lt_of_lt_of_le (gcdL_lt (Nat.two_pow_pos 8801) hs) (Nat.pow_le_pow_right (by omega) (by omega))
      · exact hq _ _ (less_of hm s1 s2 hg)
  · rintro x r ρ G' C ⟨d, r', o1, o2, e1, e2, rfl, rfl⟩ hc
    cases r' with
    | nil => cases e2
    | cons q r' =>
      cases e2
      have hq' : q ∈ th := by rw [← e1]; exact List.mem_append_right _ (List.mem_cons_self ..)
      have hd : ∀ p ∈ d, 0 ≤ p.1 ∧ p.1 < 100 := fun p hp => s2.2 p (by rw [← e1]; exact List.mem_append_left _ hp)
      have hL : LabOk 100 (offSh (nthZ i ms) (nthZ i ns) d sh) := off_lab _ _ _ (map_lab (f := fun x => nthZ i ms * x) s1) hd
      have hf := LabOk.few (n := 100) hL
      simp only [dVar, dC, dOp, dB, dAnd, dOr, dNot, dAndV, dOrV, dNotV, dIf, dNil, dCons, dTup, dLst, dLstT, fAdd, fSub, fDiv, fMod, fPow, fMul, fCmp, fLt, fLe, fGt, fGe, fEq, fNe, fIs, fIsNot, isNonD, dNeg, dCB, on1, fLen, fTup, fLstF, fLstT, fAbs, fInt, onI2, fGcd, fMax2, fMin2, fIsi, frzOf, dSq, dRng1, dRng2, dEnum, dZip, dKeys, dVals, dItems, onK, onS, onD, onB, onKs, onY, onI, onN, dctOf, keyOf, gNm, DL.gNil, DL.gCons, gTp, gSubL, gSubD, dNx, dSeq, dBk, dCt, dDrop, dRet, dRetN, dIfS, dAsg, dPar, dPar3, dFor, dWhile, dLc, dLc2, dDc, dItemsT, dDGet, dDGet2, dApp, dPopAt, dPart, dNoPart, dSlc, fSlc, insOf, dFld, dFldS, dCall, dMeth, dMk, mkEnd, dRevT, dNever, dBits, dDictT, dDict1, fSortD, fListD, sl, wipeD, seqOf, IsLst, getFD, putFD, fIx, List.set, List.length_cons, List.length_nil, List.cons.injEq, and_true, true_and, Nat.reduceAdd, reduceCtorEq, if_true, if_false, Bool.false_eq_true, ne_eq, not_false_eq_true, ite_true, ite_false, gput_same, val_sh]
      refine ⟨mul_ok (small_nth a i) (b _ (List.mem_append_right _ (List.mem_map_of_mem hq'))), ?_, ?_⟩
      · rw [List.length_map, sizeLine_eq]
        omega
      · rw [putKD_sh, gput_gput]
        refine hc _ _ ⟨d ++ [q], r', some (.int q.1), some (.int q.2), by rw [List.append_assoc]; exact e1, rfl, rfl, ?_⟩
        unfold offSh
        rw [List.foldl_append]
        rfl
  · unfold offNs dLine dSh
    rw [List.map_map]
    rfl
  · unfold offSh
    rw [List.foldl_nil, List.map_map]
    rfl
end K43
set_option Elab.async false
set_option linter.all false
set_option maxRecDepth 100000
set_option maxHeartbeats 4000000
namespace K43
open PySem PySem.Spec PyProof.Rows L2 DL
def lcmD (r : List Rat) : Nat := r.foldl (fun u q => Nat.lcm u q.den) 1
theorem lcmD_snoc (r : List Rat) (q : Rat) : lcmD (r ++ [q]) = Nat.lcm (lcmD r) q.den := by
  unfold lcmD
  rw [List.foldl_append]
  rfl
theorem lcm_go : ∀ (r : List Rat) (u m : Nat), u ∣ m → (∀ q ∈ r, q.den ∣ m) → r.foldl (fun u q => Nat.lcm u q.den) u ∣ m
  | [], u, m, h, _ => h
  | q :: r, u, m, h, h2 => lcm_go r _ m (Nat.lcm_dvd h (h2 q (List.mem_cons_self ..))) fun x hx => h2 x (List.mem_cons_of_mem _ hx)
theorem lcmD_dvd {r : List Rat} {m : Nat} (h : ∀ q ∈ r, q.den ∣ m) : lcmD r ∣ m := lcm_go r 1 m (Nat.one_dvd m) h
theorem lcm_up : ∀ (r : List Rat) (u : Nat), u ∣ r.foldl (fun u q => Nat.lcm u q.den) u ∧ ∀ q ∈ r, q.den ∣ r.foldl (fun u q => Nat.lcm u q.den) u
  | [], u => ⟨Nat.dvd_refl u, fun _ h => nomatch h⟩
  | q :: r, u => by
    obtain ⟨h1, h2⟩ := lcm_up r (Nat.lcm u q.den)
    refine ⟨Nat.dvd_trans (Nat.dvd_lcm_left ..) h1, fun x hx => ?_⟩
    rcases List.mem_cons.mp hx with rfl | hx
    · exact Nat.dvd_trans (Nat.dvd_lcm_right ..) h1
    · exact h2 x hx
theorem den_lcmD {r : List Rat} {q : Rat} (h : q ∈ r) : q.den ∣ lcmD r := (lcm_up r 1).2 q h
theorem lcmD_pos (r : List Rat) : 0 < lcmD r := by
  have go : ∀ (r : List Rat) (u : Nat), 0 < u → 0 < r.foldl (fun u q => Nat.lcm u q.den) u := by
    intro r
    induction r with
    | nil => intro u h; exact h
    | cons q r ih => intro u h; exact ih _ (Nat.lcm_pos h q.den_pos)
  exact go r 1 (by omega)
theorem lcm_step (u d : Nat) (hd : 0 < d) : ((u : Int) * (d : Int)).fdiv ((Nat.gcd u d : Nat) : Int) = ((Nat.lcm u d : Nat) : Int) := by
  have h : ((Nat.gcd u d : Nat) : Int) ∣ (u : Int) * (d : Int) := by
    rw [← Int.natCast_mul]
    exact Int.natCast_dvd_natCast.mpr (Nat.dvd_trans (Nat.gcd_dvd_left u d) (Nat.dvd_mul_right u d))
  rw [Int.fdiv_eq_ediv_of_dvd h, ← Int.natCast_mul, ← Int.natCast_ediv]
  rfl
theorem l_line_of {cL ds G Q} (h : S_line_of cL ds G Q) : r_line_of cL (Ends1 Q) (startD N_line_of ds) G := by
  obtain ⟨r, label, M, rfl, hl, hM, hM2, hd, hq⟩ := h
  rw [show startD N_line_of [dRow r, .int label] = [some (dRow r), some (.int label), none, none] from rfl]
  have hle : ∀ {u : Nat}, u ∣ M → u < 2 ^ 4400 := fun h => Nat.lt_of_le_of_lt (Nat.le_of_dvd hM h) hM2
  simp only [r_line_of, dRow, dVar, dC, dOp, dB, dAnd, dOr, dNot, dAndV, dOrV, dNotV, dIf, dNil, dCons, dTup, dLst, dLstT, fAdd, fSub, fDiv, fMod, fPow, fMul, fCmp, fLt, fLe, fGt, fGe, fEq, fNe, fIs, fIsNot, isNonD, dNeg, dCB, on1, fLen, fTup, fLstF, fLstT, fAbs, fInt, onI2, fGcd, fMax2, fMin2, fIsi, frzOf, dSq, dRng1, dRng2, dEnum, dZip, dKeys, dVals, dItems, onK, onS, onD, onB, onKs, onY, onI, onN, dctOf, keyOf, gNm, DL.gNil, DL.gCons, gTp, gSubL, gSubD, dNx, dSeq, dBk, dCt, dDrop, dRet, dRetN, dIfS, dAsg, dPar, dPar3, dFor, dWhile, dLc, dLc2, dDc, dItemsT, dDGet, dDGet2, dApp, dPopAt, dPart, dNoPart, dSlc, fSlc, insOf, dFld, dFldS, dCall, dMeth, dMk, mkEnd, dRevT, dNever, dBits, dDictT, dDict1, fSortD, fListD, sl, wipeD, seqOf, IsLst, getFD, putFD, fIx, List.set, List.length_cons, List.length_nil, List.cons.injEq, and_true, true_and, Nat.reduceAdd, reduceCtorEq, if_true, if_false, Bool.false_eq_true, ne_eq, not_false_eq_true, ite_true, ite_false]
  refine for_run (fun rest ρ G' => ∃ (d r' : List Rat) (o : Option D), d ++ r' = r ∧ rest = r'.map dQ ∧ ρ = [some (dRow r), some (.int label), some (.int (lcmD d : Int)), o] ∧ G' = G) ?_ ?_ _ _ _ ⟨[], r, none, rfl, rfl, rfl, rfl⟩
  · rintro ρ G' ⟨d, r', o, e1, e2, rfl, rfl⟩
    have er : r' = [] := by
      cases r' with
      | nil => rfl
      | cons _ _ => cases e2
    subst er
    rw [List.append_nil] at e1
    subst e1
    simp only [dRow, dVar, dC, dOp, dB, dAnd, dOr, dNot, dAndV, dOrV, dNotV, dIf, dNil, dCons, dTup, dLst, dLstT, fAdd, fSub, fDiv, fMod, fPow, fMul, fCmp, fLt, fLe, fGt, fGe, fEq, fNe, fIs, fIsNot, isNonD, dNeg, dCB, on1, fLen, fTup, fLstF, fLstT, fAbs, fInt, onI2, fGcd, fMax2, fMin2, fIsi, frzOf, dSq, dRng1, dRng2, dEnum, dZip, dKeys, dVals, dItems, onK, onS, onD, onB, onKs, onY, onI, onN, dctOf, keyOf, gNm, DL.gNil, DL.gCons, gTp, gSubL, gSubD, dNx, dSeq, dBk, dCt, dDrop, dRet, dRetN, dIfS, dAsg, dPar, dPar3, dFor, dWhile, dLc, dLc2, dDc, dItemsT, dDGet, dDGet2, dApp, dPopAt, dPart, dNoPart, dSlc, fSlc, insOf, dFld, dFldS, dCall, dMeth, dMk, mkEnd, dRevT, dNever, dBits, dDictT, dDict1, fSortD, fListD, sl, wipeD, seqOf, IsLst, getFD, putFD, fIx, List.set, List.length_cons, List.length_nil, List.cons.injEq, and_true, true_and, Nat.reduceAdd, reduceCtorEq, if_true, if_false, Bool.false_eq_true, ne_eq, not_false_eq_true, ite_true, ite_false]
    intro p hp
    have hu : lcmD d ∣ M := lcmD_dvd fun q h => (hd q h).1
    refine lc_mapA (fun q : Rat => .int (q.num * ((lcmD d / q.den : Nat) : Int))) (lt_size (by omega)) hp (fun q hq' G3 C _ hc => ?_) ?_
    · simp only [dQ, dVar, dC, dOp, dB, dAnd, dOr, dNot, dAndV, dOrV, dNotV, dIf, dNil, dCons, dTup, dLst, dLstT, fAdd, fSub, fDiv, fMod, fPow, fMul, fCmp, fLt, fLe, fGt, fGe, fEq, fNe, fIs, fIsNot, isNonD, dNeg, dCB, on1, fLen, fTup, fLstF, fLstT, fAbs, fInt, onI2, fGcd, fMax2, fMin2, fIsi, frzOf, dSq, dRng1, dRng2, dEnum, dZip, dKeys, dVals, dItems, onK, onS, onD, onB, onKs, onY, onI, onN, dctOf, keyOf, gNm, DL.gNil, DL.gCons, gTp, gSubL, gSubD, dNx, dSeq, dBk, dCt, dDrop, dRet, dRetN, dIfS, dAsg, dPar, dPar3, dFor, dWhile, dLc, dLc2, dDc, dItemsT, dDGet, dDGet2, dApp, dPopAt, dPart, dNoPart, dSlc, fSlc, insOf, dFld, dFldS, dCall, dMeth, dMk, mkEnd, dRevT, dNever, dBits, dDictT, dDict1, fSortD, fListD, sl, wipeD, seqOf, IsLst, getFD, putFD, fIx, List.set, List.length_cons, List.length_nil, List.cons.injEq, and_true, true_and, Nat.reduceAdd, reduceCtorEq, if_true, if_false, Bool.false_eq_true, ne_eq, not_false_eq_true, ite_true, ite_false, at0, at1]
      have hden := den_lcmD hq'
      have e3 : ((lcmD d : Nat) : Int).fdiv (q.den : Int) = ((lcmD d / q.den : Nat) : Int) := by
        rw [Int.fdiv_eq_ediv_of_dvd (Int.natCast_dvd_natCast.mpr hden), Int.natCast_ediv]
      rw [e3]
      refine ⟨⟨by have := q.den_pos; omega, no_pylong (by rw [Int.natAbs_natCast]; exact Nat.lt_of_lt_of_le (hle (hd q hq').1) (Nat.pow_le_pow_right (by omega) (by omega)))⟩, mul_ok (hd q hq').2 (m := 4400) ?_, hc⟩
      rw [Int.natAbs_natCast]
      exact Nat.lt_of_le_of_lt (Nat.div_le_self ..) (hle hu)
    · intro p2 hp2
      refine ⟨gput_same, ?_⟩
      rw [gdel_gput hp2]
      intro p3 hp3
      refine mk_line hp3 ?_
      have q := hq (lcmD d) (lcmD_pos d) (fun q h => den_lcmD h) (fun m h => lcmD_dvd h)
      unfold dLine dSh at q
      rw [List.map_map] at q
      exact q
  · rintro x rest ρ G' C ⟨d, r', o, e1, e2, rfl, rfl⟩ hc
    cases r' with
    | nil => cases e2
    | cons q r' =>
      cases e2
      have hq' : q ∈ r := by rw [← e1]; exact List.mem_append_right _ (List.mem_cons_self ..)
      have hu : lcmD d ∣ M := lcmD_dvd fun x h => (hd x (by rw [← e1]; exact List.mem_append_left _ h)).1
      simp only [dQ, dVar, dC, dOp, dB, dAnd, dOr, dNot, dAndV, dOrV, dNotV, dIf, dNil, dCons, dTup, dLst, dLstT, fAdd, fSub, fDiv, fMod, fPow, fMul, fCmp, fLt, fLe, fGt, fGe, fEq, fNe, fIs, fIsNot, isNonD, dNeg, dCB, on1, fLen, fTup, fLstF, fLstT, fAbs, fInt, onI2, fGcd, fMax2, fMin2, fIsi, frzOf, dSq, dRng1, dRng2, dEnum, dZip, dKeys, dVals, dItems, onK, onS, onD, onB, onKs, onY, onI, onN, dctOf, keyOf, gNm, DL.gNil, DL.gCons, gTp, gSubL, gSubD, dNx, dSeq, dBk, dCt, dDrop, dRet, dRetN, dIfS, dAsg, dPar, dPar3, dFor, dWhile, dLc, dLc2, dDc, dItemsT, dDGet, dDGet2, dApp, dPopAt, dPart, dNoPart, dSlc, fSlc, insOf, dFld, dFldS, dCall, dMeth, dMk, mkEnd, dRevT, dNever, dBits, dDictT, dDict1, fSortD, fListD, sl, wipeD, seqOf, IsLst, getFD, putFD, fIx, List.set, List.length_cons, List.length_nil, List.cons.injEq, and_true, true_and, Nat.reduceAdd, reduceCtorEq, if_true, if_false, Bool.false_eq_true, ne_eq, not_false_eq_true, ite_true, ite_false, at0, at1]
      have e3 : Nat.gcd (Int.natAbs ((lcmD d : Nat) : Int)) (Int.natAbs (q.den : Int)) = Nat.gcd (lcmD d) q.den := rfl
      rw [e3, lcm_step _ _ q.den_pos]
      have hg : 0 < Nat.gcd (lcmD d) q.den := Nat.gcd_pos_of_pos_right _ q.den_pos
      refine ⟨mul_ok (k := 4400) (m := 4400) (by rw [Int.natAbs_natCast]; exact hle hu) (by rw [Int.natAbs_natCast]; exact hle (hd q hq').1), ⟨by omega, no_pylong ?_⟩, ?_⟩
      · rw [Int.natAbs_natCast]
        exact Nat.lt_of_le_of_lt (Nat.gcd_le_right _ q.den_pos) (Nat.lt_of_lt_of_le (hle (hd q hq').1) (Nat.pow_le_pow_right (by omega) (by omega)))
      · refine hc _ _ ⟨d ++ [q], r', some (dQ q), by rw [List.append_assoc]; exact e1, rfl, ?_, rfl⟩
        rw [lcmD_snoc]
        rfl
end K43
set_option Elab.async false
set_option linter.all false
set_option maxRecDepth 100000
set_option maxHeartbeats 4000000
set_option exponentiation.threshold 300000
namespace K43
open PySem PySem.Spec PyProof.Rows L2 DL
theorem ExtU.refl {u : Addr} {G : GH} (h : UrnOk G u) : ExtU u G G := ⟨h, fun _ _ _ e => e⟩
theorem ExtU.trans {u : Addr} {G G1 G2 : GH} (h : ExtU u G G1) (k : ExtU u G1 G2) : ExtU u G G2 := ⟨k.1, fun a c n e => k.2 a c n (h.2 a c n e)⟩
theorem ExtU.ext {u : Addr} {G G1 G2 : GH} (h : ExtU u G G1) (k : Ext G1 G2) : ExtU u G G2 :=
  ⟨let ⟨a, b, e, r⟩ := h.1; ⟨a, b, k u _ e, r⟩, fun a c n e => k a c (h.2 a c n e)⟩
theorem Ext.urn {u : Addr} {G G1 : GH} (h : UrnOk G u) (k : Ext G G1) : ExtU u G G1 := (ExtU.refl h).ext k
theorem ExtU.put {u : Addr} {G : GH} {a b : Int} (h1 : 0 ≤ a) (h2 : a < 2 ^ 200) (h3 : 0 ≤ b) (h4 : b < 2 ^ 64) : ExtU u G (gput G u (.lst [.int a, .int b])) :=
  ⟨⟨a, b, gput_same, h1, h2, h3, h4⟩, fun c o n e => by rw [gput_ne n]; exact e⟩
theorem l_law_ball {ds G Q} (h : S_law_ball ds G Q) : r_law_ball (Ends1 Q) (startD N_law_ball ds) G := by
  obtain ⟨u, m, rfl, ⟨a, b, hG, h1, h2, h3, h4⟩, m0, m1, hq⟩ := h
  rw [show startD N_law_ball [.ref u, .int m] = [some (.ref u), some (.int m), none] from rfl]
  have i0 : ixN 2 0 = some 0 := rfl
  have i1 : ixN 2 1 = some 1 := rfl
  simp only [r_law_ball, dVar, dC, dOp, dB, dAnd, dOr, dNot, dAndV, dOrV, dNotV, dIf, dNil, dCons, dTup, dLst, dLstT, fAdd, fSub, fDiv, fMod, fPow, fMul, fCmp, fLt, fLe, fGt, fGe, fEq, fNe, fIs, fIsNot, isNonD, dNeg, dCB, on1, fLen, fTup, fLstF, fLstT, fAbs, fInt, onI2, fGcd, fMax2, fMin2, fIsi, frzOf, dSq, dRng1, dRng2, dEnum, dZip, dKeys, dVals, dItems, onK, onS, onD, onB, onKs, onY, onI, onN, dctOf, keyOf, gNm, DL.gNil, DL.gCons, gTp, gSubL, gSubD, dNx, dSeq, dBk, dCt, dDrop, dRet, dRetN, dIfS, dAsg, dPar, dPar3, dFor, dWhile, dLc, dLc2, dDc, dItemsT, dDGet, dDGet2, dApp, dPopAt, dPart, dNoPart, dSlc, fSlc, insOf, dFld, dFldS, dCall, dMeth, dMk, mkEnd, dRevT, dNever, dBits, dDictT, dDict1, fSortD, fListD, sl, wipeD, seqOf, IsLst, getFD, putFD, fIx, hG, at0, at1, List.set, List.length_cons, List.length_nil, List.cons.injEq, and_true, true_and, Nat.reduceAdd, reduceCtorEq, if_true, if_false, Bool.false_eq_true, ne_eq, not_false_eq_true, ite_true, ite_false, i0, i1, gput_same]
  have n1 : m.natAbs < 2 ^ 9000 := Nat.lt_of_lt_of_le (show m.natAbs < 2 ^ 10 by omega) (Nat.pow_le_pow_right (by omega) (by omega))
  by_cases ha : 0 < a
  · rw [if_pos (decide_eq_true ha)]
    refine ⟨by omega, ⟨by omega, no_pylong n1⟩, ?_⟩
    refine hq _ _ (Int.fmod_nonneg_of_pos a m0) (Int.fmod_lt_of_pos a m0) (ExtU.put (Int.fdiv_nonneg h1 (by omega)) ?_ h3 h4)
    have : a.fdiv m ≤ a := by
      rw [Int.fdiv_eq_ediv_of_nonneg a (by omega)]
      exact Int.ediv_le_self m h1
    omega
  · rw [if_neg (by rw [decide_eq_false ha]; exact Bool.false_ne_true)]
    refine ⟨mul_ok (k := 64) (m := 64) (by omega) (by decide), by omega, ?_⟩
    refine ⟨⟨by omega, no_pylong (Nat.lt_of_lt_of_le (show (4294967296 : Int).natAbs < 2 ^ 40 by decide) (Nat.pow_le_pow_right (by omega) (by omega)))⟩, by omega, ?_⟩
    refine hq _ _ (Int.fmod_nonneg_of_pos _ m0) (Int.fmod_lt_of_pos _ m0) (ExtU.put h1 h2 (Int.fmod_nonneg_of_pos _ (show (0 : Int) < 18446744073709551557 by decide)) (Int.lt_trans (Int.fmod_lt_of_pos _ (show (0 : Int) < 18446744073709551557 by decide)) (by decide)))
theorem l_law_one_of {ds G Q} (h : S_law_one_of ds G Q) : r_law_one_of (Ends1 Q) (startD N_law_one_of ds) G := by
  obtain ⟨u, xs, rfl, hu, h0, h1, hq⟩ := h
  rw [show startD N_law_one_of [.ref u, .tup xs] = [some (.ref u), some (.tup xs)] from rfl]
  simp only [r_law_one_of, dVar, dC, dOp, dB, dAnd, dOr, dNot, dAndV, dOrV, dNotV, dIf, dNil, dCons, dTup, dLst, dLstT, fAdd, fSub, fDiv, fMod, fPow, fMul, fCmp, fLt, fLe, fGt, fGe, fEq, fNe, fIs, fIsNot, isNonD, dNeg, dCB, on1, fLen, fTup, fLstF, fLstT, fAbs, fInt, onI2, fGcd, fMax2, fMin2, fIsi, frzOf, dSq, dRng1, dRng2, dEnum, dZip, dKeys, dVals, dItems, onK, onS, onD, onB, onKs, onY, onI, onN, dctOf, keyOf, gNm, DL.gNil, DL.gCons, gTp, gSubL, gSubD, dNx, dSeq, dBk, dCt, dDrop, dRet, dRetN, dIfS, dAsg, dPar, dPar3, dFor, dWhile, dLc, dLc2, dDc, dItemsT, dDGet, dDGet2, dApp, dPopAt, dPart, dNoPart, dSlc, fSlc, insOf, dFld, dFldS, dCall, dMeth, dMk, mkEnd, dRevT, dNever, dBits, dDictT, dDict1, fSortD, fListD, sl, wipeD, seqOf, IsLst, getFD, putFD, fIx, List.set, List.length_cons, List.length_nil, List.cons.injEq, and_true, true_and, Nat.reduceAdd, reduceCtorEq, if_true, if_false, Bool.false_eq_true, ne_eq, not_false_eq_true, ite_true, ite_false]
  have hl : 0 < xs.length := List.length_pos_iff.mpr h0
  refine ⟨u, xs.length, rfl, hu, by omega, by omega, fun k G' k0 k1 e => ?_⟩
  obtain ⟨n, rfl⟩ : ∃ n : Nat, k = n := ⟨k.toNat, (Int.toNat_of_nonneg k0).symm⟩
  have hk : n < xs.length := by omega
  have eg : atI xs (n : Int) = some xs[n] := atI_nat (List.getElem?_eq_getElem hk)
  simp only [eg]
  exact hq _ (List.getElem_mem hk) G' e
theorem enum_ints {ns : List Int} : ∀ (k : Nat), enumD k (ns.map D.int) = (enumD k (ns.map D.int)) := fun _ => rfl
theorem l_law_urn {ds G Q} (h : S_law_urn ds G Q) : r_law_urn (Ends1 Q) (startD N_law_urn ds) G := by
  obtain ⟨ns, lap, rfl, l0, l1, hl, hb, hq⟩ := h
  rw [show startD N_law_urn [.frl (ns.map D.int), .int lap] = [some (.frl (ns.map D.int)), some (.int lap), none, none, none, none] from rfl]
  obtain ⟨lp, rfl⟩ : ∃ n : Nat, lap = n := ⟨lap.toNat, (Int.toNat_of_nonneg l0).symm⟩
  simp only [r_law_urn, dVar, dC, dOp, dB, dAnd, dOr, dNot, dAndV, dOrV, dNotV, dIf, dNil, dCons, dTup, dLst, dLstT, fAdd, fSub, fDiv, fMod, fPow, fMul, fCmp, fLt, fLe, fGt, fGe, fEq, fNe, fIs, fIsNot, isNonD, dNeg, dCB, on1, fLen, fTup, fLstF, fLstT, fAbs, fInt, onI2, fGcd, fMax2, fMin2, fIsi, frzOf, dSq, dRng1, dRng2, dEnum, dZip, dKeys, dVals, dItems, onK, onS, onD, onB, onKs, onY, onI, onN, dctOf, keyOf, gNm, DL.gNil, DL.gCons, gTp, gSubL, gSubD, dNx, dSeq, dBk, dCt, dDrop, dRet, dRetN, dIfS, dAsg, dPar, dPar3, dFor, dWhile, dLc, dLc2, dDc, dItemsT, dDGet, dDGet2, dApp, dPopAt, dPart, dNoPart, dSlc, fSlc, insOf, dFld, dFldS, dCall, dMeth, dMk, mkEnd, dRevT, dNever, dBits, dDictT, dDict1, fSortD, fListD, sl, wipeD, seqOf, IsLst, getFD, putFD, fIx, List.set, List.length_cons, List.length_nil, List.cons.injEq, and_true, true_and, Nat.reduceAdd, reduceCtorEq, if_true, if_false, Bool.false_eq_true, ne_eq, not_false_eq_true, ite_true, ite_false, List.length_map]
  have fin : ∀ own : Int, own.natAbs < 2 ^ 1048576 → IntMulOk 9176 (lp : Int) ∧ forGo (gTp 2 (DL.gCons (gNm 4) (DL.gCons (gNm 5) DL.gNil)))
      (dAsg (dOp fMod (dCB (on1 fInt) (dCons (dOp fAdd (dOp fAdd (dOp fMul (dVar 3) (dC (.int 6364136223846793005))) (dOp fMul (dCB (on1 fInt) (dCons (dVar 5) dNil)) (dOp fAdd (dOp fMul (dC (.int 2)) (dVar 4)) (dC (.int 9))))) (dC (.int 1442695040888963407))) dNil)) (dC (.int 18446744073709551557))) (gNm 3))
      { nx := dRet (dLstT (dCons (dIf (dOr (dB (dOp fLt (dVar 2) (dC (.int 0)))) (dB (dOp fGt (dVar 2) (dOp fPow (dC (.int 10)) (dC (.int 11)))))) (dOp fMod (dCB (on1 fAbs) (dCons (dVar 2) dNil)) (dOp fPow (dC (.int 10)) (dC (.int 48)))) (dC (.int 0))) (dCons (dVar 3) dNil))) (Ends1 Q), rt := Q }
      (enumD 0 (DL.cutD (ns.map D.int) none (some 60))) [some (.frl (ns.map D.int)), some (.int lp), some (.int own), some (.int (7046029254386353131 + 9176 * (lp : Int))), none, none] G := by
    intro own ho
    refine ⟨mul_ok (k := 64) (m := 64) (by decide) (by omega), ?_⟩
    refine for_run (fun rest ρ G' => ∃ (held : Int) (o1 o2 : Option D), (∀ x ∈ rest, ∃ (i : Nat) (c : Int), x = .tup [.int (i : Int), .int c] ∧ i < 2 ^ 32 ∧ c.natAbs < 2 ^ 1048576) ∧ 0 ≤ held ∧ held < 2 ^ 64 ∧ ρ = [some (.frl (ns.map D.int)), some (.int lp), some (.int own), some (.int held), o1, o2] ∧ G' = G) ?_ ?_ _ _ _ ⟨_, none, none, ?_, by omega, by omega, rfl, rfl⟩
    · rintro ρ G' ⟨held, o1, o2, _, h0, h1, rfl, rfl⟩
      simp only [dVar, dC, dOp, dB, dAnd, dOr, dNot, dAndV, dOrV, dNotV, dIf, dNil, dCons, dTup, dLst, dLstT, fAdd, fSub, fDiv, fMod, fPow, fMul, fCmp, fLt, fLe, fGt, fGe, fEq, fNe, fIs, fIsNot, isNonD, dNeg, dCB, on1, fLen, fTup, fLstF, fLstT, fAbs, fInt, onI2, fGcd, fMax2, fMin2, fIsi, frzOf, dSq, dRng1, dRng2, dEnum, dZip, dKeys, dVals, dItems, onK, onS, onD, onB, onKs, onY, onI, onN, dctOf, keyOf, gNm, DL.gNil, DL.gCons, gTp, gSubL, gSubD, dNx, dSeq, dBk, dCt, dDrop, dRet, dRetN, dIfS, dAsg, dPar, dPar3, dFor, dWhile, dLc, dLc2, dDc, dItemsT, dDGet, dDGet2, dApp, dPopAt, dPart, dNoPart, dSlc, fSlc, insOf, dFld, dFldS, dCall, dMeth, dMk, mkEnd, dRevT, dNever, dBits, dDictT, dDict1, fSortD, fListD, sl, wipeD, seqOf, IsLst, getFD, putFD, fIx, List.set, List.length_cons, List.length_nil, List.cons.injEq, and_true, true_and, Nat.reduceAdd, reduceCtorEq, if_true, if_false, Bool.false_eq_true, ne_eq, not_false_eq_true, ite_true, ite_false]
      have p11 : CPow 10 11 := ⟨by decide, by decide, by decide⟩
      have p48 : CPow 10 48 := ⟨by decide, by decide, by decide⟩
      have e48 : (10 : Int) ^ (48 : Int).toNat = 10 ^ 48 := rfl
      have done : ∀ x : Int, 0 ≤ x → x < 2 ^ 200 → 2 ≤ sizeLine ∧ ∀ p, G' p = none → Q (.ref p) (gput G' p (.lst [.int x, .int held])) := fun x x0 x1 =>
        ⟨by rw [sizeLine_eq]; omega, fun p hp => hq p _ hp (ExtU.put x0 x1 h0 h1)⟩
      by_cases c1 : own < 0
      · rw [if_pos (decide_eq_true c1)]
        refine ⟨p48, by rw [e48]; decide, ?_⟩
        rw [e48]
        exact done _ (Int.fmod_nonneg_of_pos _ (by decide)) (Int.lt_trans (Int.fmod_lt_of_pos _ (by decide)) (by decide))
      · rw [if_neg (by rw [decide_eq_false c1]; exact Bool.false_ne_true)]
        refine ⟨p11, ?_⟩
        by_cases c2 : (10 : Int) ^ (11 : Int).toNat < own
        · rw [if_pos (decide_eq_true c2)]
          refine ⟨p48, by rw [e48]; decide, ?_⟩
          rw [e48]
          exact done _ (Int.fmod_nonneg_of_pos _ (by decide)) (Int.lt_trans (Int.fmod_lt_of_pos _ (by decide)) (by decide))
        · rw [if_neg (by rw [decide_eq_false c2]; exact Bool.false_ne_true)]
          exact done 0 (by decide) (by decide)
    · rintro x rest ρ G' C ⟨held, o1, o2, hx, h0, h1, rfl, rfl⟩ hc
      obtain ⟨i, c, rfl, hi, hcb⟩ := hx x (List.mem_cons_self ..)
      simp only [dVar, dC, dOp, dB, dAnd, dOr, dNot, dAndV, dOrV, dNotV, dIf, dNil, dCons, dTup, dLst, dLstT, fAdd, fSub, fDiv, fMod, fPow, fMul, fCmp, fLt, fLe, fGt, fGe, fEq, fNe, fIs, fIsNot, isNonD, dNeg, dCB, on1, fLen, fTup, fLstF, fLstT, fAbs, fInt, onI2, fGcd, fMax2, fMin2, fIsi, frzOf, dSq, dRng1, dRng2, dEnum, dZip, dKeys, dVals, dItems, onK, onS, onD, onB, onKs, onY, onI, onN, dctOf, keyOf, gNm, DL.gNil, DL.gCons, gTp, gSubL, gSubD, dNx, dSeq, dBk, dCt, dDrop, dRet, dRetN, dIfS, dAsg, dPar, dPar3, dFor, dWhile, dLc, dLc2, dDc, dItemsT, dDGet, dDGet2, dApp, dPopAt, dPart, dNoPart, dSlc, fSlc, insOf, dFld, dFldS, dCall, dMeth, dMk, mkEnd, dRevT, dNever, dBits, dDictT, dDict1, fSortD, fListD, sl, wipeD, seqOf, IsLst, getFD, putFD, fIx, List.set, List.length_cons, List.length_nil, List.cons.injEq, and_true, true_and, Nat.reduceAdd, reduceCtorEq, if_true, if_false, Bool.false_eq_true, ne_eq, not_false_eq_true, ite_true, ite_false]
      refine ⟨mul_ok (k := 64) (m := 64) (by omega) (by decide), mul_ok (k := 64) (m := 64) (by decide) (by omega), mul_ok (k := 1048576) (m := 64) hcb (by omega), by omega, ?_⟩
      exact hc _ _ ⟨_, some (.int i), some (.int c), fun y hy => hx y (List.mem_cons_of_mem _ hy), Int.fmod_nonneg_of_pos _ (by decide), Int.lt_trans (Int.fmod_lt_of_pos _ (by decide)) (by decide), rfl, rfl⟩
    · intro x hx
      obtain ⟨i, hi⟩ := List.mem_iff_getElem?.mp hx
      rw [enumD_get] at hi
      obtain ⟨y, ey, rfl⟩ := Option.map_eq_some_iff.mp hi
      have hy : y ∈ ns.map D.int := by
        have := List.mem_of_getElem? ey
        unfold DL.cutD at this
        exact List.mem_of_mem_drop (List.mem_of_mem_take this)
      have hi2 := some_lt ey
      have hi3 := cutD_len (ns.map D.int) none (some 60)
      rw [List.length_map] at hi3
      obtain ⟨c, hc, rfl⟩ := List.mem_map.mp hy
      exact ⟨0 + i, c, rfl, by omega, hb c hc⟩
  by_cases h1 : lp < ns.length
  · rw [if_pos (decide_eq_true (by omega)), at_int h1]
    refine fin _ ?_
    rcases nth_mem lp ns with h | h
    · exact hb _ h
    · rw [h]; exact Nat.two_pow_pos _
  · rw [if_neg (by rw [decide_eq_false (by omega)]; exact Bool.false_ne_true)]
    exact fin 0 (Nat.two_pow_pos _)
end K43
set_option Elab.async false
set_option linter.all false
set_option maxRecDepth 100000
set_option maxHeartbeats 4000000
namespace K43
open PySem PySem.Spec PyProof.Rows L2 DL
theorem no_pylong2 {q g : Int} (h : q.natAbs < 2 ^ 4400) (hg : g ≠ 0) : Builtin.divisionGoesByPylong (q * g) g = false := by
  unfold Builtin.divisionGoesByPylong
  have e2 : (g == 0) = false := beq_false_of_ne hg
  have g0 : g.natAbs ≠ 0 := fun z => hg (Int.natAbs_eq_zero.mp z)
  by_cases e : q = 0
  · subst e
    rw [Int.zero_mul]
    simp [e2]
  · have e1 : (q * g == 0) = false := beq_false_of_ne (Int.mul_ne_zero e hg)
    have x0 : (q * g).natAbs ≠ 0 := fun z => Int.mul_ne_zero e hg (Int.natAbs_eq_zero.mp z)
    have l : (q * g).natAbs.log2 < 4400 + (g.natAbs.log2 + 1) := by
      refine log2_lt ?_ x0
      rw [Int.natAbs_mul, Nat.pow_add]
      exact Nat.mul_lt_mul_of_lt_of_lt h Nat.lt_log2_self
    have b : ¬ ((q * g).natAbs.log2 / 30 + 1 > g.natAbs.log2 / 30 + 1 + 150) := by omega
    simp only [e1, e2, Bool.false_eq_true, if_false]
    rw [decide_eq_false b, Bool.and_false]
theorem bits_pow (n : Nat) : n < 2 ^ Builtin.Int.intBits (n : Int) := by
  unfold Builtin.Int.intBits
  by_cases e : n = 0
  · subst e; decide
  · have : (((n : Int) == 0) = false) := beq_false_of_ne (by omega)
    rw [this, if_neg Bool.false_ne_true, Int.natAbs_natCast]
    exact Nat.lt_log2_self
theorem euclid_half {a b : Nat} (hb : 0 < b) (h : b ≤ a) : 2 * (b * (a % b)) ≤ a * b := by
  have h1 : b * (a / b) + a % b = a := Nat.div_add_mod a b
  have h2 : 1 ≤ a / b := Nat.div_pos h hb
  have h3 : a % b < b := Nat.mod_lt a hb
  have h4 : b ≤ b * (a / b) := Nat.le_mul_of_pos_right b h2
  have h5 : 2 * (a % b) ≤ a := by omega
  calc 2 * (b * (a % b)) = b * (2 * (a % b)) := by rw [Nat.mul_left_comm]
    _ ≤ b * a := Nat.mul_le_mul_left b h5
    _ = a * b := Nat.mul_comm ..
theorem abs_cast (a : Int) : (if a < 0 then -a else a) = ((a.natAbs : Nat) : Int) := by
  split <;> omega
theorem fmod_cast (a b : Nat) : Int.fmod (a : Int) (b : Int) = ((a % b : Nat) : Int) := by
  rw [Int.fmod_eq_emod_of_nonneg _ (by omega)]
  rfl
theorem l_law_part {ds G Q} (h : S_law_part ds G Q) : r_law_part (Ends1 Q) (startD N_law_part ds) G := by
  obtain ⟨a, b, rfl, hb, ba, bb, hc, hq⟩ := h
  rw [show startD N_law_part [.int a, .int b] = [some (.int a), some (.int b), none, none, none] from rfl]
  simp only [r_law_part, dVar, dC, dOp, dB, dAnd, dOr, dNot, dAndV, dOrV, dNotV, dIf, dNil, dCons, dTup, dLst, dLstT, fAdd, fSub, fDiv, fMod, fPow, fMul, fCmp, fLt, fLe, fGt, fGe, fEq, fNe, fIs, fIsNot, isNonD, dNeg, dCB, on1, fLen, fTup, fLstF, fLstT, fAbs, fInt, onI2, fGcd, fMax2, fMin2, fIsi, frzOf, dSq, dRng1, dRng2, dEnum, dZip, dKeys, dVals, dItems, onK, onS, onD, onB, onKs, onY, onI, onN, dctOf, keyOf, gNm, DL.gNil, DL.gCons, gTp, gSubL, gSubD, dNx, dSeq, dBk, dCt, dDrop, dRet, dRetN, dIfS, dAsg, dPar, dPar3, dFor, dWhile, dLc, dLc2, dDc, dItemsT, dDGet, dDGet2, dApp, dPopAt, dPart, dNoPart, dSlc, fSlc, insOf, dFld, dFldS, dCall, dMeth, dMk, mkEnd, dRevT, dNever, dBits, dDictT, dDict1, fSortD, fListD, sl, wipeD, seqOf, IsLst, getFD, putFD, fIx, List.set, List.length_cons, List.length_nil, List.cons.injEq, and_true, true_and, Nat.reduceAdd, reduceCtorEq, if_true, if_false, Bool.false_eq_true, ne_eq, not_false_eq_true, ite_true, ite_false, abs_cast]
  have z1 := bits_le ba
  have z2 := bits_le bb
  have y1 : Builtin.Int.intBits ((a.natAbs : Nat) : Int) ≤ 100000 := bits_le (by rw [Int.natAbs_natCast]; exact ba)
  have y2 : Builtin.Int.intBits ((b.natAbs : Nat) : Int) ≤ 100000 := bits_le (by rw [Int.natAbs_natCast]; exact bb)
  have w1 := bits_pow a.natAbs
  have w2 := bits_pow b.natAbs
  generalize Builtin.Int.intBits ((a.natAbs : Nat) : Int) = n1 at *
  generalize Builtin.Int.intBits ((b.natAbs : Nat) : Int) = n2 at *
  refine ⟨mul_ok (k := 64) (m := 64) (by decide) (by omega), by omega, ?_⟩
  have hg : 0 < Nat.gcd a.natAbs b.natAbs := Nat.gcd_pos_of_pos_right _ (Int.natAbs_pos.mpr hb)
  have hgz : ((Nat.gcd a.natAbs b.natAbs : Nat) : Int) ≠ 0 := by omega
  have d1 : ((Nat.gcd a.natAbs b.natAbs : Nat) : Int) ∣ a := Int.ofNat_dvd_left.mpr (Nat.gcd_dvd_left ..)
  have d2 : ((Nat.gcd a.natAbs b.natAbs : Nat) : Int) ∣ b := Int.ofNat_dvd_left.mpr (Nat.gcd_dvd_right ..)
  obtain ⟨p1, p2⟩ := divInt_parts a b hb
  have npl : Builtin.divisionGoesByPylong a ((Nat.gcd a.natAbs b.natAbs : Nat) : Int) = false ∧ Builtin.divisionGoesByPylong b ((Nat.gcd a.natAbs b.natAbs : Nat) : Int) = false := by
    rcases hc with hc | hc
    · have : (((Nat.gcd a.natAbs b.natAbs : Nat) : Int)).natAbs < 2 ^ 9000 := by
        rw [Int.natAbs_natCast]
        exact Nat.lt_of_le_of_lt (Nat.gcd_le_right _ (Int.natAbs_pos.mpr hb)) hc
      exact ⟨no_pylong this, no_pylong this⟩
    · have q1 : a / ((Nat.gcd a.natAbs b.natAbs : Nat) : Int) * ((Nat.gcd a.natAbs b.natAbs : Nat) : Int) = a := Int.ediv_mul_cancel d1
      have q2 : b / ((Nat.gcd a.natAbs b.natAbs : Nat) : Int) * ((Nat.gcd a.natAbs b.natAbs : Nat) : Int) = b := Int.ediv_mul_cancel d2
      have s1 : (a / ((Nat.gcd a.natAbs b.natAbs : Nat) : Int)).natAbs < 2 ^ 4400 := by
        have := hc.1
        rw [p1] at this
        split at this
        · rw [Int.fdiv_eq_ediv_of_dvd d1] at this; exact this
        · rw [Int.fdiv_eq_ediv_of_dvd (Int.neg_dvd.mpr d1), Int.ediv_neg, Int.natAbs_neg] at this; exact this
      have s2 : (b / ((Nat.gcd a.natAbs b.natAbs : Nat) : Int)).natAbs < 2 ^ 4400 := by
        have h3 := hc.2
        have : (((Rat.divInt a b).den : Nat) : Int).natAbs < 2 ^ 4400 := by rw [Int.natAbs_natCast]; exact h3
        rw [p2] at this
        split at this
        · rw [Int.fdiv_eq_ediv_of_dvd d2] at this; exact this
        · rw [Int.fdiv_eq_ediv_of_dvd (Int.neg_dvd.mpr d2), Int.ediv_neg, Int.natAbs_neg] at this; exact this
      refine ⟨?_, ?_⟩
      · have := no_pylong2 s1 hgz
        rw [q1] at this
        exact this
      · have := no_pylong2 s2 hgz
        rw [q2] at this
        exact this
  have fin : ∀ (o : Option D) (G' : GH), G' = G → (dRet (dIf (dB (dOp fGt (dVar 1) (dC (.int 0)))) (dTup (dCons (dOp fDiv (dVar 0) (dVar 2)) (dCons (dOp fDiv (dVar 1) (dVar 2)) dNil))) (dTup (dCons (dOp fSub (dC (.int 0)) (dOp fDiv (dVar 0) (dVar 2))) (dCons (dOp fSub (dC (.int 0)) (dOp fDiv (dVar 1) (dVar 2))) dNil))))) (Ends1 Q)
      [some (.int a), some (.int b), some (.int ((Nat.gcd a.natAbs b.natAbs : Nat) : Int)), some (.int 0), o] G' := by
    rintro o G' rfl
    simp only [dVar, dC, dOp, dB, dAnd, dOr, dNot, dAndV, dOrV, dNotV, dIf, dNil, dCons, dTup, dLst, dLstT, fAdd, fSub, fDiv, fMod, fPow, fMul, fCmp, fLt, fLe, fGt, fGe, fEq, fNe, fIs, fIsNot, isNonD, dNeg, dCB, on1, fLen, fTup, fLstF, fLstT, fAbs, fInt, onI2, fGcd, fMax2, fMin2, fIsi, frzOf, dSq, dRng1, dRng2, dEnum, dZip, dKeys, dVals, dItems, onK, onS, onD, onB, onKs, onY, onI, onN, dctOf, keyOf, gNm, DL.gNil, DL.gCons, gTp, gSubL, gSubD, dNx, dSeq, dBk, dCt, dDrop, dRet, dRetN, dIfS, dAsg, dPar, dPar3, dFor, dWhile, dLc, dLc2, dDc, dItemsT, dDGet, dDGet2, dApp, dPopAt, dPart, dNoPart, dSlc, fSlc, insOf, dFld, dFldS, dCall, dMeth, dMk, mkEnd, dRevT, dNever, dBits, dDictT, dDict1, fSortD, fListD, sl, wipeD, seqOf, IsLst, getFD, putFD, fIx, List.set, List.length_cons, List.length_nil, List.cons.injEq, and_true, true_and, Nat.reduceAdd, reduceCtorEq, if_true, if_false, Bool.false_eq_true, ne_eq, not_false_eq_true, ite_true, ite_false]
    unfold dQ at hq
    rw [p1, p2] at hq
    by_cases c : 0 < b
    · rw [if_pos c] at hq
      rw [if_pos (decide_eq_true c)]
      exact ⟨⟨hgz, npl.1⟩, ⟨hgz, npl.2⟩, lt_size (by omega), hq⟩
    · rw [if_neg c] at hq
      rw [if_neg (by rw [decide_eq_false c]; exact Bool.false_ne_true)]
      refine ⟨⟨hgz, npl.1⟩, ⟨hgz, npl.2⟩, lt_size (by omega), ?_⟩
      rw [Int.fdiv_eq_ediv_of_dvd d1, Int.fdiv_eq_ediv_of_dvd d2, Int.zero_sub, Int.zero_sub]
      rw [Int.fdiv_eq_ediv_of_dvd (Int.neg_dvd.mpr d1), Int.fdiv_eq_ediv_of_dvd (Int.neg_dvd.mpr d2), Int.ediv_neg, Int.ediv_neg] at hq
      exact hq
  refine for_run (fun rest ρ G' => ∃ (low high : Nat) (o : Option D), Nat.gcd low high = Nat.gcd a.natAbs b.natAbs ∧ ((high ≤ low ∧ low * high < 2 ^ rest.length) ∨ (1 ≤ rest.length ∧ low * high < 2 ^ (rest.length - 1))) ∧
    ρ = [some (.int a), some (.int b), some (.int (low : Int)), some (.int (high : Int)), o] ∧ G' = G) ?_ ?_ _ _ _ ⟨a.natAbs, b.natAbs, none, rfl, .inr ⟨?_, ?_⟩, rfl, rfl⟩
  · rintro ρ G' ⟨low, high, o, hgcd, hor, rfl, hG⟩
    have h0 : high = 0 := by
      rcases hor with ⟨h1, h2⟩ | ⟨h1, _⟩
      · have h2 : low * high < 1 := h2
        rcases Nat.eq_zero_or_pos high with h | h
        · exact h
        · have : 1 ≤ low * high := Nat.mul_pos (by omega) h
          omega
      · exact absurd h1 (by simp)
    subst h0
    rw [Nat.gcd_zero_right] at hgcd
    subst hgcd
    exact fin o G' hG
  · rintro x rest ρ G' C ⟨low, high, o, hgcd, hor, rfl, hG⟩ hC
    simp only [dVar, dC, dOp, dB, dAnd, dOr, dNot, dAndV, dOrV, dNotV, dIf, dNil, dCons, dTup, dLst, dLstT, fAdd, fSub, fDiv, fMod, fPow, fMul, fCmp, fLt, fLe, fGt, fGe, fEq, fNe, fIs, fIsNot, isNonD, dNeg, dCB, on1, fLen, fTup, fLstF, fLstT, fAbs, fInt, onI2, fGcd, fMax2, fMin2, fIsi, frzOf, dSq, dRng1, dRng2, dEnum, dZip, dKeys, dVals, dItems, onK, onS, onD, onB, onKs, onY, onI, onN, dctOf, keyOf, gNm, DL.gNil, DL.gCons, gTp, gSubL, gSubD, dNx, dSeq, dBk, dCt, dDrop, dRet, dRetN, dIfS, dAsg, dPar, dPar3, dFor, dWhile, dLc, dLc2, dDc, dItemsT, dDGet, dDGet2, dApp, dPopAt, dPart, dNoPart, dSlc, fSlc, insOf, dFld, dFldS, dCall, dMeth, dMk, mkEnd, dRevT, dNever, dBits, dDictT, dDict1, fSortD, fListD, sl, wipeD, seqOf, IsLst, getFD, putFD, fIx, List.set, List.length_cons, List.length_nil, List.cons.injEq, and_true, true_and, Nat.reduceAdd, reduceCtorEq, if_true, if_false, Bool.false_eq_true, ne_eq, not_false_eq_true, ite_true, ite_false, dok_int, Bool.and_self, deq_int]
    by_cases h0 : high = 0
    · subst h0
      rw [Nat.gcd_zero_right] at hgcd
      subst hgcd
      rw [if_pos (show decide (((0 : Nat) : Int) = 0) = true from rfl)]
      exact fin (some x) G' hG
    · rw [if_neg (by rw [decide_eq_false (by omega)]; exact Bool.false_ne_true)]
      have hp : 0 < high := Nat.pos_of_ne_zero h0
      refine ⟨by omega, ?_⟩
      rw [fmod_cast]
      refine hC _ _ ⟨high, low % high, some x, ?_, .inl ⟨Nat.le_of_lt (Nat.mod_lt low hp), ?_⟩, rfl, hG⟩
      · rw [← hgcd, Nat.gcd_comm low high, Nat.gcd_rec high low, Nat.gcd_comm]
      · rw [List.length_cons] at hor
        rcases hor with ⟨h1, h2⟩ | ⟨_, h2⟩
        · have := euclid_half hp h1
          rw [Nat.pow_succ] at h2
          omega
        · have h3 : low % high ≤ low := Nat.mod_le ..
          have h4 : high * (low % high) ≤ low * high := by rw [Nat.mul_comm low]; exact Nat.mul_le_mul_left _ h3
          have h5 : rest.length + 1 - 1 = rest.length := by omega
          rw [h5] at h2
          omega
  · rw [rngD_len]
    omega
  · rw [rngD_len]
    have h1 : a.natAbs * b.natAbs < 2 ^ n1 * 2 ^ n2 := Nat.mul_lt_mul_of_lt_of_lt w1 w2
    rw [← Nat.pow_add] at h1
    exact Nat.lt_of_lt_of_le h1 (Nat.pow_le_pow_right (by omega) (by omega))
theorem add_eq (x y : Rat) : Rat.divInt (x.num * (y.den : Int) + y.num * (x.den : Int)) ((x.den : Int) * (y.den : Int)) = x + y := by
  have hx : (x.den : Int) ≠ 0 := by have := x.den_pos; omega
  have hy : (y.den : Int) ≠ 0 := by have := y.den_pos; omega
  rw [← Rat.divInt_add_divInt _ _ hx hy, Rat.num_divInt_den, Rat.num_divInt_den]
theorem mul_eq (x y : Rat) : Rat.divInt (x.num * y.num) ((x.den : Int) * (y.den : Int)) = x * y := by
  rw [← Rat.divInt_mul_divInt, Rat.num_divInt_den, Rat.num_divInt_den]
theorem dQ_one (n : Int) : dQ (Rat.divInt n 1) = .tup [.int n, .int 1] := by
  obtain ⟨p1, p2⟩ := divInt_parts n 1 (by decide)
  unfold dQ
  rw [p1, p2, if_pos (by decide)]
  have e : Nat.gcd n.natAbs (1 : Int).natAbs = 1 := Nat.gcd_one_right _
  rw [e]
  show D.tup [.int (n.fdiv 1), .int ((1 : Int).fdiv 1)] = _
  rw [Int.fdiv_one]
  rfl
theorem lt_up {n a b : Nat} (h : n < 2 ^ a) (hab : a ≤ b) : n < 2 ^ b := Nat.lt_of_lt_of_le h (Nat.pow_le_pow_right (Nat.zero_lt_succ 1) hab)
theorem wd_mul {x y : Int} {k m : Nat} (h1 : x.natAbs < 2 ^ k) (h2 : y.natAbs < 2 ^ m) : (x * y).natAbs < 2 ^ (k + m) := by
  rw [Int.natAbs_mul, Nat.pow_add]
  exact Nat.mul_lt_mul_of_lt_of_lt h1 h2
theorem cast_lt {n k : Nat} (h : n < 2 ^ k) : ((n : Nat) : Int).natAbs < 2 ^ k := by rw [Int.natAbs_natCast]; exact h
theorem sum_lt {u v : Int} {k : Nat} (h1 : u.natAbs < 2 ^ k) (h2 : v.natAbs < 2 ^ k) : (u + v).natAbs < 2 ^ (k + 1) := by
  rw [Nat.pow_succ]
  generalize 2 ^ k = N at *
  omega
theorem den_ne (q : Rat) : (q.den : Int) ≠ 0 := by have := q.den_pos; omega
theorem two_size : 2 ≤ sizeLine := by decide
theorem fAdd_int {i j : Int} {G : GH} {Q : DE} : fAdd (.int i) (.int j) G Q = Q (.int (i + j)) G := rfl
theorem fMul_int {i j : Int} {G : GH} {Q : DE} : fMul (.int i) (.int j) G Q = (IntMulOk i j ∧ Q (.int (i * j)) G) := rfl
theorem l_law_plus {ds G Q} (h : S_law_plus ds G Q) : r_law_plus (Ends1 Q) (startD N_law_plus ds) G := by
  obtain ⟨x, y, rfl, ⟨x1, x2⟩, ⟨y1, y2⟩, hc, hq⟩ := h
  rw [show startD N_law_plus [dQ x, dQ y] = [some (dQ x), some (dQ y)] from rfl]
  simp only [r_law_plus, dQ, dSeq, dIfS, dAnd, dB, dOp, dVar, sl, onD, dC, fIx, at0, at1, fEq, onB, dok_int, Bool.and_self, deq_int, true_and, dRet, dTup, dCons, dNil, dNx, dCall, fAdd_int, fMul_int]
  have main : IntMulOk x.num (y.den : Int) ∧ IntMulOk y.num (x.den : Int) ∧ IntMulOk (x.den : Int) (y.den : Int) ∧ [D.int (x.num * (y.den : Int) + y.num * (x.den : Int)), D.int ((x.den : Int) * (y.den : Int))].length = 2 ∧ S_law_part [.int (x.num * (y.den : Int) + y.num * (x.den : Int)), .int ((x.den : Int) * (y.den : Int))] G Q := by
    refine ⟨mul_ok x1 (cast_lt y2), mul_ok y1 (cast_lt x2), mul_ok (cast_lt x2) (cast_lt y2), rfl, ?_⟩
    refine ⟨_, _, rfl, ?_, ?_, ?_, ?_, by rw [add_eq]; exact hq⟩
    · exact Int.mul_ne_zero (den_ne x) (den_ne y)
    · have h1 := wd_mul x1 (cast_lt y2)
      have h2 := wd_mul y1 (cast_lt x2)
      exact lt_up (sum_lt h1 h2) (by decide)
    · exact lt_up (wd_mul (cast_lt x2) (cast_lt y2)) (by decide)
    · rw [add_eq]
      exact hc.imp_left fun h => by rw [Int.natAbs_mul]; exact h
  by_cases c1 : (x.den : Int) = 1
  · rw [if_pos (decide_eq_true c1)]
    by_cases c2 : (y.den : Int) = 1
    · rw [if_pos (decide_eq_true c2)]
      refine ⟨two_size, ?_⟩
      have e := add_eq x y
      rw [c1, c2, Int.mul_one, Int.mul_one, Int.mul_one] at e
      rw [← e, dQ_one] at hq
      exact hq
    · rw [if_neg (by rw [decide_eq_false c2]; exact Bool.false_ne_true)]
      exact main
  · rw [if_neg (by rw [decide_eq_false c1]; exact Bool.false_ne_true)]
    exact main
theorem l_law_by {ds G Q} (h : S_law_by ds G Q) : r_law_by (Ends1 Q) (startD N_law_by ds) G := by
  obtain ⟨x, y, rfl, ⟨x1, x2⟩, ⟨y1, y2⟩, hc, hq⟩ := h
  rw [show startD N_law_by [dQ x, dQ y] = [some (dQ x), some (dQ y)] from rfl]
  simp only [r_law_by, dQ, dVar, dC, dOp, dB, dAnd, dOr, dNot, dAndV, dOrV, dNotV, dIf, dNil, dCons, dTup, dLst, dLstT, fAdd, fSub, fDiv, fMod, fPow, fMul, fCmp, fLt, fLe, fGt, fGe, fEq, fNe, fIs, fIsNot, isNonD, dNeg, dCB, on1, fLen, fTup, fLstF, fLstT, fAbs, fInt, onI2, fGcd, fMax2, fMin2, fIsi, frzOf, dSq, dRng1, dRng2, dEnum, dZip, dKeys, dVals, dItems, onK, onS, onD, onB, onKs, onY, onI, onN, dctOf, keyOf, gNm, DL.gNil, DL.gCons, gTp, gSubL, gSubD, dNx, dSeq, dBk, dCt, dDrop, dRet, dRetN, dIfS, dAsg, dPar, dPar3, dFor, dWhile, dLc, dLc2, dDc, dItemsT, dDGet, dDGet2, dApp, dPopAt, dPart, dNoPart, dSlc, fSlc, insOf, dFld, dFldS, dCall, dMeth, dMk, mkEnd, dRevT, dNever, dBits, dDictT, dDict1, fSortD, fListD, sl, wipeD, seqOf, IsLst, getFD, putFD, fIx, List.set, List.length_cons, List.length_nil, List.cons.injEq, and_true, true_and, Nat.reduceAdd, reduceCtorEq, if_true, if_false, Bool.false_eq_true, ne_eq, not_false_eq_true, ite_true, ite_false, at0, at1, dok_int, Bool.and_self, deq_int]
  have main : IntMulOk x.num y.num ∧ IntMulOk (x.den : Int) (y.den : Int) ∧ S_law_part [.int (x.num * y.num), .int ((x.den : Int) * (y.den : Int))] G Q := by
    refine ⟨mul_ok x1 y1, mul_ok (cast_lt x2) (cast_lt y2), ?_⟩
    refine ⟨_, _, rfl, ?_, ?_, ?_, ?_, by rw [mul_eq]; exact hq⟩
    · exact Int.mul_ne_zero (den_ne x) (den_ne y)
    · exact lt_up (wd_mul x1 y1) (by decide)
    · exact lt_up (wd_mul (cast_lt x2) (cast_lt y2)) (by decide)
    · rw [mul_eq]
      exact hc.imp_left fun h => by rw [Int.natAbs_mul]; exact h
  by_cases c1 : (x.den : Int) = 1
  · rw [if_pos (decide_eq_true c1)]
    by_cases c2 : (y.den : Int) = 1
    · rw [if_pos (decide_eq_true c2)]
      refine ⟨main.1, two_size, ?_⟩
      have e := mul_eq x y
      rw [c1, c2, Int.mul_one] at e
      rw [← e, dQ_one] at hq
      exact hq
    · rw [if_neg (by rw [decide_eq_false c2]; exact Bool.false_ne_true)]
      exact main
  · rw [if_neg (by rw [decide_eq_false c1]; exact Bool.false_ne_true)]
    exact main
theorem SmQ.wd {q : Rat} (h : SmQ q) : WdQ q := ⟨lt_up h.1 (by decide), lt_up h.2 (by decide)⟩
theorem num_le (a b : Int) (hb : b ≠ 0) : (Rat.divInt a b).num.natAbs ≤ a.natAbs ∧ (Rat.divInt a b).den ≤ b.natAbs := by
  obtain ⟨p1, p2⟩ := divInt_parts a b hb
  have d1 : ((Nat.gcd a.natAbs b.natAbs : Nat) : Int) ∣ a := Int.ofNat_dvd_left.mpr (Nat.gcd_dvd_left ..)
  have d2 : ((Nat.gcd a.natAbs b.natAbs : Nat) : Int) ∣ b := Int.ofNat_dvd_left.mpr (Nat.gcd_dvd_right ..)
  have le : ∀ (x : Int) (g : Nat), (x / (g : Int)).natAbs ≤ x.natAbs := fun x g => Int.natAbs_ediv_le_natAbs x g
  refine ⟨?_, ?_⟩
  · rw [p1]
    split
    · rw [Int.fdiv_eq_ediv_of_dvd d1]; exact le ..
    · rw [Int.fdiv_eq_ediv_of_dvd (Int.neg_dvd.mpr d1), Int.ediv_neg, Int.natAbs_neg]; exact le ..
  · have e : (Rat.divInt a b).den = (((Rat.divInt a b).den : Nat) : Int).natAbs := (Int.natAbs_natCast _).symm
    rw [e, p2]
    split
    · rw [Int.fdiv_eq_ediv_of_dvd d2]; exact le ..
    · rw [Int.fdiv_eq_ediv_of_dvd (Int.neg_dvd.mpr d2), Int.ediv_neg, Int.natAbs_neg]; exact le ..
theorem l_law_less_row {ds G Q} (h : S_law_less_row ds G Q) : r_law_less_row (Ends1 Q) (startD N_law_less_row ds) G := by
  obtain ⟨r, s, b, rfl, hr, hs, sb, s1, s2, s3, hq⟩ := h
  rw [show startD N_law_less_row [.lst (r.map dQ), .lst (s.map dQ), dQ b] = [some (.lst (r.map dQ)), some (.lst (s.map dQ)), some (dQ b), none, none] from rfl]
  have zl : ∀ r s : List Rat, zipD (r.map dQ) (s.map dQ) = (r.zip s).map fun p => .tup [dQ p.1, dQ p.2] := by
    intro r
    induction r with
    | nil => intro s; rfl
    | cons a r ih => intro s; cases s with
      | nil => rfl
      | cons b s => exact congrArg _ (ih s)
  have hz : (r.zip s).length ≤ sizeLine := lt_size (by clear sb s1 s2 s3; rw [List.length_zip]; omega)
  simp only [r_law_less_row, dVar, dC, dOp, dB, dAnd, dOr, dNot, dAndV, dOrV, dNotV, dIf, dNil, dCons, dTup, dLst, dLstT, fAdd, fSub, fDiv, fMod, fPow, fMul, fCmp, fLt, fLe, fGt, fGe, fEq, fNe, fIs, fIsNot, isNonD, dNeg, dCB, on1, fLen, fTup, fLstF, fLstT, fAbs, fInt, onI2, fGcd, fMax2, fMin2, fIsi, frzOf, dSq, dRng1, dRng2, dEnum, dZip, dKeys, dVals, dItems, onK, onS, onD, onB, onKs, onY, onI, onN, dctOf, keyOf, gNm, DL.gNil, DL.gCons, gTp, gSubL, gSubD, dNx, dSeq, dBk, dCt, dDrop, dRet, dRetN, dIfS, dAsg, dPar, dPar3, dFor, dWhile, dLc, dLc2, dDc, dItemsT, dDGet, dDGet2, dApp, dPopAt, dPart, dNoPart, dSlc, fSlc, insOf, dFld, dFldS, dCall, dMeth, dMk, mkEnd, dRevT, dNever, dBits, dDictT, dDict1, fSortD, fListD, sl, wipeD, seqOf, IsLst, getFD, putFD, fIx, List.set, List.length_cons, List.length_nil, List.cons.injEq, and_true, true_and, Nat.reduceAdd, reduceCtorEq, if_true, if_false, Bool.false_eq_true, ne_eq, not_false_eq_true, ite_true, ite_false, zl]
  intro p hp
  refine lc_mapA (fun p : Rat × Rat => dQ (p.1 + -b * p.2)) hz hp (fun q hq' G3 C _ hc => ?_) ?_
  · obtain ⟨h1, h2⟩ := List.of_mem_zip hq'
    have e0 : (D.tup [.int (0 - b.num), .int (b.den : Int)]) = dQ (-b) := by
      unfold dQ
      rw [Rat.neg_num, Rat.neg_den, Int.zero_sub]
    have n1 : SmQ (-b) := ⟨by rw [Rat.neg_num, Int.natAbs_neg]; exact sb.1, by rw [Rat.neg_den]; exact sb.2⟩
    simp only [dVar, dC, dOp, dB, dAnd, dOr, dNot, dAndV, dOrV, dNotV, dIf, dNil, dCons, dTup, dLst, dLstT, fAdd, fSub, fDiv, fMod, fPow, fMul, fCmp, fLt, fLe, fGt, fGe, fEq, fNe, fIs, fIsNot, isNonD, dNeg, dCB, on1, fLen, fTup, fLstF, fLstT, fAbs, fInt, onI2, fGcd, fMax2, fMin2, fIsi, frzOf, dSq, dRng1, dRng2, dEnum, dZip, dKeys, dVals, dItems, onK, onS, onD, onB, onKs, onY, onI, onN, dctOf, keyOf, gNm, DL.gNil, DL.gCons, gTp, gSubL, gSubD, dNx, dSeq, dBk, dCt, dDrop, dRet, dRetN, dIfS, dAsg, dPar, dPar3, dFor, dWhile, dLc, dLc2, dDc, dItemsT, dDGet, dDGet2, dApp, dPopAt, dPart, dNoPart, dSlc, fSlc, insOf, dFld, dFldS, dCall, dMeth, dMk, mkEnd, dRevT, dNever, dBits, dDictT, dDict1, fSortD, fListD, sl, wipeD, seqOf, IsLst, getFD, putFD, fIx, List.set, List.length_cons, List.length_nil, List.cons.injEq, and_true, true_and, Nat.reduceAdd, reduceCtorEq, if_true, if_false, Bool.false_eq_true, ne_eq, not_false_eq_true, ite_true, ite_false]
    simp only [dQ, at0, at1]
    have e1 : SmQ (q.1 + -b * q.2) := s3 _ (List.mem_map.mpr ⟨q, hq', rfl⟩)
    refine ⟨two_size, ?_⟩
    rw [e0]
    refine ⟨-b, q.2, rfl, n1.wd, (s2 _ h2).wd, .inl ?_, ?_⟩
    · have := Nat.mul_lt_mul_of_lt_of_lt n1.2 (s2 _ h2).2
      rw [← Nat.pow_add] at this
      exact lt_up this (by decide)
    · refine ⟨q.1, -b * q.2, rfl, (s1 _ h1).wd, ?_, .inr e1, hc⟩
      have m := mul_eq (-b) q.2
      have hden : ((-b).den : Int) * (q.2.den : Int) ≠ 0 := Int.mul_ne_zero (den_ne _) (den_ne _)
      obtain ⟨l1, l2⟩ := num_le ((-b).num * q.2.num) _ hden
      rw [m] at l1 l2
      rw [Int.natAbs_mul] at l1 l2
      have k1 := Nat.mul_lt_mul_of_lt_of_lt n1.1 (s2 _ h2).1
      have k2 := Nat.mul_lt_mul_of_lt_of_lt n1.2 (s2 _ h2).2
      rw [← Nat.pow_add] at k1 k2
      exact ⟨Nat.lt_of_le_of_lt l1 (lt_up k1 (by decide)), Nat.lt_of_le_of_lt l2 (lt_up k2 (by decide))⟩
  · unfold lessQ at hq
    rw [List.map_map] at hq
    exact hq
end K43
set_option Elab.async false
set_option linter.all false
set_option maxRecDepth 100000
set_option maxHeartbeats 4000000
namespace K43
open PySem PySem.Spec PyProof.Rows L2 DL
theorem tupn_ty {n : Nat} {d : D} (h : tupn n d = true) : (tyD d).isSome = true := by
  cases n with
  | zero => exact leaf_ty h
  | succ n => cases d <;> first | rfl | cases h
theorem tupn_leaf {n : Nat} {d : D} (h : tupn n d = true) (nt : isTupD d = false) : leafOk d = true := by
  cases n with
  | zero => exact h
  | succ n => cases d <;> first | exact h | cases nt
theorem leaf_dok {d : D} (h : leafOk d = true) : dok 60 d = true := by
  cases d <;> first | rfl | exact h | cases h
theorem zip_pairs : ∀ as bs : List D, zipD as bs = (as.zip bs).map fun p => .tup [p.1, p.2]
  | [], _ => rfl
  | _ :: _, [] => rfl
  | _ :: as, _ :: bs => congrArg _ (zip_pairs as bs)
theorem deq_bl (a b : Bool) : deq (.bl a) (.bl b) = decide (a = b) := by
  unfold deq; simp only [toP, PyData.eqv]; cases a <;> cases b <;> rfl
theorem deq_str (a b : PySem.Str) : deq (.str a) (.str b) = decide (a = b) := by
  unfold deq; simp only [toP, PyData.eqv]; rfl
theorem deq_nil (ds : List D) : deq (.lst ds) (.lst []) = ds.isEmpty := by
  unfold deq
  simp only [toP, toPs]
  cases ds <;> rfl
theorem leaf_tup {d : D} (h : leafOk d = true) : isTupD d = false := by
  cases d <;> first | rfl | (cases h; done)
/-- two leaves -/
theorem eq_leaf {a b : D} {G : GH} {Q : DE} {nn : Nat} (ha : leafOk a = true) (hb : leafOk b = true) (hq : ∀ c : Bool, (c = true ↔ a = b) → Q (.bl c) G) : r_law_equals nn (Ends1 Q) [some a, some b, none, none] G := by
  have ta := leaf_ty ha
  have tb := leaf_ty hb
  have da := leaf_dok ha
  have db := leaf_dok hb
  cases a <;> cases b <;> first | (cases ha; done) | (cases hb; done) | skip
  all_goals (simp only [r_law_equals, dVar, dC, dOp, dB, dAnd, dOr, dNot, dAndV, dOrV, dNotV, dIf, dNil, dCons, dTup, dLst, dLstT, fAdd, fSub, fDiv, fMod, fPow, fMul, fCmp, fLt, fLe, fGt, fGe, fEq, fNe, fIs, fIsNot, isNonD, dNeg, dCB, on1, fLen, fTup, fLstF, fLstT, fAbs, fInt, onI2, fGcd, fMax2, fMin2, fIsi, frzOf, dSq, dRng1, dRng2, dEnum, dZip, dKeys, dVals, dItems, onK, onS, onD, onB, onKs, onY, onI, onN, dctOf, keyOf, gNm, DL.gNil, DL.gCons, gTp, gSubL, gSubD, dNx, dSeq, dBk, dCt, dDrop, dRet, dRetN, dIfS, dAsg, dPar, dPar3, dFor, dWhile, dLc, dLc2, dDc, dItemsT, dDGet, dDGet2, dApp, dPopAt, dPart, dNoPart, dSlc, fSlc, insOf, dFld, dFldS, dCall, dMeth, dMk, mkEnd, dRevT, dNever, dBits, dDictT, dDict1, fSortD, fListD, sl, wipeD, seqOf, IsLst, getFD, putFD, fIx, List.set, List.length_cons, List.length_nil, List.cons.injEq, and_true, true_and, Nat.reduceAdd, reduceCtorEq, if_true, if_false, Bool.false_eq_true, ne_eq, not_false_eq_true, ite_true, ite_false, isTupD, isBoolD, isStrD, isIntD, tyD, Option.isSome, dok_int, deq_int, deq_bl, deq_str, da, db, Bool.and_self, decide_true, decide_false, Bool.not_true, Bool.not_false])
  all_goals (refine hq _ ?_)
  all_goals simp
theorem all_eq : ∀ {as bs : List D}, as.length = bs.length → ((as.zip bs).filter (fun _ => false) = []) ∧ ((∀ p ∈ as.zip bs, p.1 = p.2) ↔ as = bs)
  | [], [], _ => ⟨rfl, fun _ => rfl, fun _ p h => nomatch h⟩
  | [], _ :: _, h => by simp at h
  | _ :: _, [], h => by simp at h
  | a :: as, b :: bs, h => by
    have ih := all_eq (as := as) (bs := bs) (by simpa using h)
    refine ⟨by simp, fun k => ?_, fun k p hp => ?_⟩
    · have h1 : a = b := k (a, b) (by simp)
      have h2 := ih.2.mp fun p hp => k p (by simp [hp])
      rw [h1, h2]
    · cases k
      have := (ih.2.mpr rfl)
      rcases List.mem_cons.mp hp with rfl | hp
      · rfl
      · exact this p hp
theorem isTup_tupn {n : Nat} {d : D} (h : tupn n d = true) (ht : isTupD d = true) : ∃ m ds, n = m + 1 ∧ d = .tup ds ∧ ds.length ≤ 1000 ∧ ∀ x ∈ ds, tupn m x = true := by
  cases d <;> first | (cases ht; done) | skip
  cases n with
  | zero => cases h
  | succ m =>
    have h' : (decide (_ ≤ 1000) && List.all _ (tupn m)) = true := h
    rw [Bool.and_eq_true] at h'
    exact ⟨m, _, rfl, rfl, of_decide_eq_true h'.1, List.all_eq_true.mp h'.2⟩
theorem l_law_equals {n : Nat} {ds G Q} (h : S_law_equals (n + 1) ds G Q) : r_law_equals n (Ends1 Q) (startD N_law_equals ds) G := by
  obtain ⟨a, b, rfl, ha, hb, hq⟩ := h
  rw [show startD N_law_equals [a, b] = [some a, some b, none, none] from rfl]
  have ta := tupn_ty ha
  have tb := tupn_ty hb
  cases ea : isTupD a
  · cases eb : isTupD b
    · exact eq_leaf (tupn_leaf ha ea) (tupn_leaf hb eb) hq
    · have hne : a ≠ b := fun z => by rw [z, eb] at ea; cases ea
      simp only [r_law_equals, dVar, dC, dOp, dB, dAnd, dOr, dNot, dAndV, dOrV, dNotV, dIf, dNil, dCons, dTup, dLst, dLstT, fAdd, fSub, fDiv, fMod, fPow, fMul, fCmp, fLt, fLe, fGt, fGe, fEq, fNe, fIs, fIsNot, isNonD, dNeg, dCB, on1, fLen, fTup, fLstF, fLstT, fAbs, fInt, onI2, fGcd, fMax2, fMin2, fIsi, frzOf, dSq, dRng1, dRng2, dEnum, dZip, dKeys, dVals, dItems, onK, onS, onD, onB, onKs, onY, onI, onN, dctOf, keyOf, gNm, DL.gNil, DL.gCons, gTp, gSubL, gSubD, dNx, dSeq, dBk, dCt, dDrop, dRet, dRetN, dIfS, dAsg, dPar, dPar3, dFor, dWhile, dLc, dLc2, dDc, dItemsT, dDGet, dDGet2, dApp, dPopAt, dPart, dNoPart, dSlc, fSlc, insOf, dFld, dFldS, dCall, dMeth, dMk, mkEnd, dRevT, dNever, dBits, dDictT, dDict1, fSortD, fListD, sl, wipeD, seqOf, IsLst, getFD, putFD, fIx, List.set, List.length_cons, List.length_nil, List.cons.injEq, and_true, true_and, Nat.reduceAdd, reduceCtorEq, if_true, if_false, Bool.false_eq_true, ne_eq, not_false_eq_true, ite_true, ite_false, ea, eb, Bool.not_false, Bool.not_true]
      refine ⟨ta, tb, ta, hq false ⟨fun z => (nomatch z), fun z => absurd z hne⟩⟩
  · obtain ⟨m, as, rfl, rfl, la, ka⟩ := isTup_tupn ha ea
    cases eb : isTupD b
    · have hne : D.tup as ≠ b := fun z => by rw [← z] at eb; cases eb
      simp only [r_law_equals, dVar, dC, dOp, dB, dAnd, dOr, dNot, dAndV, dOrV, dNotV, dIf, dNil, dCons, dTup, dLst, dLstT, fAdd, fSub, fDiv, fMod, fPow, fMul, fCmp, fLt, fLe, fGt, fGe, fEq, fNe, fIs, fIsNot, isNonD, dNeg, dCB, on1, fLen, fTup, fLstF, fLstT, fAbs, fInt, onI2, fGcd, fMax2, fMin2, fIsi, frzOf, dSq, dRng1, dRng2, dEnum, dZip, dKeys, dVals, dItems, onK, onS, onD, onB, onKs, onY, onI, onN, dctOf, keyOf, gNm, DL.gNil, DL.gCons, gTp, gSubL, gSubD, dNx, dSeq, dBk, dCt, dDrop, dRet, dRetN, dIfS, dAsg, dPar, dPar3, dFor, dWhile, dLc, dLc2, dDc, dItemsT, dDGet, dDGet2, dApp, dPopAt, dPart, dNoPart, dSlc, fSlc, insOf, dFld, dFldS, dCall, dMeth, dMk, mkEnd, dRevT, dNever, dBits, dDictT, dDict1, fSortD, fListD, sl, wipeD, seqOf, IsLst, getFD, putFD, fIx, List.set, List.length_cons, List.length_nil, List.cons.injEq, and_true, true_and, Nat.reduceAdd, reduceCtorEq, if_true, if_false, Bool.false_eq_true, ne_eq, not_false_eq_true, ite_true, ite_false, ea, eb, Bool.not_false, Bool.not_true]
      refine ⟨ta, ta, tb, hq false ⟨fun z => (nomatch z), fun z => absurd z hne⟩⟩
    · obtain ⟨m', bs, e, rfl, lb, kb⟩ := isTup_tupn hb eb
      cases e
      simp only [r_law_equals, dVar, dC, dOp, dB, dAnd, dOr, dNot, dAndV, dOrV, dNotV, dIf, dNil, dCons, dTup, dLst, dLstT, fAdd, fSub, fDiv, fMod, fPow, fMul, fCmp, fLt, fLe, fGt, fGe, fEq, fNe, fIs, fIsNot, isNonD, dNeg, dCB, on1, fLen, fTup, fLstF, fLstT, fAbs, fInt, onI2, fGcd, fMax2, fMin2, fIsi, frzOf, dSq, dRng1, dRng2, dEnum, dZip, dKeys, dVals, dItems, onK, onS, onD, onB, onKs, onY, onI, onN, dctOf, keyOf, gNm, DL.gNil, DL.gCons, gTp, gSubL, gSubD, dNx, dSeq, dBk, dCt, dDrop, dRet, dRetN, dIfS, dAsg, dPar, dPar3, dFor, dWhile, dLc, dLc2, dDc, dItemsT, dDGet, dDGet2, dApp, dPopAt, dPart, dNoPart, dSlc, fSlc, insOf, dFld, dFldS, dCall, dMeth, dMk, mkEnd, dRevT, dNever, dBits, dDictT, dDict1, fSortD, fListD, sl, wipeD, seqOf, IsLst, getFD, putFD, fIx, List.set, List.length_cons, List.length_nil, List.cons.injEq, and_true, true_and, Nat.reduceAdd, reduceCtorEq, if_true, if_false, Bool.false_eq_true, ne_eq, not_false_eq_true, ite_true, ite_false, ea, eb, Bool.not_false, Bool.not_true, dok_int, Bool.and_self, deq_int]
      refine ⟨ta, ta, tb, ?_⟩
      by_cases hl : as.length = bs.length
      · have e1 : (!decide ((as.length : Int) = (bs.length : Int))) = false := by rw [decide_eq_true (by omega)]; rfl
        simp only [e1, List.set, List.length_cons, List.length_nil, List.cons.injEq, and_true, true_and, Nat.reduceAdd, reduceCtorEq, if_true, if_false, Bool.false_eq_true, ne_eq, not_false_eq_true, ite_true, ite_false]
        intro p hp
        rw [zip_pairs]
        have L : ∀ xs : List (D × D), dok 60 (.lst (xs.map fun _ => D.int 1)) = true := fun xs => by
          show (xs.map fun _ => D.int 1).all (dok 59) = true
          rw [List.all_map]
          exact List.all_eq_true.mpr fun _ _ => rfl
        refine lc_fmA (l := as.zip bs) (fun p => !(@decide (p.1 = p.2) (Classical.propDecidable _))) (fun _ => .int 1) (lt_size (by rw [List.length_zip]; omega)) hp (fun q hq' G' K1 K0 _ hc => ?_) ?_
        · obtain ⟨h1, h2⟩ := List.of_mem_zip hq'
          simp only [dVar, dC, dOp, dB, dAnd, dOr, dNot, dAndV, dOrV, dNotV, dIf, dNil, dCons, dTup, dLst, dLstT, fAdd, fSub, fDiv, fMod, fPow, fMul, fCmp, fLt, fLe, fGt, fGe, fEq, fNe, fIs, fIsNot, isNonD, dNeg, dCB, on1, fLen, fTup, fLstF, fLstT, fAbs, fInt, onI2, fGcd, fMax2, fMin2, fIsi, frzOf, dSq, dRng1, dRng2, dEnum, dZip, dKeys, dVals, dItems, onK, onS, onD, onB, onKs, onY, onI, onN, dctOf, keyOf, gNm, DL.gNil, DL.gCons, gTp, gSubL, gSubD, dNx, dSeq, dBk, dCt, dDrop, dRet, dRetN, dIfS, dAsg, dPar, dPar3, dFor, dWhile, dLc, dLc2, dDc, dItemsT, dDGet, dDGet2, dApp, dPopAt, dPart, dNoPart, dSlc, fSlc, insOf, dFld, dFldS, dCall, dMeth, dMk, mkEnd, dRevT, dNever, dBits, dDictT, dDict1, fSortD, fListD, sl, wipeD, seqOf, IsLst, getFD, putFD, fIx, List.set, List.length_cons, List.length_nil, List.cons.injEq, and_true, true_and, Nat.reduceAdd, reduceCtorEq, if_true, if_false, Bool.false_eq_true, ne_eq, not_false_eq_true, ite_true, ite_false]
          refine ⟨q.1, q.2, rfl, ka _ h1, kb _ h2, fun c hcc => ?_⟩
          have ec : c = @decide (q.1 = q.2) (Classical.propDecidable _) := by
            cases c
            · exact (@decide_eq_false _ (Classical.propDecidable _) fun z => Bool.false_ne_true (hcc.mpr z)).symm
            · exact (@decide_eq_true _ (Classical.propDecidable _) (hcc.mp rfl)).symm
          subst ec
          exact hc
        · refine ⟨Nat.zero_le _, by rw [L]; rfl, ?_⟩
          rw [deq_nil]
          refine hq _ ?_
          rw [List.isEmpty_iff, List.map_eq_nil_iff, List.filter_eq_nil_iff]
          have e2 := (all_eq hl).2
          constructor
          · intro h
            have h3 : as = bs := e2.mp fun p hp => by
              have := h p hp
              simpa using this
            rw [h3]
          · intro h
            cases h
            intro p hp
            have := (all_eq (as := as) (bs := as) rfl).2.mpr rfl p hp
            simpa using this
      · have e1 : (!decide ((as.length : Int) = (bs.length : Int))) = true := by rw [decide_eq_false (by omega)]; rfl
        simp only [e1, List.set, List.length_cons, List.length_nil, List.cons.injEq, and_true, true_and, Nat.reduceAdd, reduceCtorEq, if_true, if_false, Bool.false_eq_true, ne_eq, not_false_eq_true, ite_true, ite_false]
        refine hq false ⟨fun z => (nomatch z), fun z => absurd (by cases z; rfl) hl⟩
end K43
set_option Elab.async false
set_option linter.all false
set_option maxRecDepth 100000
set_option maxHeartbeats 4000000
namespace K43
open PySem PySem.Spec PyProof.Rows L2 DL
theorem l_Reducer_initD {cR ds G Q} (h : S_Reducer_initD cR ds G Q) : r_Reducer_initD cR (Ends1 Q) (startD N_Reducer_initD ds) G := by
  obtain ⟨p, rfl, hG, hq⟩ := h
  rw [show startD N_Reducer_initD [.ref p] = [some (.ref p)] from rfl]
  simp only [r_Reducer_initD, dVar, dC, dOp, dB, dAnd, dOr, dNot, dAndV, dOrV, dNotV, dIf, dNil, dCons, dTup, dLst, dLstT, fAdd, fSub, fDiv, fMod, fPow, fMul, fCmp, fLt, fLe, fGt, fGe, fEq, fNe, fIs, fIsNot, isNonD, dNeg, dCB, on1, fLen, fTup, fLstF, fLstT, fAbs, fInt, onI2, fGcd, fMax2, fMin2, fIsi, frzOf, dSq, dRng1, dRng2, dEnum, dZip, dKeys, dVals, dItems, onK, onS, onD, onB, onKs, onY, onI, onN, dctOf, keyOf, gNm, DL.gNil, DL.gCons, gTp, gSubL, gSubD, dNx, dSeq, dBk, dCt, dDrop, dRet, dRetN, dIfS, dAsg, dPar, dPar3, dFor, dWhile, dLc, dLc2, dDc, dItemsT, dDGet, dDGet2, dApp, dPopAt, dPart, dNoPart, dSlc, fSlc, insOf, dFld, dFldS, dCall, dMeth, dMk, mkEnd, dRevT, dNever, dBits, dDictT, dDict1, fSortD, fListD, sl, wipeD, seqOf, IsLst, getFD, putFD, fIx, List.set, List.length_cons, List.length_nil, List.cons.injEq, and_true, true_and, Nat.reduceAdd, reduceCtorEq, if_true, if_false, Bool.false_eq_true, ne_eq, not_false_eq_true, ite_true, ite_false]
  intro a ha
  have ne : p ≠ a := fun e => by rw [e, ha] at hG; cases hG
  rw [gput_ne ne, hG]
  exact ⟨rfl, by decide, hq a ha⟩
theorem val_st {cL : Addr} : ∀ {st : List Ln} {p : Ln}, (st.map (·.at_)).Nodup → p ∈ st → valKD (st.map fun p => ((.inl (p.at_ : Int) : Key), dLine cL p.ns p.sh)) (.inl (p.at_ : Int)) = some (dLine cL p.ns p.sh)
  | q :: st, p, hn, hp => by
    rw [List.map_cons, List.nodup_cons] at hn
    show (if (Sum.inl (q.at_ : Int) : Key) = Sum.inl (p.at_ : Int) then some (dLine cL q.ns q.sh) else valKD (st.map fun p => ((.inl (p.at_ : Int) : Key), dLine cL p.ns p.sh)) (.inl (p.at_ : Int))) = _
    rcases List.mem_cons.mp hp with rfl | hp
    · rw [if_pos rfl]
    · rw [if_neg fun z => hn.1 (by
        have : (q.at_ : Int) = (p.at_ : Int) := Sum.inl.inj z
        have : q.at_ = p.at_ := by omega
        rw [this]; exact List.mem_map_of_mem hp)]
      exact val_st hn.2 hp
theorem l_Reducer_row_at {cL cR ds G Q} (h : S_Reducer_row_at cL cR ds G Q) : r_Reducer_row_at cL cR (Ends1 Q) (startD N_Reducer_row_at ds) G := by
  obtain ⟨a, st, p, rfl, hG, hp, hn, hl, hi, hz, hb, hq⟩ := h
  rw [show startD N_Reducer_row_at [dRed cR a, .int p.at_] = [some (dRed cR a), some (.int p.at_), none, none] from rfl]
  simp only [r_Reducer_row_at, dRed, dVar, dC, dOp, dB, dAnd, dOr, dNot, dAndV, dOrV, dNotV, dIf, dNil, dCons, dTup, dLst, dLstT, fAdd, fSub, fDiv, fMod, fPow, fMul, fCmp, fLt, fLe, fGt, fGe, fEq, fNe, fIs, fIsNot, isNonD, dNeg, dCB, on1, fLen, fTup, fLstF, fLstT, fAbs, fInt, onI2, fGcd, fMax2, fMin2, fIsi, frzOf, dSq, dRng1, dRng2, dEnum, dZip, dKeys, dVals, dItems, onK, onS, onD, onB, onKs, onY, onI, onN, dctOf, keyOf, gNm, DL.gNil, DL.gCons, gTp, gSubL, gSubD, dNx, dSeq, dBk, dCt, dDrop, dRet, dRetN, dIfS, dAsg, dPar, dPar3, dFor, dWhile, dLc, dLc2, dDc, dItemsT, dDGet, dDGet2, dApp, dPopAt, dPart, dNoPart, dSlc, fSlc, insOf, dFld, dFldS, dCall, dMeth, dMk, mkEnd, dRevT, dNever, dBits, dDictT, dDict1, fSortD, fListD, sl, wipeD, seqOf, IsLst, getFD, putFD, fIx, List.set, List.length_cons, List.length_nil, List.cons.injEq, and_true, true_and, Nat.reduceAdd, reduceCtorEq, if_true, if_false, Bool.false_eq_true, ne_eq, not_false_eq_true, ite_true, ite_false, hG, dSt, val_st hn hp]
  simp only [dLine, dVar, dC, dOp, dB, dAnd, dOr, dNot, dAndV, dOrV, dNotV, dIf, dNil, dCons, dTup, dLst, dLstT, fAdd, fSub, fDiv, fMod, fPow, fMul, fCmp, fLt, fLe, fGt, fGe, fEq, fNe, fIs, fIsNot, isNonD, dNeg, dCB, on1, fLen, fTup, fLstF, fLstT, fAbs, fInt, onI2, fGcd, fMax2, fMin2, fIsi, frzOf, dSq, dRng1, dRng2, dEnum, dZip, dKeys, dVals, dItems, onK, onS, onD, onB, onKs, onY, onI, onN, dctOf, keyOf, gNm, DL.gNil, DL.gCons, gTp, gSubL, gSubD, dNx, dSeq, dBk, dCt, dDrop, dRet, dRetN, dIfS, dAsg, dPar, dPar3, dFor, dWhile, dLc, dLc2, dDc, dItemsT, dDGet, dDGet2, dApp, dPopAt, dPart, dNoPart, dSlc, fSlc, insOf, dFld, dFldS, dCall, dMeth, dMk, mkEnd, dRevT, dNever, dBits, dDictT, dDict1, fSortD, fListD, sl, wipeD, seqOf, IsLst, getFD, putFD, fIx, List.set, List.length_cons, List.length_nil, List.cons.injEq, and_true, true_and, Nat.reduceAdd, reduceCtorEq, if_true, if_false, Bool.false_eq_true, ne_eq, not_false_eq_true, ite_true, ite_false]
  intro p' hp'
  refine lc_mapA (fun n : Int => dQ (Rat.divInt n (nthZ p.at_ p.ns))) (lt_size (by clear hb; omega)) hp' (fun n hn' G' C _ hc => ?_) ?_
  · simp only [dVar, dC, dOp, dB, dAnd, dOr, dNot, dAndV, dOrV, dNotV, dIf, dNil, dCons, dTup, dLst, dLstT, fAdd, fSub, fDiv, fMod, fPow, fMul, fCmp, fLt, fLe, fGt, fGe, fEq, fNe, fIs, fIsNot, isNonD, dNeg, dCB, on1, fLen, fTup, fLstF, fLstT, fAbs, fInt, onI2, fGcd, fMax2, fMin2, fIsi, frzOf, dSq, dRng1, dRng2, dEnum, dZip, dKeys, dVals, dItems, onK, onS, onD, onB, onKs, onY, onI, onN, dctOf, keyOf, gNm, DL.gNil, DL.gCons, gTp, gSubL, gSubD, dNx, dSeq, dBk, dCt, dDrop, dRet, dRetN, dIfS, dAsg, dPar, dPar3, dFor, dWhile, dLc, dLc2, dDc, dItemsT, dDGet, dDGet2, dApp, dPopAt, dPart, dNoPart, dSlc, fSlc, insOf, dFld, dFldS, dCall, dMeth, dMk, mkEnd, dRevT, dNever, dBits, dDictT, dDict1, fSortD, fListD, sl, wipeD, seqOf, IsLst, getFD, putFD, fIx, List.set, List.length_cons, List.length_nil, List.cons.injEq, and_true, true_and, Nat.reduceAdd, reduceCtorEq, if_true, if_false, Bool.false_eq_true, ne_eq, not_false_eq_true, ite_true, ite_false, at_int hi]
    exact ⟨n, _, rfl, hz, hb, hc⟩
  · unfold dRow at hq
    rw [List.map_map] at hq
    exact hq
theorem perm_lift {α β : Type} (f : α → β) : ∀ (ns : List β) (st : List α), ns.Perm (st.map f) → ∃ st' : List α, st'.Perm st ∧ st'.map f = ns
  | [], st, h => by
    have e := List.Perm.length_eq h
    rw [List.length_map] at e
    have : st = [] := List.length_eq_zero_iff.mp e.symm
    subst this
    exact ⟨[], List.Perm.refl _, rfl⟩
  | n :: r, st, h => by
    have hm : n ∈ st.map f := h.subset (List.mem_cons_self ..)
    obtain ⟨p, hp, rfl⟩ := List.mem_map.mp hm
    obtain ⟨s1, s2, rfl⟩ := List.append_of_mem hp
    have h1 : (s1 ++ p :: s2).Perm (p :: (s1 ++ s2)) := List.perm_middle
    have h2 : (f p :: r).Perm (f p :: (s1 ++ s2).map f) := h.trans (h1.map f)
    obtain ⟨st', e1, e2⟩ := perm_lift f r (s1 ++ s2) h2.cons_inv
    exact ⟨p :: st', (e1.cons p).trans h1.symm, by rw [List.map_cons, e2]⟩
theorem up_of {st : List Ln} (hn : (st.map (·.at_)).Nodup) (hs : (st.map fun p => (p.at_ : Int)).Pairwise (· ≤ ·)) : (st.map (·.at_)).Pairwise (· < ·) := by
  rw [List.pairwise_map] at hs ⊢
  have hn' : st.Pairwise fun a b => a.at_ ≠ b.at_ := List.pairwise_map.mp hn
  exact (hs.and hn').imp fun ⟨h1, h2⟩ => by omega
theorem st_keys {cL : Addr} (st : List Ln) : (st.map fun p => ((.inl (p.at_ : Int) : Key), dLine cL p.ns p.sh)).map (·.1) = (st.map fun p => (p.at_ : Int)).map Sum.inl := by
  rw [List.map_map, List.map_map]
  rfl
theorem l_Reducer_told_rows {cL cR ds G Q} (h : S_Reducer_told_rows cL cR ds G Q) : r_Reducer_told_rows cL cR (Ends1 Q) (startD N_Reducer_told_rows ds) G := by
  obtain ⟨a, st, rfl, hG, hn, hl, hok, hq⟩ := h
  rw [show startD N_Reducer_told_rows [dRed cR a] = [some (dRed cR a), none] from rfl]
  simp only [r_Reducer_told_rows, dRed, dVar, dC, dOp, dB, dAnd, dOr, dNot, dAndV, dOrV, dNotV, dIf, dNil, dCons, dTup, dLst, dLstT, fAdd, fSub, fDiv, fMod, fPow, fMul, fCmp, fLt, fLe, fGt, fGe, fEq, fNe, fIs, fIsNot, isNonD, dNeg, dCB, on1, fLen, fTup, fLstF, fLstT, fAbs, fInt, onI2, fGcd, fMax2, fMin2, fIsi, frzOf, dSq, dRng1, dRng2, dEnum, dZip, dKeys, dVals, dItems, onK, onS, onD, onB, onKs, onY, onI, onN, dctOf, keyOf, gNm, DL.gNil, DL.gCons, gTp, gSubL, gSubD, dNx, dSeq, dBk, dCt, dDrop, dRet, dRetN, dIfS, dAsg, dPar, dPar3, dFor, dWhile, dLc, dLc2, dDc, dItemsT, dDGet, dDGet2, dApp, dPopAt, dPart, dNoPart, dSlc, fSlc, insOf, dFld, dFldS, dCall, dMeth, dMk, mkEnd, dRevT, dNever, dBits, dDictT, dDict1, fSortD, fListD, sl, wipeD, seqOf, IsLst, getFD, putFD, fIx, List.set, List.length_cons, List.length_nil, List.cons.injEq, and_true, true_and, Nat.reduceAdd, reduceCtorEq, if_true, if_false, Bool.false_eq_true, ne_eq, not_false_eq_true, ite_true, ite_false, hG, dSt]
  refine ⟨st.map fun p => (p.at_ : Int), st_keys st, by rw [List.length_map]; exact hl, fun ns' hp hs => ?_⟩
  obtain ⟨st', e1, rfl⟩ := perm_lift _ ns' st hp
  have hn' : (st'.map (·.at_)).Nodup := (e1.map (·.at_)).nodup_iff.mpr hn
  have q := hq st' e1 (up_of hn' hs)
  intro p hp
  rw [List.map_map]
  refine lc_mapA (fun p : Ln => dRow (p.ns.map fun n => Rat.divInt n (nthZ p.at_ p.ns))) (lt_size (by have := e1.length_eq; omega)) hp (fun x hx G' C e hc => ?_) ?_
  · have hx' := e1.subset hx
    obtain ⟨h1, h2, h3, h4⟩ := hok x hx'
    simp only [dVar, dC, dOp, dB, dAnd, dOr, dNot, dAndV, dOrV, dNotV, dIf, dNil, dCons, dTup, dLst, dLstT, fAdd, fSub, fDiv, fMod, fPow, fMul, fCmp, fLt, fLe, fGt, fGe, fEq, fNe, fIs, fIsNot, isNonD, dNeg, dCB, on1, fLen, fTup, fLstF, fLstT, fAbs, fInt, onI2, fGcd, fMax2, fMin2, fIsi, frzOf, dSq, dRng1, dRng2, dEnum, dZip, dKeys, dVals, dItems, onK, onS, onD, onB, onKs, onY, onI, onN, dctOf, keyOf, gNm, DL.gNil, DL.gCons, gTp, gSubL, gSubD, dNx, dSeq, dBk, dCt, dDrop, dRet, dRetN, dIfS, dAsg, dPar, dPar3, dFor, dWhile, dLc, dLc2, dDc, dItemsT, dDGet, dDGet2, dApp, dPopAt, dPart, dNoPart, dSlc, fSlc, insOf, dFld, dFldS, dCall, dMeth, dMk, mkEnd, dRevT, dNever, dBits, dDictT, dDict1, fSortD, fListD, sl, wipeD, seqOf, IsLst, getFD, putFD, fIx, List.set, List.length_cons, List.length_nil, List.cons.injEq, and_true, true_and, Nat.reduceAdd, reduceCtorEq, if_true, if_false, Bool.false_eq_true, ne_eq, not_false_eq_true, ite_true, ite_false]
    exact ⟨rfl, a, st, x, rfl, e a _ hG, hx', hn, h1, h2, h3, h4, hc⟩
  · unfold dTab at q
    rw [List.map_map] at q
    exact q
end K43
set_option Elab.async false
set_option linter.all false
set_option maxRecDepth 100000
set_option maxHeartbeats 4000000
namespace K43
open PySem PySem.Spec PyProof.Rows L2 DL
/-! spans -/
section
variable {S T : Vc → Prop} {v w : Vc}
theorem Sp.one (h : S v) : Sp S v := by
  have := Sp.add (v := v) (w := fun _ => 0) 1 h .zero
  have e : (fun i => 1 * v i + (fun _ => (0 : Rat)) i) = v := funext fun i => by grind
  rw [e] at this
  exact this
theorem Sp.sum (h : Sp S v) (k : Sp S w) : Sp S (fun i => v i + w i) := by
  induction h with
  | zero =>
    have e : (fun i => (fun _ => (0 : Rat)) i + w i) = w := funext fun i => by grind
    rw [e]
    exact k
  | @add a b c ha hb ih =>
    have := Sp.add c ha ih
    have e : (fun i => c * a i + (b i + w i)) = fun i => (c * a i + b i) + w i := funext fun i => by grind
    rw [← e]
    exact this
theorem Sp.smul (c : Rat) (h : Sp S v) : Sp S (fun i => c * v i) := by
  induction h with
  | zero =>
    have e : (fun i : Nat => c * (fun _ : Nat => (0 : Rat)) i) = fun _ => 0 := funext fun i => by grind
    rw [e]
    exact .zero
  | @add a b d ha hb ih =>
    have := Sp.add (c * d) ha ih
    have e : (fun i => (c * d) * a i + c * b i) = fun i => c * (d * a i + b i) := funext fun i => by grind
    rw [← e]
    exact this
theorem Sp.bind (h : ∀ v, S v → Sp T v) (k : Sp S v) : Sp T v := by
  induction k with
  | zero => exact .zero
  | @add a b c ha hb ih => exact (Sp.smul c (h _ ha)).sum ih
theorem Same.of (h : ∀ v, S v → Sp T v) (k : ∀ v, T v → Sp S v) : Same S T := fun v => ⟨Sp.bind h, Sp.bind k⟩
theorem Same.symm (h : Same S T) : Same T S := fun v => (h v).symm
theorem Same.trans {U : Vc → Prop} (h : Same S T) (k : Same T U) : Same S U := fun v => (h v).trans (k v)
end
def comb (t : List (List Rat)) (v : Vc) (i : Nat) : Rat := t.foldr (fun r acc => v (ld r) * vecQ r i + acc) 0
theorem comb_lin (c : Rat) (v w : Vc) (i : Nat) : ∀ t, comb t (fun i => c * v i + w i) i = c * comb t v i + comb t w i
  | [] => by show (0 : Rat) = c * 0 + 0; grind
  | r :: t => by
    have ih := comb_lin c v w i t
    show (c * v (ld r) + w (ld r)) * vecQ r i + comb t (fun i => c * v i + w i) i = c * (v (ld r) * vecQ r i + comb t v i) + (w (ld r) * vecQ r i + comb t w i)
    rw [ih]
    grind
theorem comb_zero {v : Vc} (i : Nat) : ∀ {t : List (List Rat)}, (∀ r ∈ t, v (ld r) = 0 ∨ vecQ r i = 0) → comb t v i = 0
  | [], _ => rfl
  | r :: t, h => by
    have ih := comb_zero i (t := t) fun x hx => h x (List.mem_cons_of_mem _ hx)
    show v (ld r) * vecQ r i + comb t v i = 0
    rw [ih]
    rcases h r (List.mem_cons_self ..) with e | e <;> rw [e] <;> grind
theorem Canon.at_ld {w : Nat} {t : List (List Rat)} (h : Canon w t) {r : List Rat} (hr : r ∈ t) : leadQ r = some (ld r) ∧ vecQ r (ld r) = 1 := by
  obtain ⟨i, e1, e2⟩ := h.lead r hr
  have : ld r = i := by unfold K43.ld; rw [e1]; rfl
  rw [this]
  exact ⟨e1, e2⟩
theorem leadQ_pre : ∀ {r : List Rat} {i j : Nat}, leadQ r = some i → j < i → vecQ r j = 0
  | q :: r, i, j, h, hj => by
    unfold leadQ at h
    by_cases e : q = 0
    · rw [if_pos e] at h
      obtain ⟨k, ek, rfl⟩ := Option.map_eq_some_iff.mp h
      cases j with
      | zero => show (q :: r).getD 0 0 = 0; rw [List.getD_cons_zero]; exact e
      | succ j =>
        show (q :: r).getD (j + 1) 0 = 0
        rw [List.getD_cons_succ]
        exact leadQ_pre (r := r) ek (by omega)
    · rw [if_neg e] at h
      cases h
      omega
/-- rows of a canon are told apart by their leads -/
theorem Canon.nodup {w : Nat} {t : List (List Rat)} (h : Canon w t) : t.Nodup := by
  have : (t.map ld).Nodup := h.up.imp fun hlt => Nat.ne_of_lt hlt
  exact List.Pairwise.of_map ld (fun a b hab e => hab (by rw [e])) this
theorem comb_self {w : Nat} {t : List (List Rat)} (h : Canon w t) {r : List Rat} (hr : r ∈ t) (i : Nat) : comb t (vecQ r) i = vecQ r i := by
  have go : ∀ u : List (List Rat), u.Nodup → (∀ x ∈ u, x ∈ t) → r ∈ u → comb u (vecQ r) i = vecQ r i := by
    intro u
    induction u with
    | nil => intro _ _ hm; cases hm
    | cons x u ih =>
      intro hn hs hm
      rw [List.nodup_cons] at hn
      show vecQ r (ld x) * vecQ x i + comb u (vecQ r) i = vecQ r i
      rcases List.mem_cons.mp hm with e | hm
      · subst e
        rw [comb_zero i fun y hy => .inl (h.off r hr y (hs y (List.mem_cons_of_mem _ hy)) _ (h.at_ld (hs y (List.mem_cons_of_mem _ hy))).1 fun e => hn.1 (e ▸ hy)), (h.at_ld hr).2]
        grind
      · have hx := hs x (List.mem_cons_self ..)
        rw [h.off r hr x hx _ (h.at_ld hx).1 fun e => hn.1 (e ▸ hm), ih hn.2 (fun y hy => hs y (List.mem_cons_of_mem _ hy)) hm]
        grind
  exact go t h.nodup (fun x hx => hx) hr
theorem comb_span {w : Nat} {t : List (List Rat)} (h : Canon w t) {v : Vc} (hv : Sp (inRows t) v) : ∀ i, comb t v i = v i := by
  induction hv with
  | zero => intro i; exact comb_zero i fun _ _ => .inl rfl
  | @add a b c ha hb ih =>
    intro i
    obtain ⟨r, hr, rfl⟩ := ha
    rw [comb_lin c (vecQ r) b i t, comb_self h hr, ih]
/-- what is of the span and nought at the leads is nought -/
theorem span_zero {w : Nat} {t : List (List Rat)} (h : Canon w t) {v : Vc} (hv : Sp (inRows t) v) (hz : ∀ r ∈ t, v (ld r) = 0) (i : Nat) : v i = 0 := by
  rw [← comb_span h hv]
  exact comb_zero i fun r hr => .inl (hz r hr)
/-- where what is of the span first is not nought, there is a lead -/
theorem lead_in {w : Nat} {t : List (List Rat)} (h : Canon w t) {v : Vc} (hv : Sp (inRows t) v) {l : Nat} (hl : v l ≠ 0) (hp : ∀ j, j < l → v j = 0) : ∃ r ∈ t, ld r = l := by
  refine Classical.byContradiction fun hn => hl ?_
  rw [← comb_span h hv]
  refine comb_zero l fun r hr => ?_
  have ne : ld r ≠ l := fun e => hn ⟨r, hr, e⟩
  rcases Nat.lt_or_gt_of_ne ne with hlt | hgt
  · exact .inl (hp _ hlt)
  · exact .inr (leadQ_pre (h.at_ld hr).1 hgt)
theorem up_ext : ∀ {l m : List Nat}, l.Pairwise (· < ·) → m.Pairwise (· < ·) → (∀ x, x ∈ l ↔ x ∈ m) → l = m
  | [], [], _, _, _ => rfl
  | [], b :: m, _, _, h => by have := (h b).mpr (List.mem_cons_self ..); cases this
  | a :: l, [], _, _, h => by have := (h a).mp (List.mem_cons_self ..); cases this
  | a :: l, b :: m, hl, hm, h => by
    rw [List.pairwise_cons] at hl hm
    have e : a = b := by
      have h1 := (h a).mp (List.mem_cons_self ..)
      have h2 := (h b).mpr (List.mem_cons_self ..)
      rcases List.mem_cons.mp h1 with e | h1
      · exact e
      · rcases List.mem_cons.mp h2 with e | h2
        · exact e.symm
        · have := hm.1 a h1
          have := hl.1 b h2
          omega
    subst e
    rw [up_ext hl.2 hm.2 fun x => ?_]
    constructor
    · intro hx
      have := hl.1 x hx
      rcases List.mem_cons.mp ((h x).mp (List.mem_cons_of_mem _ hx)) with e | hx'
      · omega
      · exact hx'
    · intro hx
      have := hm.1 x hx
      rcases List.mem_cons.mp ((h x).mpr (List.mem_cons_of_mem _ hx)) with e | hx'
      · omega
      · exact hx'
theorem vec_ext {w : Nat} {r s : List Rat} (hr : r.length = w) (hs : s.length = w) (h : ∀ i, vecQ r i = vecQ s i) : r = s := by
  refine List.ext_getElem (hr.trans hs.symm) fun i h1 h2 => ?_
  have := h i
  unfold vecQ at this
  rw [List.getD_eq_getElem?_getD, List.getD_eq_getElem?_getD, List.getElem?_eq_getElem h1, List.getElem?_eq_getElem h2] at this
  exact this
theorem leads_sub {w : Nat} {t u : List (List Rat)} (ht : Canon w t) (hu : Canon w u) (h : Same (inRows t) (inRows u)) {r : List Rat} (hr : r ∈ t) : ∃ s ∈ u, ld s = ld r := by
  have e := ht.at_ld hr
  exact lead_in hu ((h _).mp (Sp.one ⟨r, hr, rfl⟩)) (l := ld r) (by rw [e.2]; grind) fun j hj => leadQ_pre e.1 hj
/-- the least form is one alone -/
theorem canon_unique {w : Nat} {t u : List (List Rat)} (ht : Canon w t) (hu : Canon w u) (h : Same (inRows t) (inRows u)) : t = u := by
  have hl : t.map ld = u.map ld := up_ext ht.up hu.up fun x => by
    constructor
    · intro hx
      obtain ⟨r, hr, rfl⟩ := List.mem_map.mp hx
      obtain ⟨s, hs, e⟩ := leads_sub ht hu h hr
      exact List.mem_map.mpr ⟨s, hs, e⟩
    · intro hx
      obtain ⟨r, hr, rfl⟩ := List.mem_map.mp hx
      obtain ⟨s, hs, e⟩ := leads_sub hu ht h.symm hr
      exact List.mem_map.mpr ⟨s, hs, e⟩
  have one : ∀ r ∈ t, ∀ s ∈ u, ld r = ld s → r = s := by
    intro r hr s hs e
    refine vec_ext (ht.len r hr) (hu.len s hs) fun i => ?_
    have hsp : Sp (inRows t) (fun i => vecQ r i + (-1) * vecQ s i) := (Sp.one ⟨r, hr, rfl⟩).sum (Sp.smul (-1) ((h _).mpr (Sp.one ⟨s, hs, rfl⟩)))
    have hz : ∀ q ∈ t, (fun i => vecQ r i + (-1) * vecQ s i) (ld q) = 0 := by
      intro q hq
      show vecQ r (ld q) + (-1) * vecQ s (ld q) = 0
      by_cases e2 : ld q = ld r
      · rw [e2, (ht.at_ld hr).2, e, (hu.at_ld hs).2]
        grind
      · have h1 : vecQ r (ld q) = 0 := ht.off r hr q hq _ (ht.at_ld hq).1 fun z => e2 (by rw [z])
        obtain ⟨q', hq', e3⟩ := leads_sub ht hu h hq
        have h2 : vecQ s (ld q) = 0 := by
          rw [← e3]
          exact hu.off s hs q' hq' _ (hu.at_ld hq').1 fun z => e2 (by rw [← e3, ← z, e])
        rw [h1, h2]
        grind
    have := span_zero ht hsp hz i
    grind
  have go : ∀ (a b : List (List Rat)), a.map ld = b.map ld → (∀ r ∈ a, r ∈ t) → (∀ s ∈ b, s ∈ u) → a = b := by
    intro a
    induction a with
    | nil => intro b e _ _; cases b with
      | nil => rfl
      | cons _ _ => cases e
    | cons r a ih => intro b e h1 h2; cases b with
      | nil => cases e
      | cons s b =>
        rw [List.map_cons, List.map_cons, List.cons.injEq] at e
        rw [one r (h1 r (List.mem_cons_self ..)) s (h2 s (List.mem_cons_self ..)) e.1, ih b e.2 (fun x hx => h1 x (List.mem_cons_of_mem _ hx)) fun x hx => h2 x (List.mem_cons_of_mem _ hx)]
  exact go t u hl (fun _ h => h) fun _ h => h
end K43
set_option Elab.async false
set_option linter.all false
set_option maxRecDepth 100000
set_option maxHeartbeats 4000000
namespace K43
open PySem PySem.Spec PyProof.Rows L2 DL
theorem ev_less {ns ms sh th i ns' sh'} (h : Less ns ms sh th i ns' sh') : ∃ g : Int, 0 < g ∧ ∀ x, g * ev ns' sh' x = nthZ i ms * ev ns sh x - nthZ i ns * ev ms th x := by
  obtain ⟨g, hg, h1, h2⟩ := h.g
  exact ⟨g, hg, fun x => match x with
    | .inl i => h1 i
    | .inr l => h2 l⟩
theorem mem_ev {ns : List Int} {sh : Sh} (hn : (sh.map (·.1)).Nodup) {n : Int} (h : n ∈ allOf ns sh) : ∃ x, ev ns sh x = n := by
  rcases List.mem_append.mp h with h | h
  · obtain ⟨i, hi, e⟩ := List.mem_iff_getElem.mp h
    refine ⟨.inl i, ?_⟩
    show nthZ i ns = n
    unfold nthZ
    rw [List.getD_eq_getElem?_getD, List.getElem?_eq_getElem hi]
    exact e
  · obtain ⟨p, hp, e⟩ := List.mem_map.mp h
    exact ⟨.inr p.1, (getZ_mem hn hp).trans e⟩
theorem ev_mem {ns : List Int} {sh : Sh} {x : Nat ⊕ Int} (h : ev ns sh x ≠ 0) : ev ns sh x ∈ allOf ns sh := by
  cases x with
  | inl i =>
    rcases nth_mem i ns with h1 | h1
    · exact List.mem_append_left _ h1
    · exact absurd h1 h
  | inr l =>
    obtain ⟨v, h1, h2⟩ := getZ_in (l := l) h
    show getZ l sh ∈ _
    rw [h2]
    exact List.mem_append_right _ (List.mem_map.mpr ⟨_, h1, rfl⟩)
theorem small_ev {ns : List Int} {sh : Sh} {e : Nat} (hn : (sh.map (·.1)).Nodup) (h : ∀ x, (ev ns sh x).natAbs < 2 ^ e) : Small e ns sh := fun n hn' => by
  obtain ⟨x, rfl⟩ := mem_ev hn hn'
  exact h x
theorem gcdL_mul (A : Int) : ∀ xs : List Int, gcdL (xs.map (A * ·)) = A.natAbs * gcdL xs
  | [] => (Nat.mul_zero _).symm
  | n :: r => by
    rw [List.map_cons, gcdL_cons, gcdL_cons, gcdL_mul A r, Int.natAbs_mul, Nat.gcd_mul_left]
theorem dvd_prim {A D : Int} {xs : List Int} (hg : gcdL xs = 1) (h : ∀ n ∈ xs, D ∣ A * n) : D ∣ A := by
  have h1 : D.natAbs ∣ gcdL (xs.map (A * ·)) := gcdL_great fun n hn => by
    obtain ⟨k, hk, rfl⟩ := List.mem_map.mp hn
    exact Int.natAbs_dvd.mpr (h k hk)
  rw [gcdL_mul, hg, Nat.mul_one] at h1
  exact Int.natAbs_dvd_natAbs.mp h1
theorem prim_one {ns : List Int} {sh : Sh} {x : Nat ⊕ Int} (h : ev ns sh x ≠ 0) (hp : gcdL (allOf ns sh) ≤ 1) : gcdL (allOf ns sh) = 1 := by
  have h1 := gcdL_dvd (ev_mem h)
  rcases Nat.eq_zero_or_pos (gcdL (allOf ns sh)) with z | z
  · rw [z] at h1
    exact absurd (Int.zero_dvd.mp h1) h
  · omega
theorem abs_le_mul {a b : Int} (h : a ≠ 0) : b.natAbs ≤ (a * b).natAbs := by
  rw [Int.natAbs_mul]
  exact Nat.le_mul_of_pos_left _ (Int.natAbs_pos.mpr h)
/-- the loop of left -/
structure LI (w : Nat) (m : Int) (D : Int) (N : Nat) (st : List Ln) (ns : List Int) (sh : Sh) (d r : List Ln) (nf : List Int) (sf : Sh) : Prop where
  len : nf.length = w
  lab : LabOk (m + 1) sf
  prim : gcdL (allOf nf sf) ≤ 1
  W : ∃ (a : Int) (W : Nat ⊕ Int → Int), a ≠ 0 ∧ (∀ x, a * ev nf sf x = W x) ∧ (∀ x, (W x).natAbs ≤ (d.length + 1) * 360 * N) ∧ (∀ p ∈ d, W (.inl p.at_) = 0) ∧ (∀ p ∈ r, W (.inl p.at_) = D * ev ns sh (.inl p.at_)) ∧ W (.inr m) = D * getZ m sh
  sp : ∃ c : Rat, c ≠ 0 ∧ Sp (inSt st) fun i => vecZ nf i - c * vecZ ns i
section
variable {w : Nat} {m D : Int} {N : Nat} {st : List Ln} {ns : List Int} {sh : Sh} {d r : List Ln} {p : Ln} {nf nf' : List Int} {sf sf' : Sh}
theorem LI.start (hs : StOk w m D N st) (hl : ns.length = w) (hlab : LabOk (m + 1) sh) (hg : gcdL (allOf ns sh) ≤ 1) (hb : ∀ x, (ev ns sh x).natAbs ≤ 360) : LI w m D N st ns sh [] r ns sh := by
  refine ⟨hl, hlab, hg, ⟨D, fun x => D * ev ns sh x, hs.d, fun _ => rfl, fun x => ?_, (fun p hp => nomatch hp), (fun p hp => rfl), rfl⟩, 1, by grind, ?_⟩
  · show (D * ev ns sh x).natAbs ≤ _
    rw [Int.natAbs_mul]
    have h1 := Nat.mul_le_mul hs.dn (hb x)
    rw [show ([] : List Ln).length = 0 from rfl, Nat.zero_add, Nat.one_mul, Nat.mul_comm 360]
    exact h1
  · have e : (fun i => vecZ ns i - 1 * vecZ ns i) = fun _ => (0 : Rat) := funext fun i => by grind
    rw [e]
    exact .zero
theorem LI.skip (h : LI w m D N st ns sh d (p :: r) nf sf) (h0 : nthZ p.at_ nf = 0) : LI w m D N st ns sh (d ++ [p]) r nf sf := by
  obtain ⟨a, W, ha, hW, hb, hd, hr, hm⟩ := h.W
  refine ⟨h.len, h.lab, h.prim, ⟨a, W, ha, hW, fun x => Nat.le_trans (hb x) ?_, fun q hq => ?_, fun q hq => hr q (List.mem_cons_of_mem _ hq), hm⟩, h.sp⟩
  · rw [List.length_append]
    exact Nat.mul_le_mul_right _ (Nat.mul_le_mul_right _ (by omega))
  · rcases List.mem_append.mp hq with hq | hq
    · exact hd q hq
    · rw [List.mem_singleton.mp hq, ← hW]
      show a * nthZ p.at_ nf = 0
      rw [h0, Int.mul_zero]
theorem LI.step (hs : StOk w m D N st) (hm : getZ m sh ≠ 0) (hb : ∀ x, (ev ns sh x).natAbs ≤ 360) (hp : p ∈ st) (hd : ∀ q ∈ d, q ∈ st ∧ q.at_ ≠ p.at_) (hr : ∀ q ∈ r, q ∈ st ∧ q.at_ ≠ p.at_)
    (h : LI w m D N st ns sh d (p :: r) nf sf) (hl : Less nf p.ns sf p.sh p.at_ nf' sf') : LI w m D N st ns sh (d ++ [p]) r nf' sf' := by
  obtain ⟨a, W, ha, hW, hbW, hdW, hrW, hmW⟩ := h.W
  obtain ⟨g, hg, hl2⟩ := ev_less hl
  have ho := hs.ln p hp
  obtain ⟨c, hc, hcb⟩ := ho.c
  have hc0 : c ≠ 0 := fun z => hs.d (by rw [← hc, z, Int.zero_mul])
  have hby : nthZ p.at_ p.ns ≠ 0 := fun z => hs.d (by rw [← hc]; show c * nthZ p.at_ p.ns = 0; rw [z, Int.mul_zero])
  have hlab : LabOk (m + 1) sf' := hl.lab _ h.lab ⟨ho.lab.1, fun q hq => ⟨(ho.lab.2 q hq).1, by have := (ho.lab.2 q hq).2; omega⟩⟩
  have hWp := hrW p (List.mem_cons_self ..)
  have hpm : getZ m p.sh = 0 := getZ_out fun z => by
    obtain ⟨q, hq, e⟩ := List.mem_map.mp z
    have := (ho.lab.2 q hq).2
    omega
  have key : ∀ x, c * a * g * ev nf' sf' x = D * (W x - ev ns sh (.inl p.at_) * (c * ev p.ns p.sh x)) := fun x => by
    have e1 := hl2 x
    have e2 := hW x
    have e3 : a * nthZ p.at_ nf = D * ev ns sh (.inl p.at_) := (hW (.inl p.at_)).trans hWp
    have e4 : c * nthZ p.at_ p.ns = D := hc
    calc c * a * g * ev nf' sf' x = c * a * (g * ev nf' sf' x) := by rw [Int.mul_assoc]
      _ = c * a * (nthZ p.at_ p.ns * ev nf sf x - nthZ p.at_ nf * ev p.ns p.sh x) := by rw [e1]
      _ = (c * nthZ p.at_ p.ns) * (a * ev nf sf x) - (a * nthZ p.at_ nf) * (c * ev p.ns p.sh x) := by grind
      _ = D * W x - (D * ev ns sh (.inl p.at_)) * (c * ev p.ns p.sh x) := by rw [e4, e2, e3]
      _ = _ := by grind
  have hA : c * a * g ≠ 0 := Int.mul_ne_zero (Int.mul_ne_zero hc0 ha) (by omega)
  have hmv : W (.inr m) - ev ns sh (.inl p.at_) * (c * ev p.ns p.sh (.inr m)) = D * getZ m sh := by
    show W (.inr m) - ev ns sh (.inl p.at_) * (c * getZ m p.sh) = _
    rw [hpm, Int.mul_zero, Int.mul_zero, Int.sub_zero, hmW]
  have hne : ev nf' sf' (.inr m) ≠ 0 := fun z => by
    have := key (.inr m)
    rw [hmv, z, Int.mul_zero] at this
    exact Int.mul_ne_zero hs.d (Int.mul_ne_zero hs.d hm) this.symm
  have hdv : D ∣ c * a * g := dvd_prim (prim_one hne hl.prim) fun n hn => by
    obtain ⟨x, rfl⟩ := mem_ev hlab.1 hn
    exact ⟨_, key x⟩
  obtain ⟨a', ha'⟩ := hdv
  refine ⟨by rw [hl.len, h.len], hlab, hl.prim, ⟨a', fun x => W x - ev ns sh (.inl p.at_) * (c * ev p.ns p.sh x), fun z => hA (by rw [ha', z, Int.mul_zero]), fun x => ?_, fun x => ?_, fun q hq => ?_, fun q hq => ?_, hmv⟩, ?_⟩
  · have := key x
    rw [ha', Int.mul_assoc] at this
    exact Int.eq_of_mul_eq_mul_left hs.d this
  · show (W x - ev ns sh (.inl p.at_) * (c * ev p.ns p.sh x)).natAbs ≤ _
    have h1 := hbW x
    have h2 : (ev ns sh (.inl p.at_) * (c * ev p.ns p.sh x)).natAbs ≤ 360 * N := by
      rw [Int.natAbs_mul]
      exact Nat.mul_le_mul (hb _) (hcb x)
    rw [List.length_append, show [p].length = 1 from rfl, Nat.add_mul, Nat.add_mul, Nat.one_mul]
    generalize (d.length + 1) * 360 * N = A at *
    generalize ev ns sh (.inl p.at_) * (c * ev p.ns p.sh x) = B at *
    generalize W x = C at *
    omega
  · show W (.inl q.at_) - ev ns sh (.inl p.at_) * (c * ev p.ns p.sh (.inl q.at_)) = 0
    rcases List.mem_append.mp hq with hq | hq
    · have h3 : nthZ q.at_ p.ns = 0 := hs.off p hp q (hd q hq).1 fun e => (hd q hq).2 e.symm
      rw [hdW q hq]
      show 0 - _ * (c * nthZ q.at_ p.ns) = 0
      rw [h3, Int.mul_zero, Int.mul_zero, Int.sub_zero]
    · rw [List.mem_singleton.mp hq, hWp, hc, Int.mul_comm, Int.sub_self]
  · show W (.inl q.at_) - ev ns sh (.inl p.at_) * (c * ev p.ns p.sh (.inl q.at_)) = _
    have h3 : nthZ q.at_ p.ns = 0 := hs.off p hp q (hr q hq).1 fun e => (hr q hq).2 e.symm
    rw [hrW q (List.mem_cons_of_mem _ hq)]
    show _ - _ * (c * nthZ q.at_ p.ns) = _
    rw [h3, Int.mul_zero, Int.mul_zero, Int.sub_zero]
  · obtain ⟨k, hk, hsp⟩ := h.sp
    have hg0 : (g : Rat) ≠ 0 := by
      intro z
      have : g = 0 := by exact_mod_cast z
      omega
    have hb0 : ((nthZ p.at_ p.ns : Int) : Rat) ≠ 0 := fun z => hby (by exact_mod_cast z)
    refine ⟨(nthZ p.at_ p.ns : Rat) / (g : Rat) * k, by grind, ?_⟩
    have h5 := (Sp.smul ((nthZ p.at_ p.ns : Rat) / (g : Rat)) hsp).sum (Sp.smul (-(nthZ p.at_ nf : Rat) / (g : Rat)) (Sp.one (S := inSt st) ⟨p, hp, rfl⟩))
    have e : (fun i => (nthZ p.at_ p.ns : Rat) / (g : Rat) * (vecZ nf i - k * vecZ ns i) + -(nthZ p.at_ nf : Rat) / (g : Rat) * vecZ p.ns i) = fun i => vecZ nf' i - (nthZ p.at_ p.ns : Rat) / (g : Rat) * k * vecZ ns i := funext fun i => by
      have e1 : g * nthZ i nf' = nthZ p.at_ p.ns * nthZ i nf - nthZ p.at_ nf * nthZ i p.ns := hl2 (.inl i)
      have e2 : (g : Rat) * vecZ nf' i = (nthZ p.at_ p.ns : Rat) * vecZ nf i - (nthZ p.at_ nf : Rat) * vecZ p.ns i := by
        unfold vecZ
        rw [← Rat.intCast_mul, e1, Rat.intCast_sub, Rat.intCast_mul, Rat.intCast_mul]
      grind
    rw [e] at h5
    exact h5
end
end K43
set_option Elab.async false
set_option linter.all false
set_option maxRecDepth 100000
set_option maxHeartbeats 4000000
namespace K43
open PySem PySem.Spec PyProof.Rows L2 DL
theorem left_go {cL cR : Addr} {a : Addr} {st : List Ln} {ns : List Int} {sh : Sh} {G : GH} {Q : DE} (hG : G a = some (dSt cL st)) (hl : st.length < 64) (hn : (st.map (·.at_)).Nodup)
    (P : List Ln → List Ln → List Int → Sh → Prop) (h0 : ∀ st' : List Ln, st'.Perm st → P [] st' ns sh)
    (hi : ∀ d p r nf sf, (d ++ p :: r).Perm st → P d (p :: r) nf sf → p.at_ < nf.length)
    (hsk : ∀ d p r nf sf, (d ++ p :: r).Perm st → P d (p :: r) nf sf → nthZ p.at_ nf = 0 → P (d ++ [p]) r nf sf)
    (hst : ∀ d p r nf sf, (d ++ p :: r).Perm st → P d (p :: r) nf sf → nthZ p.at_ nf ≠ 0 → (nf.length ≤ 100 ∧ p.ns.length = nf.length ∧ LabOk 100 sf ∧ LabOk 100 p.sh ∧ Small 4400 nf sf ∧ Small 4400 p.ns p.sh) ∧ ∀ nf' sf', Less nf p.ns sf p.sh p.at_ nf' sf' → P (d ++ [p]) r nf' sf')
    (he : ∀ d nf sf, d.Perm st → P d [] nf sf → Q (dLine cL nf sf) G) : r_Reducer_left cL cR (Ends1 Q) (startD N_Reducer_left [dRed cR a, dLine cL ns sh]) G := by
  rw [show startD N_Reducer_left [dRed cR a, dLine cL ns sh] = [some (dRed cR a), some (dLine cL ns sh), none, none] from rfl]
  simp only [r_Reducer_left, dRed, dVar, dC, dOp, dB, dAnd, dOr, dNot, dAndV, dOrV, dNotV, dIf, dNil, dCons, dTup, dLst, dLstT, fAdd, fSub, fDiv, fMod, fPow, fMul, fCmp, fLt, fLe, fGt, fGe, fEq, fNe, fIs, fIsNot, isNonD, dNeg, dCB, on1, fLen, fTup, fLstF, fLstT, fAbs, fInt, onI2, fGcd, fMax2, fMin2, fIsi, frzOf, dSq, dRng1, dRng2, dEnum, dZip, dKeys, dVals, dItems, onK, onS, onD, onB, onKs, onY, onI, onN, dctOf, keyOf, gNm, DL.gNil, DL.gCons, gTp, gSubL, gSubD, dNx, dSeq, dBk, dCt, dDrop, dRet, dRetN, dIfS, dAsg, dPar, dPar3, dFor, dWhile, dLc, dLc2, dDc, dItemsT, dDGet, dDGet2, dApp, dPopAt, dPart, dNoPart, dSlc, fSlc, insOf, dFld, dFldS, dCall, dMeth, dMk, mkEnd, dRevT, dNever, dBits, dDictT, dDict1, fSortD, fListD, sl, wipeD, seqOf, IsLst, getFD, putFD, fIx, List.set, List.length_cons, List.length_nil, List.cons.injEq, and_true, true_and, Nat.reduceAdd, reduceCtorEq, if_true, if_false, Bool.false_eq_true, ne_eq, not_false_eq_true, ite_true, ite_false, hG, dSt]
  refine ⟨st.map fun p => (p.at_ : Int), st_keys st, by rw [List.length_map]; exact hl, fun ns' hp hs => ?_⟩
  obtain ⟨st', e1, rfl⟩ := perm_lift _ ns' st hp
  refine for_run (fun rest ρ G' => ∃ (d r : List Ln) (nf : List Int) (sf : Sh) (o : Option D), d ++ r = st' ∧ rest = r.map (fun p => D.int (p.at_ : Int)) ∧
    ρ = [some (dRed cR a), some (dLine cL ns sh), some (dLine cL nf sf), o] ∧ G' = G ∧ P d r nf sf) ?_ ?_ _ _ _ ⟨[], st', ns, sh, none, rfl, by rw [List.map_map]; rfl, rfl, rfl, h0 st' e1⟩
  · rintro ρ G' ⟨d, r, nf, sf, o, e2, e3, rfl, rfl, hP⟩
    have er : r = [] := by
      cases r with
      | nil => rfl
      | cons _ _ => cases e3
    subst er
    rw [List.append_nil] at e2
    subst e2
    simp only [dVar, dC, dOp, dB, dAnd, dOr, dNot, dAndV, dOrV, dNotV, dIf, dNil, dCons, dTup, dLst, dLstT, fAdd, fSub, fDiv, fMod, fPow, fMul, fCmp, fLt, fLe, fGt, fGe, fEq, fNe, fIs, fIsNot, isNonD, dNeg, dCB, on1, fLen, fTup, fLstF, fLstT, fAbs, fInt, onI2, fGcd, fMax2, fMin2, fIsi, frzOf, dSq, dRng1, dRng2, dEnum, dZip, dKeys, dVals, dItems, onK, onS, onD, onB, onKs, onY, onI, onN, dctOf, keyOf, gNm, DL.gNil, DL.gCons, gTp, gSubL, gSubD, dNx, dSeq, dBk, dCt, dDrop, dRet, dRetN, dIfS, dAsg, dPar, dPar3, dFor, dWhile, dLc, dLc2, dDc, dItemsT, dDGet, dDGet2, dApp, dPopAt, dPart, dNoPart, dSlc, fSlc, insOf, dFld, dFldS, dCall, dMeth, dMk, mkEnd, dRevT, dNever, dBits, dDictT, dDict1, fSortD, fListD, sl, wipeD, seqOf, IsLst, getFD, putFD, fIx, List.set, List.length_cons, List.length_nil, List.cons.injEq, and_true, true_and, Nat.reduceAdd, reduceCtorEq, if_true, if_false, Bool.false_eq_true, ne_eq, not_false_eq_true, ite_true, ite_false]
    exact he d nf sf e1 hP
  · rintro x rest ρ G' C ⟨d, r, nf, sf, o, e2, e3, rfl, rfl, hP⟩ hc
    cases r with
    | nil => cases e3
    | cons p r =>
      cases e3
      have hperm : (d ++ p :: r).Perm st := by rw [e2]; exact e1
      have hlt := hi d p r nf sf hperm hP
      have hp' : p ∈ st := hperm.subset (List.mem_append_right _ (List.mem_cons_self ..))
      simp only [dRed, dLine, dVar, dC, dOp, dB, dAnd, dOr, dNot, dAndV, dOrV, dNotV, dIf, dNil, dCons, dTup, dLst, dLstT, fAdd, fSub, fDiv, fMod, fPow, fMul, fCmp, fLt, fLe, fGt, fGe, fEq, fNe, fIs, fIsNot, isNonD, dNeg, dCB, on1, fLen, fTup, fLstF, fLstT, fAbs, fInt, onI2, fGcd, fMax2, fMin2, fIsi, frzOf, dSq, dRng1, dRng2, dEnum, dZip, dKeys, dVals, dItems, onK, onS, onD, onB, onKs, onY, onI, onN, dctOf, keyOf, gNm, DL.gNil, DL.gCons, gTp, gSubL, gSubD, dNx, dSeq, dBk, dCt, dDrop, dRet, dRetN, dIfS, dAsg, dPar, dPar3, dFor, dWhile, dLc, dLc2, dDc, dItemsT, dDGet, dDGet2, dApp, dPopAt, dPart, dNoPart, dSlc, fSlc, insOf, dFld, dFldS, dCall, dMeth, dMk, mkEnd, dRevT, dNever, dBits, dDictT, dDict1, fSortD, fListD, sl, wipeD, seqOf, IsLst, getFD, putFD, fIx, List.set, List.length_cons, List.length_nil, List.cons.injEq, and_true, true_and, Nat.reduceAdd, reduceCtorEq, if_true, if_false, Bool.false_eq_true, ne_eq, not_false_eq_true, ite_true, ite_false, at_int hlt, deq_int, dok_int, Bool.and_self, hG, dSt]
      by_cases hz : nthZ p.at_ nf = 0
      · rw [if_neg (by rw [decide_eq_true hz]; decide)]
        refine hc _ _ ⟨d ++ [p], r, nf, sf, some (.int p.at_), by rw [List.append_assoc]; exact e2, rfl, rfl, rfl, hsk d p r nf sf hperm hP hz⟩
      · rw [if_pos (by rw [decide_eq_false hz]; decide)]
        have hv := val_st (cL := cL) hn hp'
        unfold dLine at hv
        simp only [hv]
        obtain ⟨⟨q1, q2, q3, q4, q5, q6⟩, hnext⟩ := hst d p r nf sf hperm hP hz
        refine ⟨rfl, nf, p.ns, sf, p.sh, p.at_, rfl, q1, q2, hlt, q3, q4, q5, q6, fun ns2 sh2 hL => ?_⟩
        refine hc _ _ ⟨d ++ [p], r, ns2, sh2, some (.int p.at_), by rw [List.append_assoc]; exact e2, rfl, rfl, rfl, hnext _ _ hL⟩
theorem perm_ne {d r st : List Ln} {p : Ln} (h : (d ++ p :: r).Perm st) (hn : (st.map (·.at_)).Nodup) : p ∈ st ∧ (∀ q ∈ d, q ∈ st ∧ q.at_ ≠ p.at_) ∧ ∀ q ∈ r, q ∈ st ∧ q.at_ ≠ p.at_ := by
  have hn2 : ((d ++ p :: r).map (·.at_)).Nodup := (h.map (·.at_)).nodup_iff.mpr hn
  rw [List.map_append, List.map_cons] at hn2
  obtain ⟨n1, n2, n3⟩ := List.nodup_append.mp hn2
  rw [List.nodup_cons] at n2
  refine ⟨h.subset (List.mem_append_right _ (List.mem_cons_self ..)), fun q hq => ⟨h.subset (List.mem_append_left _ hq), ?_⟩, fun q hq => ⟨h.subset (List.mem_append_right _ (List.mem_cons_of_mem _ hq)), fun e => n2.1 ?_⟩⟩
  · exact n3 _ (List.mem_map_of_mem hq) _ (List.mem_cons_self ..)
  · rw [← e]
    exact List.mem_map_of_mem hq
theorem LabOk.mono {m n : Int} {sh : Sh} (h : LabOk m sh) (k : m ≤ n) : LabOk n sh := ⟨h.1, fun p hp => ⟨(h.2 p hp).1, Int.lt_of_lt_of_le (h.2 p hp).2 k⟩⟩
theorem LnOk.small {w : Nat} {m D : Int} {N : Nat} {p : Ln} (h : LnOk w m D N p) (hD : D ≠ 0) (hN : N < 2 ^ 4400) : Small 4400 p.ns p.sh := by
  obtain ⟨c, hc, hcb⟩ := h.c
  have hc0 : c ≠ 0 := fun z => hD (by rw [← hc, z, Int.zero_mul])
  exact small_ev h.lab.1 fun x => Nat.lt_of_le_of_lt (Nat.le_trans (abs_le_mul hc0) (hcb x)) hN
theorem l_Reducer_left {cL cR ds G Q} (h : S_Reducer_left cL cR ds G Q) : r_Reducer_left cL cR (Ends1 Q) (startD N_Reducer_left ds) G := by
  obtain ⟨a, st, ns, sh, rfl, hG, hl, h⟩ := h
  rcases h with ⟨w, m, D, N, hs, hlen, hw, hm0, hm1, hlab, hmz, hb, hg, hN, hq⟩ | ⟨hnd, hz, hq⟩
  · have hN2 : N < 2 ^ 4400 := by
      refine Nat.lt_of_le_of_lt ?_ hN
      rw [Nat.mul_assoc]
      exact Nat.le_trans (Nat.le_mul_of_pos_left N (by decide : 0 < 360)) (Nat.le_mul_of_pos_left _ (Nat.succ_pos _))
    refine left_go hG hl hs.nd (fun d r nf sf => LI w m D N st ns sh d r nf sf) (fun st' hp => LI.start hs hlen hlab hg hb) ?_ (fun d p r nf sf _ h hz => h.skip hz) ?_ ?_
    · intro d p r nf sf hp h
      rw [h.len]
      exact (hs.ln p (perm_ne hp hs.nd).1).lt
    · intro d p r nf sf hp h hz
      obtain ⟨h1, h2, h3⟩ := perm_ne hp hs.nd
      have ho := hs.ln p h1
      refine ⟨⟨by rw [h.len]; exact hw, by rw [h.len, ho.len], h.lab.mono (by omega), ho.lab.mono (by omega), ?_, ho.small hs.d hN2⟩, fun ns2 sh2 hL => LI.step hs hmz hb h1 h2 h3 h hL⟩
      obtain ⟨a2, W, ha2, hW, hbW, _⟩ := h.W
      refine small_ev h.lab.1 fun x => Nat.lt_of_le_of_lt (Nat.le_trans (abs_le_mul ha2) ?_) hN
      rw [hW x]
      refine Nat.le_trans (hbW x) (Nat.mul_le_mul_right _ (Nat.mul_le_mul_right _ ?_))
      have := hp.length_eq
      rw [List.length_append, List.length_cons] at this
      omega
    · intro d nf sf hp h
      obtain ⟨a2, W, ha2, hW, hbW, hd, _⟩ := h.W
      refine hq nf sf h.len h.lab (fun p hp' => ?_) ⟨a2, ha2, fun x => ?_⟩ h.sp
      · have h1 := hd p (hp.symm.subset hp')
        rw [← hW] at h1
        exact (Int.mul_eq_zero.mp h1).resolve_left ha2
      · rw [hW, ← hp.length_eq]
        exact hbW x
  · refine left_go hG hl hnd (fun d r nf sf => nf = ns ∧ sf = sh) (fun st' hp => ⟨rfl, rfl⟩) ?_ (fun d p r nf sf _ h _ => h) ?_ ?_
    · rintro d p r nf sf hp ⟨rfl, rfl⟩
      exact (hz p (perm_ne hp hnd).1).1
    · rintro d p r nf sf hp ⟨rfl, rfl⟩ h0
      exact absurd (hz p (perm_ne hp hnd).1).2 h0
    · rintro d nf sf _ ⟨rfl, rfl⟩
      exact hq
end K43
set_option Elab.async false
set_option linter.all false
set_option maxRecDepth 100000
set_option maxHeartbeats 4000000
namespace K43
open PySem PySem.Spec PyProof.Rows L2 DL
theorem leadZ_le : ∀ ns : List Int, leadZ ns ≤ ns.length
  | [] => Nat.le_refl 0
  | n :: r => by
    unfold leadZ
    have := leadZ_le r
    rw [List.length_cons]
    split <;> omega
theorem leadZ_pre : ∀ {ns : List Int} {j : Nat}, j < leadZ ns → nthZ j ns = 0
  | [], j, h => rfl
  | n :: r, j, h => by
    unfold leadZ at h
    by_cases e : n = 0
    · rw [if_pos e] at h
      cases j with
      | zero => exact e
      | succ j => exact leadZ_pre (ns := r) (by omega)
    · rw [if_neg e] at h
      omega
theorem leadZ_ne : ∀ {ns : List Int}, leadZ ns < ns.length → nthZ (leadZ ns) ns ≠ 0
  | [], h => absurd h (Nat.lt_irrefl 0)
  | n :: r, h => by
    unfold leadZ at h ⊢
    by_cases e : n = 0
    · rw [if_pos e] at h ⊢
      rw [List.length_cons] at h
      exact leadZ_ne (ns := r) (by omega)
    · rw [if_neg e]
      exact e
theorem leadZ_all {ns : List Int} (h : leadZ ns = ns.length) (j : Nat) : nthZ j ns = 0 := by
  by_cases hj : j < ns.length
  · exact leadZ_pre (by omega)
  · unfold nthZ
    rw [List.getD_eq_getElem?_getD, List.getElem?_eq_none (by omega)]
    rfl
/-- the lines behind a fresh one -/
structure Upd (h : Nat) (nf : List Int) (sf : Sh) (p p' : Ln) : Prop where
  at_ : p'.at_ = p.at_
  or_ : (nthZ h p.ns = 0 ∧ p' = p) ∨ (nthZ h p.ns ≠ 0 ∧ Less p.ns nf p.sh sf h p'.ns p'.sh)
inductive UpdL (h : Nat) (nf : List Int) (sf : Sh) : List Ln → List Ln → Prop
  | nil : UpdL h nf sf [] []
  | snoc {st st' : List Ln} {p p' : Ln} : UpdL h nf sf st st' → Upd h nf sf p p' → UpdL h nf sf (st ++ [p]) (st' ++ [p'])
section
variable {h : Nat} {nf : List Int} {sf : Sh} {st st' : List Ln}
theorem UpdL.ats (k : UpdL h nf sf st st') : st'.map (·.at_) = st.map (·.at_) := by
  induction k with
  | nil => rfl
  | snoc _ u ih => rw [List.map_append, List.map_append, ih, List.map_cons, List.map_cons, u.at_]
theorem UpdL.back (k : UpdL h nf sf st st') : ∀ {p'}, p' ∈ st' → ∃ p ∈ st, Upd h nf sf p p' := by
  induction k with
  | nil => intro p' hp; cases hp
  | snoc _ u ih =>
    intro p' hp
    rcases List.mem_append.mp hp with hp | hp
    · obtain ⟨q, hq, hu⟩ := ih hp
      exact ⟨q, List.mem_append_left _ hq, hu⟩
    · rw [List.mem_singleton.mp hp]
      exact ⟨_, List.mem_append_right _ (List.mem_cons_self ..), u⟩
theorem UpdL.forth (k : UpdL h nf sf st st') : ∀ {p}, p ∈ st → ∃ p' ∈ st', Upd h nf sf p p' := by
  induction k with
  | nil => intro p' hp; cases hp
  | snoc _ u ih =>
    intro p' hp
    rcases List.mem_append.mp hp with hp | hp
    · obtain ⟨q, hq, hu⟩ := ih hp
      exact ⟨q, List.mem_append_left _ hq, hu⟩
    · rw [List.mem_singleton.mp hp]
      exact ⟨_, List.mem_append_right _ (List.mem_cons_self ..), u⟩
theorem UpdL.same (k : UpdL h nf sf st st') (hz : ∀ p ∈ st, nthZ h p.ns = 0) : st' = st := by
  induction k with
  | nil => rfl
  | @snoc st st' p p' _ u ih =>
    rw [ih fun q hq => hz q (List.mem_append_left _ hq)]
    rcases u.or_ with ⟨_, e⟩ | ⟨e, _⟩
    · rw [e]
    · exact absurd (hz p (List.mem_append_right _ (List.mem_cons_self ..))) e
end
theorem left_mono {cL cR ds G} {Q Q' : DE} (h : S_Reducer_left cL cR ds G Q) (k : ∀ v G', Q v G' → Q' v G') : S_Reducer_left cL cR ds G Q' := by
  obtain ⟨a, st, ns, sh, e, hG, hl, h⟩ := h
  refine ⟨a, st, ns, sh, e, hG, hl, ?_⟩
  rcases h with ⟨w, m, D, N, h1, h2, h3, h4, h5, h6, h7, h8, h9, h10, hq⟩ | ⟨h1, h2, hq⟩
  · exact .inl ⟨w, m, D, N, h1, h2, h3, h4, h5, h6, h7, h8, h9, h10, fun ns' sh' a b c d e => k _ _ (hq ns' sh' a b c d e)⟩
  · exact .inr ⟨h1, h2, k _ _ hq⟩
theorem put_at {cL : Addr} {d r : List Ln} {p : Ln} (ns : List Int) (sh : Sh) (h : p.at_ ∉ d.map (·.at_)) (h2 : p.at_ ∉ r.map (·.at_)) :
    putKD ((d ++ p :: r).map fun p => ((.inl (p.at_ : Int) : Key), dLine cL p.ns p.sh)) (.inl (p.at_ : Int)) (dLine cL ns sh) = (d ++ ⟨p.at_, ns, sh⟩ :: r).map fun p => ((.inl (p.at_ : Int) : Key), dLine cL p.ns p.sh) := by
  unfold putKD
  have e : (((d ++ p :: r).map fun p => ((.inl (p.at_ : Int) : Key), dLine cL p.ns p.sh)).any fun q => decide (q.1 = (.inl (p.at_ : Int) : Key))) = true := by
    rw [List.any_eq_true]
    exact ⟨_, List.mem_map_of_mem (List.mem_append_right _ (List.mem_cons_self ..)), decide_eq_true rfl⟩
  rw [if_pos e, List.map_append, List.map_append, List.map_append, List.map_cons, List.map_cons, List.map_cons]
  have go : ∀ l : List Ln, p.at_ ∉ l.map (·.at_) → (l.map fun p => ((.inl (p.at_ : Int) : Key), dLine cL p.ns p.sh)).map (fun q => if q.1 = (.inl (p.at_ : Int) : Key) then (q.1, dLine cL ns sh) else q) = l.map fun p => ((.inl (p.at_ : Int) : Key), dLine cL p.ns p.sh) := by
    intro l hl
    rw [List.map_map]
    refine List.map_congr_left fun q hq => ?_
    show (if (Sum.inl (q.at_ : Int) : Key) = Sum.inl (p.at_ : Int) then _ else _) = _
    rw [if_neg fun z => hl (by
      have : (q.at_ : Int) = (p.at_ : Int) := Sum.inl.inj z
      have : q.at_ = p.at_ := by omega
      rw [← this]; exact List.mem_map_of_mem hq)]
  rw [go d h, go r h2, if_pos rfl]
theorem gput_self {G : GH} {a : Addr} {c : DO} (h : G a = some c) : gput G a c = G := funext fun b => by
  by_cases e : b = a
  · rw [e, gput_same, h]
  · rw [gput_ne e]
theorem add_go {cL cR : Addr} {a : Addr} {st : List Ln} {r : List Rat} {m : Int} {M : Nat} {G : GH} {Q : DE} (hG : G a = some (dSt cL st)) (hl : st.length < 64) (hn : (st.map (·.at_)).Nodup)
    (hrl : r.length ≤ 100) (hM : 0 < M) (hM2 : M < 2 ^ 4400) (hrM : ∀ q ∈ r, q.den ∣ M ∧ q.num.natAbs < 2 ^ 4400) (hlen : ∀ p ∈ st, p.ns.length = r.length)
    (P : List Int → Sh → Prop) (hP : ∀ nf sf, P nf sf → nf.length = r.length)
    (hleft : ∀ u : Nat, 0 < u → (∀ q ∈ r, q.den ∣ u) → (∀ m, (∀ q ∈ r, q.den ∣ m) → u ∣ m) → S_Reducer_left cL cR [dRed cR a, dLine cL (r.map fun q => q.num * ((u / q.den : Nat) : Int)) [(m, (u : Int))]] G fun v G' => G' = G ∧ ∃ nf sf, v = dLine cL nf sf ∧ P nf sf)
    (h0 : ∀ nf sf, P nf sf → leadZ nf = r.length → Q .non G)
    (h1 : ∀ nf sf, P nf sf → leadZ nf < r.length → leadZ nf ∉ st.map (·.at_) ∧ ∀ p ∈ st, nthZ (leadZ nf) p.ns ≠ 0 → LabOk 100 p.sh ∧ LabOk 100 sf ∧ Small 4400 p.ns p.sh ∧ Small 4400 nf sf)
    (h2 : ∀ nf sf st', P nf sf → leadZ nf < r.length → UpdL (leadZ nf) nf sf st st' → Q .non (gput G a (dSt cL (st' ++ [⟨leadZ nf, nf, sf⟩])))) :
    r_Reducer_add cL cR (Ends1 Q) (startD N_Reducer_add [dRed cR a, dRow r, .int m]) G := by
  rw [show startD N_Reducer_add [dRed cR a, dRow r, .int m] = [some (dRed cR a), some (dRow r), some (.int m), none, none, none] from rfl]
  simp only [r_Reducer_add, dRed, dVar, dC, dOp, dB, dAnd, dOr, dNot, dAndV, dOrV, dNotV, dIf, dNil, dCons, dTup, dLst, dLstT, fAdd, fSub, fDiv, fMod, fPow, fMul, fCmp, fLt, fLe, fGt, fGe, fEq, fNe, fIs, fIsNot, isNonD, dNeg, dCB, on1, fLen, fTup, fLstF, fLstT, fAbs, fInt, onI2, fGcd, fMax2, fMin2, fIsi, frzOf, dSq, dRng1, dRng2, dEnum, dZip, dKeys, dVals, dItems, onK, onS, onD, onB, onKs, onY, onI, onN, dctOf, keyOf, gNm, DL.gNil, DL.gCons, gTp, gSubL, gSubD, dNx, dSeq, dBk, dCt, dDrop, dRet, dRetN, dIfS, dAsg, dPar, dPar3, dFor, dWhile, dLc, dLc2, dDc, dItemsT, dDGet, dDGet2, dApp, dPopAt, dPart, dNoPart, dSlc, fSlc, insOf, dFld, dFldS, dCall, dMeth, dMk, mkEnd, dRevT, dNever, dBits, dDictT, dDict1, fSortD, fListD, sl, wipeD, seqOf, IsLst, getFD, putFD, fIx, List.set, List.length_cons, List.length_nil, List.cons.injEq, and_true, true_and, Nat.reduceAdd, reduceCtorEq, if_true, if_false, Bool.false_eq_true, ne_eq, not_false_eq_true, ite_true, ite_false]
  refine ⟨rfl, r, m, M, rfl, hrl, hM, hM2, hrM, fun u hu hu1 hu2 => ?_⟩
  refine left_mono (hleft u hu hu1 hu2) ?_
  rintro v G' ⟨rfl, nf, sf, rfl, hp⟩
  have hlf := hP _ _ hp
  have hle := leadZ_le nf
  refine ⟨⟨rfl, rfl⟩, nf, sf, rfl, by omega, ?_⟩
  simp only [dRow, deq_int, dok_int, Bool.and_self, List.length_map, List.set, List.length_cons, List.length_nil, List.cons.injEq, and_true, true_and, Nat.reduceAdd, reduceCtorEq, if_true, if_false, Bool.false_eq_true, ne_eq, not_false_eq_true, ite_true, ite_false]
  by_cases hz : leadZ nf = r.length
  · rw [if_pos (by rw [hz]; exact decide_eq_true rfl)]
    exact h0 nf sf hp hz
  rw [if_neg (by rw [decide_eq_false (by omega)]; decide)]
  have hlt : leadZ nf < r.length := by omega
  obtain ⟨hnew, hpre⟩ := h1 nf sf hp hlt
  simp only [hG, dSt]
  have hkeys : keysD (st.map fun p => ((.inl (p.at_ : Int) : Key), dLine cL p.ns p.sh)) = st.map fun p => D.int (p.at_ : Int) := by
    unfold keysD
    rw [List.map_map]
    rfl
  rw [hkeys]
  refine for_run (fun rest ρ G2 => ∃ (d d' x : List Ln) (o : Option D), d ++ x = st ∧ rest = x.map (fun p => D.int (p.at_ : Int)) ∧ UpdL (leadZ nf) nf sf d d' ∧
    ρ = [some (dRed cR a), some (dRow r), some (.int m), some (dLine cL nf sf), some (.int (leadZ nf : Int)), o] ∧ G2 = gput G' a (dSt cL (d' ++ x))) ?_ ?_ _ _ _ ⟨[], [], st, none, rfl, rfl, .nil, rfl, (gput_self hG).symm⟩
  · rintro ρ G2 ⟨d, d', x, o, e1, e2, hu, rfl, rfl⟩
    have er : x = [] := by
      cases x with
      | nil => rfl
      | cons _ _ => cases e2
    subst er
    rw [List.append_nil] at e1 ⊢
    subst e1
    simp only [dRed, dVar, dC, dOp, dB, dAnd, dOr, dNot, dAndV, dOrV, dNotV, dIf, dNil, dCons, dTup, dLst, dLstT, fAdd, fSub, fDiv, fMod, fPow, fMul, fCmp, fLt, fLe, fGt, fGe, fEq, fNe, fIs, fIsNot, isNonD, dNeg, dCB, on1, fLen, fTup, fLstF, fLstT, fAbs, fInt, onI2, fGcd, fMax2, fMin2, fIsi, frzOf, dSq, dRng1, dRng2, dEnum, dZip, dKeys, dVals, dItems, onK, onS, onD, onB, onKs, onY, onI, onN, dctOf, keyOf, gNm, DL.gNil, DL.gCons, gTp, gSubL, gSubD, dNx, dSeq, dBk, dCt, dDrop, dRet, dRetN, dIfS, dAsg, dPar, dPar3, dFor, dWhile, dLc, dLc2, dDc, dItemsT, dDGet, dDGet2, dApp, dPopAt, dPart, dNoPart, dSlc, fSlc, insOf, dFld, dFldS, dCall, dMeth, dMk, mkEnd, dRevT, dNever, dBits, dDictT, dDict1, fSortD, fListD, sl, wipeD, seqOf, IsLst, getFD, putFD, fIx, List.set, List.length_cons, List.length_nil, List.cons.injEq, and_true, true_and, Nat.reduceAdd, reduceCtorEq, if_true, if_false, Bool.false_eq_true, ne_eq, not_false_eq_true, ite_true, ite_false, gput_same, dSt]
    have hlen2 : d'.length = d.length := by have := congrArg List.length hu.ats; rwa [List.length_map, List.length_map] at this
    refine ⟨?_, ?_⟩
    · rw [List.length_map, sizeLine_eq]
      omega
    · have hnk : (Sum.inl ((leadZ nf : Nat) : Int) : Key) ∉ ((d'.map fun p => ((.inl (p.at_ : Int) : Key), dLine cL p.ns p.sh)).map (·.1)) := by
        rw [List.map_map]
        intro z
        obtain ⟨q, hq, e⟩ := List.mem_map.mp z
        have e3 : (q.at_ : Int) = ((leadZ nf : Nat) : Int) := Sum.inl.inj e
        have e4 : q.at_ = leadZ nf := by omega
        refine hnew ?_
        rw [← hu.ats, ← e4]
        exact List.mem_map_of_mem hq
      rw [putKD_new hnk, gput_gput]
      have q := h2 nf sf d' hp hlt hu
      unfold dSt at q
      rw [List.map_append] at q
      exact q
  · rintro y rest ρ G2 C ⟨d, d', x, o, e1, e2, hu, rfl, rfl⟩ hc
    cases x with
    | nil => cases e2
    | cons p x =>
      cases e2
      have hpm : p ∈ st := by rw [← e1]; exact List.mem_append_right _ (List.mem_cons_self ..)
      have hats : (d' ++ p :: x).map (·.at_) = st.map (·.at_) := by rw [← e1, List.map_append, List.map_append, hu.ats]
      have hn' : ((d' ++ p :: x).map (·.at_)).Nodup := by rw [hats]; exact hn
      have hv := val_st (cL := cL) hn' (List.mem_append_right d' (List.mem_cons_self (a := p) (l := x)))
      have hlp : leadZ nf < p.ns.length := by rw [hlen p hpm]; exact hlt
      have hlen2 : (d' ++ p :: x).length = st.length := by have := congrArg List.length hats; rwa [List.length_map, List.length_map] at this
      simp only [dRed, dVar, dC, dOp, dB, dAnd, dOr, dNot, dAndV, dOrV, dNotV, dIf, dNil, dCons, dTup, dLst, dLstT, fAdd, fSub, fDiv, fMod, fPow, fMul, fCmp, fLt, fLe, fGt, fGe, fEq, fNe, fIs, fIsNot, isNonD, dNeg, dCB, on1, fLen, fTup, fLstF, fLstT, fAbs, fInt, onI2, fGcd, fMax2, fMin2, fIsi, frzOf, dSq, dRng1, dRng2, dEnum, dZip, dKeys, dVals, dItems, onK, onS, onD, onB, onKs, onY, onI, onN, dctOf, keyOf, gNm, DL.gNil, DL.gCons, gTp, gSubL, gSubD, dNx, dSeq, dBk, dCt, dDrop, dRet, dRetN, dIfS, dAsg, dPar, dPar3, dFor, dWhile, dLc, dLc2, dDc, dItemsT, dDGet, dDGet2, dApp, dPopAt, dPart, dNoPart, dSlc, fSlc, insOf, dFld, dFldS, dCall, dMeth, dMk, mkEnd, dRevT, dNever, dBits, dDictT, dDict1, fSortD, fListD, sl, wipeD, seqOf, IsLst, getFD, putFD, fIx, List.set, List.length_cons, List.length_nil, List.cons.injEq, and_true, true_and, Nat.reduceAdd, reduceCtorEq, if_true, if_false, Bool.false_eq_true, ne_eq, not_false_eq_true, ite_true, ite_false, gput_same, dSt, hv]
      simp only [dLine, dVar, dC, dOp, dB, dAnd, dOr, dNot, dAndV, dOrV, dNotV, dIf, dNil, dCons, dTup, dLst, dLstT, fAdd, fSub, fDiv, fMod, fPow, fMul, fCmp, fLt, fLe, fGt, fGe, fEq, fNe, fIs, fIsNot, isNonD, dNeg, dCB, on1, fLen, fTup, fLstF, fLstT, fAbs, fInt, onI2, fGcd, fMax2, fMin2, fIsi, frzOf, dSq, dRng1, dRng2, dEnum, dZip, dKeys, dVals, dItems, onK, onS, onD, onB, onKs, onY, onI, onN, dctOf, keyOf, gNm, DL.gNil, DL.gCons, gTp, gSubL, gSubD, dNx, dSeq, dBk, dCt, dDrop, dRet, dRetN, dIfS, dAsg, dPar, dPar3, dFor, dWhile, dLc, dLc2, dDc, dItemsT, dDGet, dDGet2, dApp, dPopAt, dPart, dNoPart, dSlc, fSlc, insOf, dFld, dFldS, dCall, dMeth, dMk, mkEnd, dRevT, dNever, dBits, dDictT, dDict1, fSortD, fListD, sl, wipeD, seqOf, IsLst, getFD, putFD, fIx, List.set, List.length_cons, List.length_nil, List.cons.injEq, and_true, true_and, Nat.reduceAdd, reduceCtorEq, if_true, if_false, Bool.false_eq_true, ne_eq, not_false_eq_true, ite_true, ite_false, deq_int, dok_int, Bool.and_self, at_int hlp, gput_same]
      by_cases hz : nthZ (leadZ nf) p.ns = 0
      · rw [if_neg (by rw [decide_eq_true hz]; decide)]
        refine hc _ _ ⟨d ++ [p], d' ++ [p], x, some (.int p.at_), by rw [List.append_assoc]; exact e1, rfl, .snoc hu ⟨rfl, .inl ⟨hz, rfl⟩⟩, rfl, ?_⟩
        rw [List.append_assoc]
        rfl
      · rw [if_pos (by rw [decide_eq_false hz]; decide)]
        obtain ⟨q3, q4, q5, q6⟩ := hpre p hpm hz
        refine ⟨rfl, p.ns, nf, p.sh, sf, leadZ nf, rfl, by rw [hlen p hpm]; exact hrl, by rw [hlen p hpm]; exact hlf, hlp, q3, q4, q5, q6, fun ns2 sh2 hL => ?_⟩
        have hn2 := hn'
        rw [List.map_append, List.map_cons] at hn2
        obtain ⟨n1, n2, n3⟩ := List.nodup_append.mp hn2
        rw [List.nodup_cons] at n2
        have e7 := put_at (cL := cL) (d := d') (r := x) (p := p) ns2 sh2 (fun z => n3 _ z _ (List.mem_cons_self ..) rfl) n2.1
        unfold dLine at e7
        simp only [gput_same]
        refine ⟨by rw [List.length_map, sizeLine_eq]; omega, ?_⟩
        simp only [dLine]
        rw [e7, gput_gput]
        refine hc _ _ ⟨d ++ [p], d' ++ [⟨p.at_, ns2, sh2⟩], x, some (.int p.at_), by rw [List.append_assoc]; exact e1, rfl, .snoc hu ⟨rfl, .inr ⟨hz, hL⟩⟩, rfl, ?_⟩
        rw [List.append_assoc]
        rfl
end K43
set_option Elab.async false
set_option linter.all false
set_option maxRecDepth 100000
set_option maxHeartbeats 4000000
namespace K43
open PySem PySem.Spec PyProof.Rows L2 DL
theorem Sp.two {S : Vc → Prop} {v w x : Vc} (a b : Rat) (h : Sp S v) (k : Sp S w) (e : ∀ i, x i = a * v i + b * w i) : Sp S x := by
  have := (Sp.smul a h).sum (Sp.smul b k)
  have e2 : (fun i => a * v i + b * w i) = x := funext fun i => (e i).symm
  rw [e2] at this
  exact this
theorem Sp.mono {S T : Vc → Prop} {v : Vc} (h : ∀ v, S v → T v) (k : Sp S v) : Sp T v := Sp.bind (fun v hv => Sp.one (h v hv)) k
theorem inRows_left {rows : List (List Rat)} {r : List Rat} {v : Vc} (h : inRows rows v) : inRows (rows ++ [r]) v := by
  obtain ⟨x, hx, e⟩ := h
  exact ⟨x, List.mem_append_left _ hx, e⟩
theorem inRows_last {rows : List (List Rat)} {r : List Rat} : inRows (rows ++ [r]) (vecQ r) := ⟨r, List.mem_append_right _ (List.mem_cons_self ..), rfl⟩
theorem NN_succ (k : Nat) : NN (k + 1) = 6480 * (NN k * NN k) := by
  unfold NN
  have h : 1 ≤ 2 ^ k := Nat.one_le_two_pow
  have e : 2 ^ (k + 1) - 1 = 1 + ((2 ^ k - 1) + (2 ^ k - 1)) := by rw [Nat.pow_succ]; omega
  rw [e, Nat.pow_add, Nat.pow_add, Nat.pow_one]
theorem NN_pos (k : Nat) : 0 < NN k := Nat.pow_pos (by decide)
theorem NN_le {k : Nat} (h : k ≤ 8) : NN k ≤ 2 ^ 3315 := by
  unfold NN
  have h1 : 2 ^ k ≤ 2 ^ 8 := Nat.pow_le_pow_right (by decide) h
  have h2 : 6480 ^ (2 ^ k - 1) ≤ 6480 ^ 255 := Nat.pow_le_pow_right (by decide) (by have : (2:Nat) ^ 8 = 256 := by decide
                                                                                    omega)
  refine Nat.le_trans h2 (Nat.le_trans (Nat.pow_le_pow_left (by decide : 6480 ≤ 2 ^ 13) 255) ?_)
  rw [← Nat.pow_mul]
  exact Nat.pow_le_pow_right (by decide) (by decide)
theorem NN_bound {k e : Nat} (h : k ≤ 8) (he : 3328 ≤ e) : (k + 1) * 360 * NN k < 2 ^ e := by
  have h1 : (k + 1) * 360 * NN k ≤ 2 ^ 12 * 2 ^ 3315 := Nat.mul_le_mul (Nat.le_trans (Nat.mul_le_mul_right 360 (by omega : k + 1 ≤ 9)) (by decide)) (NN_le h)
  rw [← Nat.pow_add] at h1
  exact Nat.lt_of_le_of_lt h1 (Nat.pow_lt_pow_right (by decide) (by omega))
theorem NN_big {k : Nat} (h : k ≤ 8) : NN k < 2 ^ 3400 := Nat.lt_of_le_of_lt (NN_le h) (Nat.pow_lt_pow_right (by decide) (by decide))
theorem few_nat : ∀ (n : Nat) (l : List Nat), l.Nodup → (∀ x ∈ l, x < n) → l.length ≤ n := by
  intro n l h1 h2
  have := few_below n (l.map fun x : Nat => (x : Int)) (by
    refine List.Pairwise.map _ (fun a b hab => ?_) h1
    omega) (fun x hx => by
    obtain ⟨y, hy, rfl⟩ := List.mem_map.mp hx
    have := h2 y hy
    omega)
  rwa [List.length_map] at this
theorem StOk.few {w : Nat} {m D : Int} {N : Nat} {st : List Ln} (h : StOk w m D N st) : st.length ≤ w := by
  have := few_nat w (st.map (·.at_)) h.nd (fun x hx => by
    obtain ⟨p, hp, rfl⟩ := List.mem_map.mp hx
    exact (h.ln p hp).lt)
  rwa [List.length_map] at this
theorem UpdL.len {h : Nat} {nf : List Int} {sf : Sh} {st st' : List Ln} (k : UpdL h nf sf st st') : st'.length = st.length := by
  have := congrArg List.length k.ats
  rwa [List.length_map, List.length_map] at this
/-- what left leaves -/
structure LeftOk (w : Nat) (m : Int) (N : Nat) (st : List Ln) (ns nf : List Int) (sf : Sh) : Prop where
  len : nf.length = w
  lab : LabOk (m + 1) sf
  z : ∀ p ∈ st, nthZ p.at_ nf = 0
  c : ∃ c : Int, c ≠ 0 ∧ ∀ x, (c * ev nf sf x).natAbs ≤ (st.length + 1) * 360 * N
  sp : ∃ c : Rat, c ≠ 0 ∧ Sp (inSt st) fun i => vecZ nf i - c * vecZ ns i
theorem held_none {w : Nat} {m : Int} {st : List Ln} {rows : List (List Rat)} {r : List Rat} {ns nf : List Int} {sf : Sh} {u : Rat} (h : Held w m st rows) (hu : u ≠ 0) (hn : ∀ i, vecZ ns i = u * vecQ r i)
    (k : LeftOk w m (NN st.length) st ns nf sf) (hz : ∀ j, nthZ j nf = 0) : Held w (m + 1) st (rows ++ [r]) := by
  obtain ⟨⟨D, hs⟩, hsame⟩ := h
  refine ⟨⟨D, hs.d, hs.dn, hs.nd, fun p hp => ?_, hs.off⟩, Same.of (fun v hv => (Sp.mono (fun v hv => inRows_left hv) ((hsame v).mp (Sp.one hv)))) fun v hv => ?_⟩
  · have ho := hs.ln p hp
    exact ⟨ho.len, ho.lt, ho.lab.mono (by omega), ho.c, ho.pre⟩
  · obtain ⟨x, hx, rfl⟩ := hv
    rcases List.mem_append.mp hx with hx | hx
    · exact (hsame _).mpr (Sp.one ⟨x, hx, rfl⟩)
    · rw [List.mem_singleton.mp hx]
      obtain ⟨c, hc, hsp⟩ := k.sp
      refine Sp.two (-1 / (c * u)) 0 hsp hsp fun i => ?_
      have e1 : vecZ nf i = 0 := by unfold vecZ; rw [hz]; rfl
      rw [e1, hn i]
      have hcu : c * u ≠ 0 := by grind
      grind
theorem held_step {w : Nat} {m : Int} {st st' : List Ln} {rows : List (List Rat)} {r : List Rat} {ns nf : List Int} {sf : Sh} {u : Rat} (hw : w ≤ 8) (h : Held w m st rows) (hu : u ≠ 0) (hn : ∀ i, vecZ ns i = u * vecQ r i)
    (k : LeftOk w m (NN st.length) st ns nf sf) (hl : leadZ nf < w) (ku : UpdL (leadZ nf) nf sf st st') : Held w (m + 1) (st' ++ [⟨leadZ nf, nf, sf⟩]) (rows ++ [r]) := by
  obtain ⟨⟨D, hs⟩, hsame⟩ := h
  have hlen := ku.len
  have hfew : st.length ≤ 8 := Nat.le_trans hs.few hw
  obtain ⟨a, ha, hab⟩ := k.c
  have hh : nthZ (leadZ nf) nf ≠ 0 := leadZ_ne (by rw [k.len]; exact hl)
  have hnot : leadZ nf ∉ st.map (·.at_) := fun z => by
    obtain ⟨p, hp, e⟩ := List.mem_map.mp z
    exact hh (by rw [← e]; exact k.z p hp)
  have hN : (st.length + 1) * 360 * NN st.length ≤ 3240 * NN st.length := Nat.mul_le_mul_right _ (by omega)
  have hW : ∀ x, (a * ev nf sf x).natAbs ≤ 3240 * NN st.length := fun x => Nat.le_trans (hab x) hN
  have hNN : NN (st.length + 1) = 6480 * (NN st.length * NN st.length) := NN_succ _
  have pr : ∀ {x y : Int}, x.natAbs ≤ 3240 * NN st.length → y.natAbs ≤ NN st.length → (y * x).natAbs ≤ 3240 * (NN st.length * NN st.length) := fun {x y} h1 h2 => by
    rw [Int.natAbs_mul]
    have := Nat.mul_le_mul h2 h1
    rw [Nat.mul_left_comm] at this
    exact this
  refine ⟨⟨D * (a * nthZ (leadZ nf) nf), Int.mul_ne_zero hs.d (Int.mul_ne_zero ha hh), ?_, ?_, ?_, ?_⟩, ?_⟩
  · rw [List.length_append, List.length_cons, List.length_nil, hlen, hNN]
    have := pr (hW (.inl (leadZ nf))) hs.dn
    have e : a * ev nf sf (.inl (leadZ nf)) = a * nthZ (leadZ nf) nf := rfl
    rw [e] at this
    omega
  · rw [List.map_append, ku.ats, List.map_cons, List.map_nil]
    refine List.nodup_append.mpr ⟨hs.nd, by simp, fun x hx y hy e => ?_⟩
    have e2 : x = leadZ nf := e.trans (List.mem_singleton.mp hy)
    exact hnot (e2 ▸ hx)
  · intro p' hp'
    rw [List.length_append, List.length_cons, List.length_nil, hlen, hNN]
    rcases List.mem_append.mp hp' with hp' | hp'
    · obtain ⟨p, hp, hup⟩ := ku.back hp'
      have ho := hs.ln p hp
      obtain ⟨c, hc, hcb⟩ := ho.c
      have hc0 : c ≠ 0 := fun z => hs.d (by rw [← hc, z, Int.zero_mul])
      rcases hup.or_ with ⟨hz, rfl⟩ | ⟨hz, hL⟩
      · refine ⟨ho.len, ho.lt, ho.lab.mono (by omega), ⟨c * (a * nthZ (leadZ nf) nf), ?_, fun x => ?_⟩, ho.pre⟩
        · rw [Int.mul_right_comm, hc]
        · rw [Int.mul_right_comm]
          have := pr (hW (.inl (leadZ nf))) (hcb x)
          have e : a * ev nf sf (.inl (leadZ nf)) = a * nthZ (leadZ nf) nf := rfl
          rw [e] at this
          omega
      · obtain ⟨g, hg, hl2⟩ := ev_less hL
        have hpre : ∀ i, i < p.at_ → nthZ i p'.ns = 0 := fun i hi => by
          have hle : p.at_ ≤ leadZ nf := Nat.le_of_not_lt fun z => hz (ho.pre _ z)
          have e := hl2 (.inl i)
          have e1 : ev p.ns p.sh (.inl i) = 0 := ho.pre i hi
          have e2 : ev nf sf (.inl i) = 0 := leadZ_pre (by omega)
          rw [e1, e2, Int.mul_zero, Int.mul_zero, Int.sub_zero] at e
          exact (Int.mul_eq_zero.mp e).resolve_left (by omega)
        have key : ∀ x, c * a * g * ev p'.ns p'.sh x = (c * ev p.ns p.sh x) * (a * nthZ (leadZ nf) nf) - (c * nthZ (leadZ nf) p.ns) * (a * ev nf sf x) := fun x => by
          rw [Int.mul_assoc, hl2 x]
          grind
        refine ⟨by rw [hL.len, ho.len], by rw [hup.at_]; exact ho.lt, hL.lab _ (ho.lab.mono (by omega)) k.lab, ⟨c * a * g, ?_, fun x => ?_⟩, by rw [hup.at_]; exact hpre⟩
        · rw [key, hup.at_, hc]
          have e2 : ev nf sf (.inl p.at_) = 0 := k.z p hp
          rw [e2, Int.mul_zero, Int.mul_zero, Int.sub_zero]
        · rw [key]
          have h1 := pr (hW (.inl (leadZ nf))) (hcb x)
          have h2 := pr (hW x) (hcb (.inl (leadZ nf)))
          have e : a * ev nf sf (.inl (leadZ nf)) = a * nthZ (leadZ nf) nf := rfl
          have e2 : c * ev p.ns p.sh (.inl (leadZ nf)) = c * nthZ (leadZ nf) p.ns := rfl
          rw [e] at h1
          rw [e2] at h2
          omega
    · rw [List.mem_singleton.mp hp']
      refine ⟨k.len, hl, k.lab, ⟨D * a, Int.mul_assoc .., fun x => ?_⟩, fun i hi => leadZ_pre hi⟩
      rw [Int.mul_assoc]
      have := pr (hW x) hs.dn
      show (D * (a * ev nf sf x)).natAbs ≤ _
      omega
  · intro p' hp' q' hq' hne
    rcases List.mem_append.mp hp' with hp' | hp'
    · obtain ⟨p, hp, hup⟩ := ku.back hp'
      rcases List.mem_append.mp hq' with hq' | hq'
      · obtain ⟨q, hq, huq⟩ := ku.back hq'
        rw [hup.at_, huq.at_] at hne
        have h0 := hs.off p hp q hq hne
        rw [huq.at_]
        rcases hup.or_ with ⟨hz, rfl⟩ | ⟨hz, hL⟩
        · exact h0
        · obtain ⟨g, hg, hl2⟩ := ev_less hL
          have e := hl2 (.inl q.at_)
          have e1 : ev p.ns p.sh (.inl q.at_) = 0 := h0
          have e2 : ev nf sf (.inl q.at_) = 0 := k.z q hq
          rw [e1, e2, Int.mul_zero, Int.mul_zero, Int.sub_zero] at e
          exact (Int.mul_eq_zero.mp e).resolve_left (by omega)
      · rw [List.mem_singleton.mp hq']
        show nthZ (leadZ nf) p'.ns = 0
        rcases hup.or_ with ⟨hz, rfl⟩ | ⟨hz, hL⟩
        · exact hz
        · obtain ⟨g, hg, hl2⟩ := ev_less hL
          have e := hl2 (.inl (leadZ nf))
          have e1 : ev p.ns p.sh (.inl (leadZ nf)) = nthZ (leadZ nf) p.ns := rfl
          have e2 : ev nf sf (.inl (leadZ nf)) = nthZ (leadZ nf) nf := rfl
          rw [e1, e2, Int.mul_comm (nthZ (leadZ nf) nf), Int.sub_self] at e
          exact (Int.mul_eq_zero.mp e).resolve_left (by omega)
    · rw [List.mem_singleton.mp hp'] at hne ⊢
      rcases List.mem_append.mp hq' with hq' | hq'
      · obtain ⟨q, hq, huq⟩ := ku.back hq'
        rw [huq.at_]
        exact k.z q hq
      · rw [List.mem_singleton.mp hq'] at hne
        exact absurd rfl hne
  · obtain ⟨c, hc, hsp⟩ := k.sp
    have hhq : (nthZ (leadZ nf) nf : Rat) ≠ 0 := fun z => hh (by exact_mod_cast z)
    have less_vec : ∀ {p p' : Ln}, Less p.ns nf p.sh sf (leadZ nf) p'.ns p'.sh → ∃ g : Rat, g ≠ 0 ∧ ∀ i, g * vecZ p'.ns i = (nthZ (leadZ nf) nf : Rat) * vecZ p.ns i - (nthZ (leadZ nf) p.ns : Rat) * vecZ nf i := fun {p p'} hL => by
      obtain ⟨g, hg, hl2⟩ := ev_less hL
      refine ⟨(g : Rat), fun z => ?_, fun i => ?_⟩
      · have : g = 0 := by exact_mod_cast z
        omega
      · have e1 : g * nthZ i p'.ns = nthZ (leadZ nf) nf * nthZ i p.ns - nthZ (leadZ nf) p.ns * nthZ i nf := hl2 (.inl i)
        unfold vecZ
        rw [← Rat.intCast_mul, e1, Rat.intCast_sub, Rat.intCast_mul, Rat.intCast_mul]
    have hfr : Sp (inRows (rows ++ [r])) (vecZ nf) := by
      have h1 : Sp (inRows (rows ++ [r])) fun i => vecZ nf i - c * vecZ ns i := Sp.mono (fun v hv => inRows_left hv) ((hsame _).mp hsp)
      exact Sp.two 1 (c * u) h1 (Sp.one inRows_last) fun i => by rw [hn i]; grind
    refine Same.of (fun v hv => ?_) fun v hv => ?_
    · obtain ⟨p', hp', rfl⟩ := hv
      rcases List.mem_append.mp hp' with hp' | hp'
      · obtain ⟨p, hp, hup⟩ := ku.back hp'
        have h1 : Sp (inRows (rows ++ [r])) (vecZ p.ns) := Sp.mono (fun v hv => inRows_left hv) ((hsame _).mp (Sp.one ⟨p, hp, rfl⟩))
        rcases hup.or_ with ⟨hz, rfl⟩ | ⟨hz, hL⟩
        · exact h1
        · obtain ⟨g, hg, e⟩ := less_vec hL
          exact Sp.two ((nthZ (leadZ nf) nf : Rat) / g) (-(nthZ (leadZ nf) p.ns : Rat) / g) h1 hfr fun i => by
            have := e i
            grind
      · rw [List.mem_singleton.mp hp']
        exact hfr
    · have hnf : Sp (inSt (st' ++ [⟨leadZ nf, nf, sf⟩])) (vecZ nf) := Sp.one ⟨⟨leadZ nf, nf, sf⟩, List.mem_append_right _ (List.mem_cons_self ..), rfl⟩
      have hst : ∀ v, inSt st v → Sp (inSt (st' ++ [⟨leadZ nf, nf, sf⟩])) v := by
        rintro v ⟨p, hp, rfl⟩
        obtain ⟨p', hp', hup⟩ := ku.forth hp
        have h1 : Sp (inSt (st' ++ [⟨leadZ nf, nf, sf⟩])) (vecZ p'.ns) := Sp.one ⟨p', List.mem_append_left _ hp', rfl⟩
        rcases hup.or_ with ⟨hz, rfl⟩ | ⟨hz, hL⟩
        · exact h1
        · obtain ⟨g, hg, e⟩ := less_vec hL
          exact Sp.two (g / (nthZ (leadZ nf) nf : Rat)) ((nthZ (leadZ nf) p.ns : Rat) / (nthZ (leadZ nf) nf : Rat)) h1 hnf fun i => by
            have := e i
            grind
      obtain ⟨x, hx, rfl⟩ := hv
      rcases List.mem_append.mp hx with hx | hx
      · exact Sp.bind hst ((hsame _).mpr (Sp.one ⟨x, hx, rfl⟩))
      · rw [List.mem_singleton.mp hx]
        have hcu : c * u ≠ 0 := by grind
        exact Sp.two (-1 / (c * u)) (1 / (c * u)) (Sp.bind hst hsp) hnf fun i => by
          rw [hn i]
          grind
end K43
set_option Elab.async false
set_option linter.all false
set_option maxRecDepth 100000
set_option maxHeartbeats 4000000
namespace K43
open PySem PySem.Spec PyProof.Rows L2 DL
theorem q_den (q : Rat) : q * ((q.den : Nat) : Rat) = (q.num : Rat) := by
  have h := Rat.num_divInt_den q
  rw [Rat.divInt_eq_div] at h
  have hd : ((q.den : Nat) : Rat) ≠ 0 := by exact_mod_cast q.den_nz
  have e : (((q.den : Nat) : Int) : Rat) = ((q.den : Nat) : Rat) := Rat.intCast_natCast _
  rw [e] at h
  grind
theorem line_num {q : Rat} {u : Nat} (h : q.den ∣ u) : ((q.num * ((u / q.den : Nat) : Int) : Int) : Rat) = (u : Rat) * q := by
  obtain ⟨t, rfl⟩ := h
  rw [Nat.mul_div_cancel_left t q.den_pos, Rat.intCast_mul, Rat.intCast_natCast, ← q_den q, Rat.natCast_mul]
  grind
theorem line_nth {r : List Rat} {u : Nat} (i : Nat) : nthZ i (r.map fun q => q.num * ((u / q.den : Nat) : Int)) = (vecQ r i).num * ((u / (vecQ r i).den : Nat) : Int) := by
  unfold nthZ vecQ
  rw [List.getD_eq_getElem?_getD, List.getD_eq_getElem?_getD, List.getElem?_map]
  cases r[i]? with
  | none =>
    show (0 : Int) = (0 : Rat).num * _
    exact (Int.zero_mul _).symm
  | some q => rfl
theorem vecQ_mem {r : List Rat} {i : Nat} : vecQ r i ∈ r ∨ vecQ r i = 0 := by
  unfold vecQ
  rw [List.getD_eq_getElem?_getD]
  cases h : r[i]? with
  | none => exact .inr rfl
  | some q => exact .inl (List.mem_of_getElem? h)
theorem line_vec {r : List Rat} {u : Nat} (h : ∀ q ∈ r, q.den ∣ u) (i : Nat) : vecZ (r.map fun q => q.num * ((u / q.den : Nat) : Int)) i = (u : Rat) * vecQ r i := by
  unfold vecZ
  rw [line_nth, line_num]
  rcases vecQ_mem (r := r) (i := i) with e | e
  · exact h _ e
  · rw [e]
    exact Nat.one_dvd u
theorem line_prim {r : List Rat} {u : Nat} {m : Int} (hu : 0 < u) (h1 : ∀ q ∈ r, q.den ∣ u) (h2 : ∀ m : Nat, (∀ q ∈ r, q.den ∣ m) → u ∣ m) : gcdL (allOf (r.map fun q => q.num * ((u / q.den : Nat) : Int)) [(m, (u : Int))]) ≤ 1 := by
  generalize hg : gcdL (allOf (r.map fun q => q.num * ((u / q.den : Nat) : Int)) [(m, (u : Int))]) = g
  have hd : ∀ n ∈ allOf (r.map fun q => q.num * ((u / q.den : Nat) : Int)) [(m, (u : Int))], (g : Int) ∣ n := fun n hn => by rw [← hg]; exact gcdL_dvd hn
  have gu : g ∣ u := Int.natCast_dvd_natCast.mp (hd _ (List.mem_append_right _ (List.mem_cons_self ..)))
  have key : u ∣ u / g := h2 _ fun q hq => by
    obtain ⟨t, ht⟩ := h1 q hq
    have e : u / q.den = t := by rw [ht]; exact Nat.mul_div_cancel_left t q.den_pos
    have h3 : (g : Int) ∣ q.num * ((u / q.den : Nat) : Int) := hd _ (List.mem_append_left _ (List.mem_map.mpr ⟨q, hq, rfl⟩))
    rw [e] at h3
    have h4 : g ∣ q.num.natAbs * t := by
      have := Int.natAbs_dvd_natAbs.mpr h3
      rwa [Int.natAbs_natCast, Int.natAbs_mul, Int.natAbs_natCast] at this
    have h5 : g ∣ q.den * t := by rw [← ht]; exact gu
    have h6 : g ∣ Nat.gcd (q.num.natAbs * t) (q.den * t) := Nat.dvd_gcd h4 h5
    rw [Nat.gcd_mul_right, q.reduced, Nat.one_mul] at h6
    obtain ⟨s, hs⟩ := h6
    have hg0 : 0 < g := Nat.pos_of_dvd_of_pos gu hu
    refine ⟨s, ?_⟩
    rw [ht, hs, Nat.mul_left_comm, Nat.mul_div_cancel_left _ hg0]
  have hg0 : 0 < g := Nat.pos_of_dvd_of_pos gu hu
  have h7 : u ≤ u / g := Nat.le_of_dvd (Nat.div_pos (Nat.le_of_dvd hu gu) hg0) key
  refine Nat.le_of_not_lt fun z => ?_
  have := Nat.div_lt_self hu z
  omega
theorem idx_of {st : List Ln} {rows : List (List Rat)} (h : st.map (fun p => some p.at_) = rows.map leadQ) {p : Ln} (hp : p ∈ st) : ∃ (i : Nat) (r : List Rat), st[i]? = some p ∧ rows[i]? = some r ∧ r ∈ rows ∧ leadQ r = some p.at_ := by
  obtain ⟨i, hi⟩ := List.getElem?_of_mem hp
  have h1 : (st.map fun p => some p.at_)[i]? = some (some p.at_) := by rw [List.getElem?_map, hi]; rfl
  rw [h, List.getElem?_map] at h1
  obtain ⟨r, hr, e⟩ := Option.map_eq_some_iff.mp h1
  exact ⟨i, r, hi, hr, List.mem_of_getElem? hr, e⟩
theorem leadQ_lt : ∀ {r : List Rat} {i : Nat}, leadQ r = some i → i < r.length
  | q :: r, i, h => by
    unfold leadQ at h
    by_cases e : q = 0
    · rw [if_pos e] at h
      obtain ⟨k, ek, rfl⟩ := Option.map_eq_some_iff.mp h
      have := leadQ_lt (r := r) ek
      rw [List.length_cons]
      omega
    · rw [if_neg e] at h
      cases h
      rw [List.length_cons]
      omega
theorem l_Reducer_add {cL cR ds G Q} (h : S_Reducer_add cL cR ds G Q) : r_Reducer_add cL cR (Ends1 Q) (startD N_Reducer_add ds) G := by
  obtain ⟨a, st, rows, r, m, rfl, hG, hm0, hm1, h⟩ := h
  rcases h with ⟨w, hw, hh, ⟨hrl, M, hM, hM2, hr⟩, hq⟩ | ⟨w, hw, hp, hc, hb, hq⟩
  · obtain ⟨⟨D, hs⟩, hsame⟩ := id hh
    have hfew : st.length ≤ 8 := Nat.le_trans hs.few hw
    have n84 : (84 : Nat) < 2 ^ 4400 := Nat.lt_of_lt_of_le (by decide : 84 < 2 ^ 7) (Nat.pow_le_pow_right (by decide) (by decide))
    have n360 : (360 : Nat) < 2 ^ 4400 := Nat.lt_of_lt_of_le (by decide : 360 < 2 ^ 9) (Nat.pow_le_pow_right (by decide) (by decide))
    have hN := NN_bound (e := 4400) hfew (by decide)
    have hN2 : NN st.length < 2 ^ 4400 := Nat.lt_of_lt_of_le (NN_big hfew) (Nat.pow_le_pow_right (by decide) (by decide))
    refine add_go (M := M) hG (by omega) hs.nd (by omega) hM (Nat.lt_of_le_of_lt hM2 n84) (fun q hq' => ⟨(hr q hq').1, Nat.lt_of_le_of_lt ?_ n360⟩) (fun p hp => by rw [(hs.ln p hp).len, hrl])
      (fun nf sf => ∃ u : Nat, 0 < u ∧ (∀ q ∈ r, q.den ∣ u) ∧ LeftOk w m (NN st.length) st (r.map fun q => q.num * ((u / q.den : Nat) : Int)) nf sf) (fun nf sf ⟨u, _, _, k⟩ => k.len.trans hrl.symm) ?_ ?_ ?_ ?_
    · obtain ⟨h1, h2⟩ := hr q hq'
      exact Nat.le_trans (Nat.le_mul_of_pos_right _ (Nat.div_pos (Nat.le_of_dvd hM h1) q.den_pos)) h2
    · intro u hu hu1 hu2
      have huM : u ≤ M := Nat.le_of_dvd hM (hu2 M fun q hq' => (hr q hq').1)
      refine ⟨a, st, _, _, rfl, hG, by omega, .inl ⟨w, m, D, NN st.length, hs, by rw [List.length_map]; exact hrl, by omega, hm0, by omega, ?_, ?_, ?_, line_prim hu hu1 hu2, hN, ?_⟩⟩
      · refine ⟨by simp, fun p hp => ?_⟩
        rw [List.mem_singleton.mp hp]
        exact ⟨hm0, Int.lt_succ m⟩
      · show (if m = m then (u : Int) else 0) ≠ 0
        rw [if_pos rfl]
        omega
      · intro x
        cases x with
        | inl i =>
          show (nthZ i _).natAbs ≤ 360
          rw [line_nth, Int.natAbs_mul, Int.natAbs_natCast]
          rcases vecQ_mem (r := r) (i := i) with e | e
          · exact Nat.le_trans (Nat.mul_le_mul_left _ (Nat.div_le_div_right huM)) (hr _ e).2
          · rw [e]
            show 0 * _ ≤ 360
            rw [Nat.zero_mul]
            exact Nat.zero_le _
        | inr l =>
          show (if m = l then (u : Int) else 0).natAbs ≤ 360
          split <;> omega
      · intro ns' sh' k1 k2 k3 k4 k5
        exact ⟨rfl, ns', sh', rfl, u, hu, hu1, ⟨k1, k2, k3, k4, k5⟩⟩
    · rintro nf sf ⟨u, hu, hu1, k⟩ hz
      have hu0 : (u : Rat) ≠ 0 := by
        intro z
        have : u = 0 := by exact_mod_cast z
        omega
      have q := hq st (held_none hh hu0 (line_vec hu1) k fun j => leadZ_all (by rw [hz, k.len, hrl]) j)
      rw [gput_self hG] at q
      exact q
    · rintro nf sf ⟨u, hu, hu1, k⟩ hl
      refine ⟨fun z => ?_, fun p hp _ => ?_⟩
      · obtain ⟨p, hp, e⟩ := List.mem_map.mp z
        exact leadZ_ne (by rw [k.len, ← hrl]; exact hl) (by rw [← e]; exact k.z p hp)
      · have ho := hs.ln p hp
        obtain ⟨c, hc, hcb⟩ := k.c
        exact ⟨ho.lab.mono (by omega), k.lab.mono (by omega), ho.small hs.d hN2, small_ev k.lab.1 fun x => Nat.lt_of_le_of_lt (Nat.le_trans (abs_le_mul hc) (hcb x)) hN⟩
    · rintro nf sf st' ⟨u, hu, hu1, k⟩ hl ku
      have hu0 : (u : Rat) ≠ 0 := by
        intro z
        have : u = 0 := by exact_mod_cast z
        omega
      exact hq _ (held_step hw hh hu0 (line_vec hu1) k (by rw [← hrl]; exact hl) ku)
  · have hrm : r ∈ rows ++ [r] := List.mem_append_right _ (List.mem_cons_self ..)
    have hrl : r.length = w := hc.len r hrm
    obtain ⟨hld, hone⟩ := hc.at_ld hrm
    have hats : st.map (·.at_) = rows.map ld := by
      have := congrArg (List.map fun o : Option Nat => o.getD 0) hp.at_
      rw [List.map_map, List.map_map] at this
      exact this
    have hup : (rows.map ld).Pairwise (· < ·) := by
      have := hc.up
      rw [List.map_append] at this
      exact (List.pairwise_append.mp this).1
    have hnd : (st.map (·.at_)).Nodup := by rw [hats]; exact hup.imp fun h => Nat.ne_of_lt h
    have hfew : st.length ≤ 8 := by
      have := few_nat w (st.map (·.at_)) hnd (fun x hx => by
        obtain ⟨p, hp', rfl⟩ := List.mem_map.mp hx
        exact (hp.ok p hp').2.1)
      rw [List.length_map] at this
      omega
    have hsl : st.length = rows.length := by have := congrArg List.length hats; rwa [List.length_map, List.length_map] at this
    have hnr : r ∉ rows := fun z => by
      have := hc.nodup
      exact (List.nodup_append.mp this).2.2 _ z _ (List.mem_cons_self ..) rfl
    obtain ⟨M, hM, hM2, hMr⟩ := hb r (List.mem_cons_self ..)
    have up34 : (2 : Nat) ^ 3400 ≤ 2 ^ 4400 := Nat.pow_le_pow_right (by decide) (by decide)
    have hz1 : ∀ p ∈ st, vecQ r p.at_ = 0 := fun p hp' => by
      obtain ⟨i, rp, h1, h2, h3, h4⟩ := idx_of hp.at_ hp'
      exact hc.off r hrm rp (List.mem_append_left _ h3) _ h4 fun e => hnr (e ▸ h3)
    have hz2 : ∀ p ∈ st, nthZ (ld r) p.ns = 0 := fun p hp' => by
      obtain ⟨i, rp, h1, h2, h3, h4⟩ := idx_of hp.at_ hp'
      have e1 := hp.eq i p rp h1 h2 (ld r)
      rw [hc.off rp (List.mem_append_left _ h3) r hrm _ hld fun e => hnr (e ▸ h3), Rat.mul_zero] at e1
      unfold vecZ at e1
      exact_mod_cast e1
    have hnz : ∀ {u : Nat} {i : Nat}, vecQ r i = 0 → nthZ i (r.map fun q => q.num * ((u / q.den : Nat) : Int)) = 0 := fun {u i} e => by
      rw [line_nth, e]
      exact Int.zero_mul _
    have hn1 : ∀ {u : Nat}, nthZ (ld r) (r.map fun q => q.num * ((u / q.den : Nat) : Int)) = (u : Int) := fun {u} => by
      rw [line_nth, hone]
      show (1 : Int) * ((u / 1 : Nat) : Int) = u
      rw [Nat.div_one, Int.one_mul]
    have hlt : ld r < w := by rw [← hrl]; exact leadQ_lt hld
    have hlz : ∀ {u : Nat}, 0 < u → leadZ (r.map fun q => q.num * ((u / q.den : Nat) : Int)) = ld r := fun {u} hu => by
      have hle := leadZ_le (r.map fun q => q.num * ((u / q.den : Nat) : Int))
      rw [List.length_map] at hle
      rcases Nat.lt_trichotomy (leadZ (r.map fun q => q.num * ((u / q.den : Nat) : Int))) (ld r) with h | h | h
      · exact absurd (hnz (u := u) (leadQ_pre hld h)) (leadZ_ne (by rw [List.length_map]; omega))
      · exact h
      · have := leadZ_pre h
        rw [hn1] at this
        omega
    refine add_go (M := M) hG (by omega) hnd (by omega) hM (Nat.lt_of_lt_of_le hM2 up34) (fun q hq' => ⟨(hMr q hq').1, Nat.lt_of_lt_of_le (hMr q hq').2 up34⟩) (fun p hp' => by rw [(hp.ok p hp').1, hrl])
      (fun nf sf => ∃ u : Nat, 0 < u ∧ (∀ q ∈ r, q.den ∣ u) ∧ u ≤ M ∧ nf = (r.map fun q => q.num * ((u / q.den : Nat) : Int)) ∧ sf = [(m, (u : Int))]) (fun nf sf ⟨u, _, _, _, e, _⟩ => by rw [e, List.length_map]) ?_ ?_ ?_ ?_
    · intro u hu hu1 hu2
      have huM : u ≤ M := Nat.le_of_dvd hM (hu2 M fun q hq' => (hMr q hq').1)
      refine ⟨a, st, _, _, rfl, hG, by omega, .inr ⟨hnd, fun p hp' => ⟨?_, hnz (hz1 p hp')⟩, rfl, _, _, rfl, u, hu, hu1, huM, rfl, rfl⟩⟩
      rw [List.length_map, hrl]
      exact (hp.ok p hp').2.1
    · rintro nf sf ⟨u, hu, hu1, huM, rfl, rfl⟩ hz
      rw [hlz hu] at hz
      omega
    · rintro nf sf ⟨u, hu, hu1, huM, rfl, rfl⟩ hl
      rw [hlz hu]
      refine ⟨fun z => ?_, fun p hp' hne => absurd (hz2 p hp') hne⟩
      obtain ⟨p, hp', e⟩ := List.mem_map.mp z
      have := hz1 p hp'
      rw [e, hone] at this
      grind
    · rintro nf sf st' ⟨u, hu, hu1, huM, rfl, rfl⟩ hl ku
      rw [hlz hu] at ku ⊢
      rw [ku.same hz2]
      refine hq _ ⟨?_, fun p hp' => ?_, fun p hp' => ?_, fun i p x h1 h2 j => ?_⟩
      · rw [List.map_append, List.map_append, hp.at_, List.map_cons, List.map_cons, hld]
        rfl
      · rcases List.mem_append.mp hp' with hp' | hp'
        · obtain ⟨a1, a2, a3, a4⟩ := hp.ok p hp'
          exact ⟨a1, a2, a3.mono (by omega), a4⟩
        · rw [List.mem_singleton.mp hp']
          refine ⟨by rw [List.length_map]; exact hrl, hlt, ⟨by simp, fun p hp => ?_⟩, by rw [hn1]; omega⟩
          rw [List.mem_singleton.mp hp]
          exact ⟨hm0, Int.lt_succ m⟩
      · rcases List.mem_append.mp hp' with hp' | hp'
        · exact hp.nb p hp'
        · rw [List.mem_singleton.mp hp']
          show (nthZ (ld r) _).natAbs < _
          rw [hn1, Int.natAbs_natCast]
          exact Nat.lt_of_le_of_lt huM (Nat.lt_of_lt_of_le hM2 up34)
      · by_cases hi : i < st.length
        · rw [List.getElem?_append_left hi] at h1
          rw [List.getElem?_append_left (by omega)] at h2
          exact hp.eq i p x h1 h2 j
        · rw [List.getElem?_append_right (by omega)] at h1
          rw [List.getElem?_append_right (by omega)] at h2
          have e1 := List.mem_of_getElem? h1
          have e2 := List.mem_of_getElem? h2
          rw [List.mem_singleton.mp e1, List.mem_singleton.mp e2]
          show vecZ (r.map fun q => q.num * ((u / q.den : Nat) : Int)) j = ((nthZ (ld r) (r.map fun q => q.num * ((u / q.den : Nat) : Int)) : Int) : Rat) * vecQ r j
          rw [line_vec hu1, hn1]
          rfl
end K43
set_option Elab.async false
set_option linter.all false
set_option maxRecDepth 100000
set_option maxHeartbeats 4000000
namespace K43
open PySem PySem.Spec PyProof.Rows L2 DL
def toldR (p : Ln) : List Rat := p.ns.map fun n => Rat.divInt n (nthZ p.at_ p.ns)
theorem told_vec (p : Ln) (i : Nat) : vecQ (toldR p) i = vecZ p.ns i / (nthZ p.at_ p.ns : Rat) := by
  unfold vecQ toldR vecZ nthZ
  rw [List.getD_eq_getElem?_getD, List.getD_eq_getElem?_getD, List.getD_eq_getElem?_getD, List.getElem?_map]
  cases p.ns[i]? with
  | none =>
    show (0 : Rat) = ((0 : Int) : Rat) / _
    rw [show ((0 : Int) : Rat) = 0 from rfl]
    grind
  | some n => exact Rat.divInt_eq_div _ _
theorem leadQ_of : ∀ {r : List Rat} {i : Nat}, (∀ j, j < i → vecQ r j = 0) → vecQ r i ≠ 0 → leadQ r = some i
  | [], i, _, h => absurd rfl h
  | q :: r, i, h1, h2 => by
    unfold leadQ
    cases i with
    | zero => rw [if_neg (show q ≠ 0 from h2)]
    | succ i =>
      rw [if_pos (show q = 0 from h1 0 (Nat.succ_pos i)), leadQ_of (r := r) (i := i) (fun j hj => h1 (j + 1) (by omega)) h2]
      rfl
theorem ld_of {r : List Rat} {i : Nat} (h : leadQ r = some i) : ld r = i := by unfold ld; rw [h]; rfl
structure Told (w : Nat) (st : List Ln) : Prop where
  nd : (st.map (·.at_)).Nodup
  len : ∀ p ∈ st, p.ns.length = w
  lt : ∀ p ∈ st, p.at_ < w
  ne : ∀ p ∈ st, nthZ p.at_ p.ns ≠ 0
  pre : ∀ p ∈ st, ∀ i, i < p.at_ → nthZ i p.ns = 0
  off : ∀ p ∈ st, ∀ q ∈ st, p.at_ ≠ q.at_ → nthZ q.at_ p.ns = 0
theorem told_lead {w : Nat} {st : List Ln} (h : Told w st) {p : Ln} (hp : p ∈ st) : leadQ (toldR p) = some p.at_ ∧ vecQ (toldR p) p.at_ = 1 := by
  have hn : ((nthZ p.at_ p.ns : Int) : Rat) ≠ 0 := fun z => h.ne p hp (by exact_mod_cast z)
  have h1 : vecQ (toldR p) p.at_ = 1 := by
    rw [told_vec]
    unfold vecZ
    grind
  refine ⟨leadQ_of (fun j hj => ?_) (by rw [h1]; grind), h1⟩
  rw [told_vec]
  unfold vecZ
  rw [h.pre p hp j hj, show ((0 : Int) : Rat) = 0 from rfl]
  grind
theorem at_inj : ∀ {st : List Ln} {p q : Ln}, (st.map (·.at_)).Nodup → p ∈ st → q ∈ st → p.at_ = q.at_ → p = q
  | x :: st, p, q, hn, hp, hq, e => by
    rw [List.map_cons, List.nodup_cons] at hn
    rcases List.mem_cons.mp hp with e1 | hp2
    · rcases List.mem_cons.mp hq with e2 | hq2
      · rw [e1, e2]
      · exact absurd (by rw [← e1, e]; exact List.mem_map_of_mem hq2) hn.1
    · rcases List.mem_cons.mp hq with e2 | hq2
      · exact absurd (by rw [← e2, ← e]; exact List.mem_map_of_mem hp2) hn.1
      · exact at_inj hn.2 hp2 hq2 e
theorem told_canon {w : Nat} {st st' : List Ln} (h : Told w st) (hp : st'.Perm st) (hs : (st'.map (·.at_)).Pairwise (· < ·)) : Canon w (st'.map toldR) ∧ Same (inSt st) (inRows (st'.map toldR)) := by
  have hsub : ∀ {p}, p ∈ st' → p ∈ st := fun hq => hp.subset hq
  have hne : ∀ {p}, p ∈ st → ((nthZ p.at_ p.ns : Int) : Rat) ≠ 0 := fun hq z => h.ne _ hq (by exact_mod_cast z)
  refine ⟨⟨fun r hr => ?_, fun r hr => ?_, ?_, fun r hr q hq i hi hne2 => ?_⟩, Same.of (fun v hv => ?_) fun v hv => ?_⟩
  · obtain ⟨p, hp', rfl⟩ := List.mem_map.mp hr
    unfold toldR
    rw [List.length_map]
    exact h.len p (hsub hp')
  · obtain ⟨p, hp', rfl⟩ := List.mem_map.mp hr
    exact ⟨_, told_lead h (hsub hp')⟩
  · rw [List.map_map]
    have e : st'.map ((fun r => (leadQ r).getD 0) ∘ toldR) = st'.map (·.at_) := List.map_congr_left fun p hp' => by
      show (leadQ (toldR p)).getD 0 = p.at_
      rw [(told_lead h (hsub hp')).1]
      rfl
    rw [e]
    exact hs
  · obtain ⟨p, hp', rfl⟩ := List.mem_map.mp hr
    obtain ⟨q, hq', rfl⟩ := List.mem_map.mp hq
    rw [(told_lead h (hsub hq')).1] at hi
    cases hi
    have hat : p.at_ ≠ q.at_ := fun e => hne2 (by
      have : p = q := at_inj h.nd (hsub hp') (hsub hq') e
      rw [this])
    rw [told_vec]
    unfold vecZ
    rw [h.off p (hsub hp') q (hsub hq') hat, show ((0 : Int) : Rat) = 0 from rfl]
    grind
  · obtain ⟨p, hp', rfl⟩ := hv
    have h1 : Sp (inRows (st'.map toldR)) (vecQ (toldR p)) := Sp.one ⟨_, List.mem_map_of_mem (hp.symm.subset hp'), rfl⟩
    exact Sp.two (nthZ p.at_ p.ns : Rat) 0 h1 h1 fun i => by
      have := hne hp'
      rw [told_vec]
      grind
  · obtain ⟨x, hx, rfl⟩ := hv
    obtain ⟨p, hp', rfl⟩ := List.mem_map.mp hx
    have h1 : Sp (inSt st) (vecZ p.ns) := Sp.one ⟨p, hsub hp', rfl⟩
    exact Sp.two (1 / (nthZ p.at_ p.ns : Rat)) 0 h1 h1 fun i => by
      have := hne (hsub hp')
      rw [told_vec]
      grind
theorem den_of {q : Rat} {a b : Int} (hb : b ≠ 0) (h : q * (b : Rat) = (a : Rat)) : q.den ∣ b.natAbs ∧ q.num.natAbs ≤ a.natAbs := by
  have hd : ((q.den : Nat) : Rat) ≠ 0 := by exact_mod_cast q.den_nz
  have h1 : (q.num : Rat) * (b : Rat) = (a : Rat) * ((q.den : Nat) : Rat) := by
    rw [← q_den q, ← h]
    grind
  have h2 : q.num * b = a * (q.den : Int) := by
    have e : (((q.num * b : Int)) : Rat) = ((a * (q.den : Int) : Int) : Rat) := by
      rw [Rat.intCast_mul, Rat.intCast_mul, h1, Rat.intCast_natCast]
    exact_mod_cast e
  have h3 : q.num.natAbs * b.natAbs = a.natAbs * q.den := by
    have := congrArg Int.natAbs h2
    rwa [Int.natAbs_mul, Int.natAbs_mul, Int.natAbs_natCast] at this
  have h4 : q.den ∣ b.natAbs := by
    have : q.den ∣ q.num.natAbs * b.natAbs := ⟨a.natAbs, by rw [h3, Nat.mul_comm]⟩
    exact Nat.Coprime.dvd_of_dvd_mul_left (Nat.Coprime.symm q.reduced) this
  refine ⟨h4, ?_⟩
  have h5 : q.den ≤ b.natAbs := Nat.le_of_dvd (Int.natAbs_pos.mpr hb) h4
  have h6 : q.num.natAbs * q.den ≤ a.natAbs * q.den := by
    rw [← h3]
    exact Nat.mul_le_mul_left _ h5
  exact Nat.le_of_mul_le_mul_right h6 q.den_pos
theorem StOk.told {w : Nat} {m D : Int} {N : Nat} {st : List Ln} (h : StOk w m D N st) : Told w st := by
  refine ⟨h.nd, fun p hp => (h.ln p hp).len, fun p hp => (h.ln p hp).lt, fun p hp z => ?_, fun p hp => (h.ln p hp).pre, h.off⟩
  obtain ⟨c, hc, _⟩ := (h.ln p hp).c
  exact h.d (by rw [← hc]; show c * nthZ p.at_ p.ns = 0; rw [z, Int.mul_zero])
theorem StOk.big {w : Nat} {m D : Int} {N : Nat} {st : List Ln} (h : StOk w m D N st) (hN : N < 2 ^ 3400) {p : Ln} (hp : p ∈ st) : ∃ M : Nat, 0 < M ∧ M < 2 ^ 3400 ∧ ∀ q ∈ toldR p, q.den ∣ M ∧ q.num.natAbs < 2 ^ 3400 := by
  refine ⟨D.natAbs, Int.natAbs_pos.mpr h.d, Nat.lt_of_le_of_lt h.dn hN, fun q hq => ?_⟩
  obtain ⟨c, hc, hcb⟩ := (h.ln p hp).c
  unfold toldR at hq
  obtain ⟨n, hn, rfl⟩ := List.mem_map.mp hq
  obtain ⟨x, hx⟩ := mem_ev (h.ln p hp).lab.1 (List.mem_append_left (p.sh.map (·.2)) hn)
  have hne := h.told.ne p hp
  have hnq : ((nthZ p.at_ p.ns : Int) : Rat) ≠ 0 := fun z => hne (by exact_mod_cast z)
  have e : Rat.divInt n (nthZ p.at_ p.ns) * (D : Rat) = ((c * n : Int) : Rat) := by
    rw [← hc, Rat.divInt_eq_div, Rat.intCast_mul, Rat.intCast_mul]
    show (n : Rat) / ((nthZ p.at_ p.ns : Int) : Rat) * ((c : Rat) * ((nthZ p.at_ p.ns : Int) : Rat)) = _
    grind
  obtain ⟨h1, h2⟩ := den_of h.d e
  refine ⟨h1, Nat.lt_of_le_of_lt (Nat.le_trans h2 ?_) hN⟩
  rw [← hx]
  exact hcb x
theorem Plain.told {w : Nat} {m : Int} {st : List Ln} {rows : List (List Rat)} (h : Plain w m st rows) (hc : Canon w rows) : Told w st ∧ Same (inSt st) (inRows rows) := by
  have hats : st.map (·.at_) = rows.map ld := by
    have := congrArg (List.map fun o : Option Nat => o.getD 0) h.at_
    rw [List.map_map, List.map_map] at this
    exact this
  have hnd : (st.map (·.at_)).Nodup := by rw [hats]; exact List.Pairwise.imp (fun h => Nat.ne_of_lt h) hc.up
  have hsl : st.length = rows.length := by have := congrArg List.length hats; rwa [List.length_map, List.length_map] at this
  have hz : ∀ {p : Ln} {i : Nat} {c : Rat}, vecZ p.ns i = c * 0 → nthZ i p.ns = 0 := fun {p i c} e => by
    rw [Rat.mul_zero] at e
    unfold vecZ at e
    exact_mod_cast e
  refine ⟨⟨hnd, fun p hp => (h.ok p hp).1, fun p hp => (h.ok p hp).2.1, fun p hp => (h.ok p hp).2.2.2, fun p hp i hi => ?_, fun p hp q hq hne => ?_⟩, Same.of (fun v hv => ?_) fun v hv => ?_⟩
  · obtain ⟨j, r, h1, h2, h3, h4⟩ := idx_of h.at_ hp
    have e := h.eq j p r h1 h2 i
    rw [leadQ_pre h4 hi] at e
    exact hz e
  · obtain ⟨j, r, h1, h2, h3, h4⟩ := idx_of h.at_ hp
    obtain ⟨j', r', h1', h2', h3', h4'⟩ := idx_of h.at_ hq
    have e := h.eq j p r h1 h2 q.at_
    rw [hc.off r h3 r' h3' _ h4' fun z => by
      rw [z, h4'] at h4
      exact hne (Option.some.inj h4).symm] at e
    exact hz e
  · obtain ⟨p, hp, rfl⟩ := hv
    obtain ⟨j, r, h1, h2, h3, h4⟩ := idx_of h.at_ hp
    have h5 : Sp (inRows rows) (vecQ r) := Sp.one ⟨r, h3, rfl⟩
    exact Sp.two (nthZ p.at_ p.ns : Rat) 0 h5 h5 fun i => by
      rw [h.eq j p r h1 h2 i]
      grind
  · obtain ⟨r, hr, rfl⟩ := hv
    obtain ⟨j, hj⟩ := List.getElem?_of_mem hr
    have hlt : j < st.length := by rw [hsl]; exact (List.getElem?_eq_some_iff.mp hj).1
    have h1 : st[j]? = some st[j] := List.getElem?_eq_getElem hlt
    have hp : st[j] ∈ st := List.getElem_mem hlt
    have h5 : Sp (inSt st) (vecZ st[j].ns) := Sp.one ⟨_, hp, rfl⟩
    have hn : ((nthZ st[j].at_ st[j].ns : Int) : Rat) ≠ 0 := fun z => (h.ok _ hp).2.2.2 (by exact_mod_cast z)
    exact Sp.two (1 / (nthZ st[j].at_ st[j].ns : Rat)) 0 h5 h5 fun i => by
      rw [h.eq j _ r h1 hj i]
      grind
theorem canon_prefix {w : Nat} {a b : List (List Rat)} (h : Canon w (a ++ b)) : Canon w a := by
  refine ⟨fun r hr => h.len r (List.mem_append_left _ hr), fun r hr => h.lead r (List.mem_append_left _ hr), ?_, fun r hr q hq => h.off r (List.mem_append_left _ hr) q (List.mem_append_left _ hq)⟩
  have := h.up
  rw [List.map_append] at this
  exact (List.pairwise_append.mp this).1
theorem canon_nil (w : Nat) : Canon w [] := ⟨(fun _ h => nomatch h), (fun _ h => nomatch h), List.Pairwise.nil, (fun _ h => nomatch h)⟩
end K43
set_option Elab.async false
set_option linter.all false
set_option maxRecDepth 100000
set_option maxHeartbeats 4000000
namespace K43
open PySem PySem.Spec PyProof.Rows L2 DL
theorem enum_tab : ∀ (k : Nat) (rows : List (List Rat)) (x : D) (rest : List D), enumD k (rows.map dRow) = x :: rest → ∃ r rows', rows = r :: rows' ∧ x = .tup [.int (k : Int), dRow r] ∧ rest = enumD (k + 1) (rows'.map dRow)
  | k, [], x, rest, h => nomatch h
  | k, r :: rows', x, rest, h => by
    rw [List.map_cons] at h
    unfold enumD at h
    cases h
    exact ⟨r, rows', rfl, rfl, rfl⟩
theorem mk_red {cR : Addr} {G : GH} {p : Addr} {Q : DE} (hp : G p = none) (hq : ∀ a, G a = none → Q (dRed cR a) (gput G a (.dct []))) : S_Reducer_initD cR [.ref p] (gput G p (.ins cR [])) (mkEnd true cR Q p) := by
  refine ⟨p, rfl, gput_same, fun a ha => ⟨rfl, ?_⟩⟩
  have hne : a ≠ p := fun e => by rw [e, gput_same] at ha; cases ha
  have ha' : G a = none := by rw [gput_ne hne] at ha; exact ha
  rw [gput_same]
  refine ⟨rfl, ?_⟩
  have e : gdel (gput (gput (gput G p (.ins cR [])) a (.dct [])) p (.ins cR [("lines", .ref a)])) p = gput G a (.dct []) := funext fun b => by
    by_cases h1 : b = p
    · rw [h1, gdel_same, gput_ne hne.symm, hp]
    · rw [gdel_ne h1, gput_ne h1]
      by_cases h2 : b = a
      · rw [h2, gput_same, gput_same]
      · rw [gput_ne h2, gput_ne h1, gput_ne h2]
  rw [e]
  exact hq a ha'
theorem l_reduced {cL cR ds G Q} (h : S_reduced ds G Q) : r_reduced cL cR (Ends1 Q) (startD N_reduced ds) G := by
  obtain ⟨rows, rfl, ⟨hrl, w, hw0, hw, hor⟩, hq⟩ := h
  rw [show startD N_reduced [dTab rows] = [some (dTab rows), none, none, none] from rfl]
  simp only [r_reduced, dVar, dC, dOp, dB, dAnd, dOr, dNot, dAndV, dOrV, dNotV, dIf, dNil, dCons, dTup, dLst, dLstT, fAdd, fSub, fDiv, fMod, fPow, fMul, fCmp, fLt, fLe, fGt, fGe, fEq, fNe, fIs, fIsNot, isNonD, dNeg, dCB, on1, fLen, fTup, fLstF, fLstT, fAbs, fInt, onI2, fGcd, fMax2, fMin2, fIsi, frzOf, dSq, dRng1, dRng2, dEnum, dZip, dKeys, dVals, dItems, onK, onS, onD, onB, onKs, onY, onI, onN, dctOf, keyOf, gNm, DL.gNil, DL.gCons, gTp, gSubL, gSubD, dNx, dSeq, dBk, dCt, dDrop, dRet, dRetN, dIfS, dAsg, dPar, dPar3, dFor, dWhile, dLc, dLc2, dDc, dItemsT, dDGet, dDGet2, dApp, dPopAt, dPart, dNoPart, dSlc, fSlc, insOf, dFld, dFldS, dCall, dMeth, dMk, mkEnd, dRevT, dNever, dBits, dDictT, dDict1, fSortD, fListD, sl, wipeD, seqOf, IsLst, getFD, putFD, fIx, List.set, List.length_cons, List.length_nil, List.cons.injEq, and_true, true_and, Nat.reduceAdd, reduceCtorEq, if_true, if_false, Bool.false_eq_true, ne_eq, not_false_eq_true, ite_true, ite_false]
  refine fun p hp => mk_red hp fun a ha => ?_
  simp only [dTab, dRed, List.set, List.length_cons, List.length_nil, List.cons.injEq, and_true, true_and, Nat.reduceAdd, reduceCtorEq, if_true, if_false, Bool.false_eq_true, ne_eq, not_false_eq_true, ite_true, ite_false]
  refine for_run (fun rest ρ G' => ∃ (d x : List (List Rat)) (o1 o2 : Option D) (st : List Ln), d ++ x = rows ∧ rest = enumD d.length (x.map dRow) ∧
    ρ = [some (dTab rows), some (dRed cR a), o1, o2] ∧ G' = gput G a (dSt cL st) ∧ (((∀ r ∈ rows, RowOk w r) ∧ Held w d.length st d) ∨ (Canon w rows ∧ Big rows ∧ Plain w d.length st d))) ?_ ?_ _ _ _ ⟨[], rows, none, none, [], rfl, rfl, rfl, rfl, ?_⟩
  · rintro ρ G' ⟨d, x, o1, o2, st, e1, e2, rfl, rfl, hst⟩
    have er : x = [] := by
      cases x with
      | nil => rfl
      | cons _ _ => cases e2
    subst er
    rw [List.append_nil] at e1
    subst e1
    simp only [dRed, dVar, dC, dOp, dB, dAnd, dOr, dNot, dAndV, dOrV, dNotV, dIf, dNil, dCons, dTup, dLst, dLstT, fAdd, fSub, fDiv, fMod, fPow, fMul, fCmp, fLt, fLe, fGt, fGe, fEq, fNe, fIs, fIsNot, isNonD, dNeg, dCB, on1, fLen, fTup, fLstF, fLstT, fAbs, fInt, onI2, fGcd, fMax2, fMin2, fIsi, frzOf, dSq, dRng1, dRng2, dEnum, dZip, dKeys, dVals, dItems, onK, onS, onD, onB, onKs, onY, onI, onN, dctOf, keyOf, gNm, DL.gNil, DL.gCons, gTp, gSubL, gSubD, dNx, dSeq, dBk, dCt, dDrop, dRet, dRetN, dIfS, dAsg, dPar, dPar3, dFor, dWhile, dLc, dLc2, dDc, dItemsT, dDGet, dDGet2, dApp, dPopAt, dPart, dNoPart, dSlc, fSlc, insOf, dFld, dFldS, dCall, dMeth, dMk, mkEnd, dRevT, dNever, dBits, dDictT, dDict1, fSortD, fListD, sl, wipeD, seqOf, IsLst, getFD, putFD, fIx, List.set, List.length_cons, List.length_nil, List.cons.injEq, and_true, true_and, Nat.reduceAdd, reduceCtorEq, if_true, if_false, Bool.false_eq_true, ne_eq, not_false_eq_true, ite_true, ite_false]
    refine ⟨rfl, a, st, rfl, gput_same, ?_⟩
    have fin : ∀ st' : List Ln, st'.Perm st → (st'.map (·.at_)).Pairwise (· < ·) → IsRref w d (st'.map toldR) → Big (st'.map toldR) → Q (dTab (st'.map toldR)) (gput G a (dSt cL st)) := by
      intro st' hp' hs' hR hB
      refine hq _ _ (Ext.put ha) (fun w' hw' => ?_) hB
      cases d with
      | nil =>
        have e : st'.map toldR = [] := canon_unique hR.1 (canon_nil w) hR.2.symm
        rw [e]
        exact ⟨canon_nil w', fun v => Iff.rfl⟩
      | cons r d =>
        have e1 := hw' r (List.mem_cons_self ..)
        have e2 : r.length = w := by
          rcases hor with h | h
          · exact (h r (List.mem_cons_self ..)).1
          · exact h.1.len r (List.mem_cons_self ..)
        rw [← e1, e2]
        exact hR
    rcases hst with ⟨hrows, ⟨D, hs⟩, hsame⟩ | ⟨hc, hb, hpl⟩
    · have hfew : st.length ≤ 8 := Nat.le_trans hs.few hw
      have hbig := NN_big hfew
      refine ⟨hs.nd, by omega, fun p hp' => ⟨by rw [(hs.ln p hp').len]; omega, by rw [(hs.ln p hp').len]; exact (hs.ln p hp').lt, hs.told.ne p hp', ?_⟩, fun st' hp' hs' => ?_⟩
      · obtain ⟨c, hc, hcb⟩ := (hs.ln p hp').c
        have hc0 : c ≠ 0 := fun z => hs.d (by rw [← hc, z, Int.zero_mul])
        exact Nat.lt_of_le_of_lt (Nat.le_trans (abs_le_mul hc0) (hcb (.inl p.at_))) (Nat.lt_of_lt_of_le hbig (Nat.pow_le_pow_right (by decide) (by decide)))
      · obtain ⟨t1, t2⟩ := told_canon hs.told hp' hs'
        refine fin st' hp' hs' ⟨t1, hsame.symm.trans t2⟩ fun r hr => ?_
        obtain ⟨p, hp2, rfl⟩ := List.mem_map.mp hr
        exact hs.big hbig (hp'.subset hp2)
    · obtain ⟨ht, hsame⟩ := hpl.told hc
      have hfew : st.length ≤ 8 := by
        have := few_nat w (st.map (·.at_)) ht.nd (fun x hx => by
          obtain ⟨p, hp', rfl⟩ := List.mem_map.mp hx
          exact ht.lt p hp')
        rw [List.length_map] at this
        omega
      refine ⟨ht.nd, by omega, fun p hp' => ⟨by rw [ht.len p hp']; omega, by rw [ht.len p hp']; exact ht.lt p hp', ht.ne p hp', ?_⟩, fun st' hp' hs' => ?_⟩
      · exact Nat.lt_of_lt_of_le (hpl.nb p hp') (Nat.pow_le_pow_right (by decide) (by decide))
      · obtain ⟨t1, t2⟩ := told_canon ht hp' hs'
        have e : st'.map toldR = d := canon_unique t1 hc (hsame.symm.trans t2).symm
        refine fin st' hp' hs' ⟨t1, hsame.symm.trans t2⟩ ?_
        rw [e]
        exact hb
  · rintro y rest ρ G' C ⟨d, x, o1, o2, st, e1, e2, rfl, rfl, hst⟩ hc
    obtain ⟨r, x, rfl, rfl, rfl⟩ := enum_tab _ _ _ _ e2.symm
    have hrm : r ∈ rows := by rw [← e1]; exact List.mem_append_right _ (List.mem_cons_self ..)
    have hdl : d.length < rows.length := by rw [← e1, List.length_append, List.length_cons]; omega
    simp only [dRed, dVar, dC, dOp, dB, dAnd, dOr, dNot, dAndV, dOrV, dNotV, dIf, dNil, dCons, dTup, dLst, dLstT, fAdd, fSub, fDiv, fMod, fPow, fMul, fCmp, fLt, fLe, fGt, fGe, fEq, fNe, fIs, fIsNot, isNonD, dNeg, dCB, on1, fLen, fTup, fLstF, fLstT, fAbs, fInt, onI2, fGcd, fMax2, fMin2, fIsi, frzOf, dSq, dRng1, dRng2, dEnum, dZip, dKeys, dVals, dItems, onK, onS, onD, onB, onKs, onY, onI, onN, dctOf, keyOf, gNm, DL.gNil, DL.gCons, gTp, gSubL, gSubD, dNx, dSeq, dBk, dCt, dDrop, dRet, dRetN, dIfS, dAsg, dPar, dPar3, dFor, dWhile, dLc, dLc2, dDc, dItemsT, dDGet, dDGet2, dApp, dPopAt, dPart, dNoPart, dSlc, fSlc, insOf, dFld, dFldS, dCall, dMeth, dMk, mkEnd, dRevT, dNever, dBits, dDictT, dDict1, fSortD, fListD, sl, wipeD, seqOf, IsLst, getFD, putFD, fIx, List.set, List.length_cons, List.length_nil, List.cons.injEq, and_true, true_and, Nat.reduceAdd, reduceCtorEq, if_true, if_false, Bool.false_eq_true, ne_eq, not_false_eq_true, ite_true, ite_false]
    have step : ∀ st' : List Ln, ((∀ r ∈ rows, RowOk w r) ∧ Held w ((d.length : Int) + 1) st' (d ++ [r])) ∨ (Canon w rows ∧ Big rows ∧ Plain w ((d.length : Int) + 1) st' (d ++ [r])) →
        C [some (.tup (rows.map dRow)), some (.ins cR [("lines", .ref a)]), some (.int d.length), some (dRow r)] (gput (gput G a (dSt cL st)) a (dSt cL st')) := by
      intro st' h
      rw [gput_gput]
      refine hc _ _ ⟨d ++ [r], x, some (.int d.length), some (dRow r), st', by rw [List.append_assoc]; exact e1, ?_, rfl, rfl, ?_⟩
      · rw [List.length_append]
        rfl
      · have e : ((d ++ [r]).length : Int) = (d.length : Int) + 1 := by rw [List.length_append]; rfl
        rw [e]
        exact h
    refine ⟨rfl, a, st, d, r, d.length, rfl, gput_same, by omega, by omega, ?_⟩
    rcases hst with ⟨hrows, hh⟩ | ⟨hcn, hb, hpl⟩
    · exact .inl ⟨w, hw, hh, hrows r hrm, fun st' h => step st' (.inl ⟨hrows, h⟩)⟩
    · refine .inr ⟨w, hw, hpl, ?_, ?_, fun st' h => step st' (.inr ⟨hcn, hb, h⟩)⟩
      · refine canon_prefix (b := x) ?_
        rw [List.append_assoc]
        rw [← e1] at hcn
        exact hcn
      · intro r' hr'
        rw [List.mem_singleton.mp hr']
        exact hb r hrm
  · rcases hor with h | ⟨h1, h2⟩
    · refine .inl ⟨h, ⟨1, by decide, NN_pos 0, List.nodup_nil, (fun p hp => nomatch hp), (fun p hp => nomatch hp)⟩, Same.of ?_ ?_⟩
      · rintro v ⟨p, hp', _⟩
        cases hp'
      · rintro v ⟨p, hp', _⟩
        cases hp'
    · exact .inr ⟨h1, h2, ⟨rfl, (fun p hp => nomatch hp), (fun p hp => nomatch hp), fun i p r h => by cases h⟩⟩
theorem okn_q (q : Rat) (n : Nat) : okn (n + 1) (dQ q) = true := by
  show (decide (2 ≤ 1000) && [D.int q.num, D.int (q.den : Int)].all (okn n)) = true
  cases n <;> rfl
theorem okn_row {r : List Rat} (h : r.length ≤ 1000) (n : Nat) : okn (n + 2) (dRow r) = true := by
  show (decide ((r.map dQ).length ≤ 1000) && (r.map dQ).all (okn (n + 1))) = true
  rw [List.length_map, decide_eq_true h, Bool.true_and, List.all_eq_true]
  intro x hx
  obtain ⟨q, _, rfl⟩ := List.mem_map.mp hx
  exact okn_q q n
theorem okn_table {t : List (List Rat)} (h : t.length ≤ 1000) (h2 : ∀ r ∈ t, r.length ≤ 1000) (n : Nat) : okn (n + 3) (dTab t) = true := by
  show (decide ((t.map dRow).length ≤ 1000) && (t.map dRow).all (okn (n + 2))) = true
  rw [List.length_map, decide_eq_true h, Bool.true_and, List.all_eq_true]
  intro x hx
  obtain ⟨r, hr, rfl⟩ := List.mem_map.mp hx
  exact okn_row (h2 r hr) n
theorem RowsOk.len {rows : List (List Rat)} (h : RowsOk rows) : ∃ w, 0 < w ∧ w ≤ 8 ∧ ∀ r ∈ rows, r.length = w := by
  obtain ⟨_, w, h0, hw, h⟩ := h
  refine ⟨w, h0, hw, fun r hr => ?_⟩
  rcases h with h | h
  · exact (h r hr).1
  · exact h.1.len r hr
theorem l_table {ds G Q} (h : S_table ds G Q) : r_table (Ends1 Q) (startD N_table ds) G := by
  obtain ⟨rows, rfl, hok, hq⟩ := id h
  rw [show startD N_table [dTab rows] = [some (dTab rows)] from rfl]
  obtain ⟨w, h0, hw, hl⟩ := hok.len
  have hrl := hok.1
  simp only [r_table, dVar, dC, dOp, dB, dAnd, dOr, dNot, dAndV, dOrV, dNotV, dIf, dNil, dCons, dTup, dLst, dLstT, fAdd, fSub, fDiv, fMod, fPow, fMul, fCmp, fLt, fLe, fGt, fGe, fEq, fNe, fIs, fIsNot, isNonD, dNeg, dCB, on1, fLen, fTup, fLstF, fLstT, fAbs, fInt, onI2, fGcd, fMax2, fMin2, fIsi, frzOf, dSq, dRng1, dRng2, dEnum, dZip, dKeys, dVals, dItems, onK, onS, onD, onB, onKs, onY, onI, onN, dctOf, keyOf, gNm, DL.gNil, DL.gCons, gTp, gSubL, gSubD, dNx, dSeq, dBk, dCt, dDrop, dRet, dRetN, dIfS, dAsg, dPar, dPar3, dFor, dWhile, dLc, dLc2, dDc, dItemsT, dDGet, dDGet2, dApp, dPopAt, dPart, dNoPart, dSlc, fSlc, insOf, dFld, dFldS, dCall, dMeth, dMk, mkEnd, dRevT, dNever, dBits, dDictT, dDict1, fSortD, fListD, sl, wipeD, seqOf, IsLst, getFD, putFD, fIx, List.set, List.length_cons, List.length_nil, List.cons.injEq, and_true, true_and, Nat.reduceAdd, reduceCtorEq, if_true, if_false, Bool.false_eq_true, ne_eq, not_false_eq_true, ite_true, ite_false]
  refine ⟨dTab rows, rfl, okn_table (by omega) (fun r hr => by rw [hl r hr]; omega) 5, ?_⟩
  rw [areRows_tab h0 hl]
  exact h
end K43
set_option Elab.async false
set_option linter.all false
set_option maxRecDepth 100000
set_option maxHeartbeats 4000000
namespace K43
open PySem PySem.Spec PyProof.Rows L2 DL
/-! the law's own table -/
abbrev Hd := Nat × List Rat
structure LtOk (w : Nat) (D : Int) (N : Nat) (hs : List Hd) : Prop where
  d : D ≠ 0
  dn : D.natAbs ≤ N
  nd : (hs.map (·.1)).Nodup
  len : ∀ p ∈ hs, p.2.length = w
  lt : ∀ p ∈ hs, p.1 < w
  one : ∀ p ∈ hs, vecQ p.2 p.1 = 1
  v : ∀ p ∈ hs, ∀ i, ∃ V : Int, vecQ p.2 i * (D : Rat) = (V : Rat) ∧ V.natAbs ≤ N
  pre : ∀ p ∈ hs, ∀ i, i < p.1 → vecQ p.2 i = 0
  off : ∀ p ∈ hs, ∀ q ∈ hs, p.1 ≠ q.1 → vecQ p.2 q.1 = 0
def inHd (hs : List Hd) : Vc → Prop := fun v => ∃ p ∈ hs, v = vecQ p.2
def LHeld (w : Nat) (hs : List Hd) (rows : List (List Rat)) : Prop := (∃ D, LtOk w D (NN hs.length) hs) ∧ Same (inHd hs) (inRows rows)
theorem vec_less {r s : List Rat} (h : r.length = s.length) (b : Rat) (i : Nat) : vecQ (lessQ r s b) i = vecQ r i - b * vecQ s i := by
  unfold vecQ lessQ
  rw [List.getD_eq_getElem?_getD, List.getD_eq_getElem?_getD, List.getD_eq_getElem?_getD, List.getElem?_map]
  by_cases hi : i < r.length
  · have hi2 : i < s.length := by omega
    rw [List.getElem?_eq_getElem hi, List.getElem?_eq_getElem hi2, List.getElem?_eq_getElem (by rw [List.length_zip]; omega), List.getElem_zip]
    show r[i] + -b * s[i] = r[i] - b * s[i]
    grind
  · rw [List.getElem?_eq_none (by omega : r.length ≤ i), List.getElem?_eq_none (by omega : s.length ≤ i), List.getElem?_eq_none (by rw [List.length_zip]; omega)]
    show (0 : Rat) = 0 - b * 0
    grind
theorem less_len {r s : List Rat} (h : r.length = s.length) (b : Rat) : (lessQ r s b).length = r.length := by
  unfold lessQ
  rw [List.length_map, List.length_zip]
  omega
theorem smq_of {q : Rat} {E W : Int} (hE : E ≠ 0) (h : q * (E : Rat) = (W : Rat)) (h1 : E.natAbs < 2 ^ 4400) (h2 : W.natAbs < 2 ^ 4400) : SmQ q := by
  obtain ⟨a, b⟩ := den_of hE h
  exact ⟨Nat.lt_of_le_of_lt b h2, Nat.lt_of_le_of_lt (Nat.le_of_dvd (Int.natAbs_pos.mpr hE) a) h1⟩
/-- the first loop -/
structure LJ (w : Nat) (E : Int) (N : Nat) (hs : List Hd) (row : List Rat) (d r : List Hd) (left : List Rat) : Prop where
  len : left.length = w
  W : ∀ i, ∃ W : Int, vecQ left i * (E : Rat) = (W : Rat) ∧ W.natAbs ≤ (d.length + 1) * 360 * N
  z : ∀ p ∈ d, vecQ left p.1 = 0
  k : ∀ p ∈ r, vecQ left p.1 = vecQ row p.1
  sp : Sp (inHd hs) fun i => vecQ left i - vecQ row i
section
variable {w : Nat} {D : Int} {N M : Nat} {hs d r : List Hd} {row left : List Rat} {p : Hd}
theorem LJ.start (hs' : LtOk w D N hs) (hl : row.length = w) (hM : 0 < M) (hr : ∀ i, ∃ u : Int, vecQ row i * (M : Rat) = (u : Rat) ∧ u.natAbs ≤ 360) : LJ w ((M : Int) * D) N hs row [] r row := by
  refine ⟨hl, fun i => ?_, (fun p hp => nomatch hp), (fun p hp => rfl), ?_⟩
  · obtain ⟨u, hu, hb⟩ := hr i
    refine ⟨u * D, ?_, ?_⟩
    · rw [Rat.intCast_mul, Rat.intCast_mul, Rat.intCast_natCast, ← hu]
      grind
    · rw [Int.natAbs_mul, show ([] : List Hd).length = 0 from rfl, Nat.zero_add, Nat.one_mul]
      exact Nat.mul_le_mul hb hs'.dn
  · have e : (fun i => vecQ row i - vecQ row i) = fun _ => (0 : Rat) := funext fun i => by grind
    rw [e]
    exact .zero
theorem LJ.skip {E : Int} (h : LJ w E N hs row d (p :: r) left) (h0 : vecQ left p.1 = 0) : LJ w E N hs row (d ++ [p]) r left := by
  refine ⟨h.len, fun i => ?_, fun q hq => ?_, fun q hq => h.k q (List.mem_cons_of_mem _ hq), h.sp⟩
  · obtain ⟨W, h1, h2⟩ := h.W i
    refine ⟨W, h1, Nat.le_trans h2 ?_⟩
    rw [List.length_append]
    exact Nat.mul_le_mul_right _ (Nat.mul_le_mul_right _ (by omega))
  · rcases List.mem_append.mp hq with hq | hq
    · exact h.z q hq
    · rw [List.mem_singleton.mp hq]
      exact h0
theorem LJ.step (hs' : LtOk w D N hs) (hr : ∀ i, ∃ u : Int, vecQ row i * (M : Rat) = (u : Rat) ∧ u.natAbs ≤ 360) (hp : p ∈ hs) (hd : ∀ q ∈ d, q ∈ hs ∧ q.1 ≠ p.1) (hr' : ∀ q ∈ r, q ∈ hs ∧ q.1 ≠ p.1)
    (h : LJ w ((M : Int) * D) N hs row d (p :: r) left) : LJ w ((M : Int) * D) N hs row (d ++ [p]) r (lessQ left p.2 (vecQ left p.1)) := by
  have hl : left.length = p.2.length := by rw [h.len, hs'.len p hp]
  have hk := h.k p (List.mem_cons_self ..)
  refine ⟨by rw [less_len hl, h.len], fun i => ?_, fun q hq => ?_, fun q hq => ?_, ?_⟩
  · obtain ⟨W, h1, h2⟩ := h.W i
    obtain ⟨u, hu, hub⟩ := hr p.1
    obtain ⟨V, hV, hVb⟩ := hs'.v p hp i
    refine ⟨W - u * V, ?_, ?_⟩
    · rw [vec_less hl, hk, Rat.intCast_sub, Rat.intCast_mul u V, ← h1, ← hu, ← hV, Rat.intCast_mul (M : Int) D, Rat.intCast_natCast]
      grind
    · have h3 : (u * V).natAbs ≤ 360 * N := by rw [Int.natAbs_mul]; exact Nat.mul_le_mul hub hVb
      rw [List.length_append, show [p].length = 1 from rfl, Nat.add_mul, Nat.add_mul, Nat.one_mul]
      generalize (d.length + 1) * 360 * N = A at *
      generalize u * V = B at *
      omega
  · rw [vec_less hl]
    rcases List.mem_append.mp hq with hq | hq
    · rw [h.z q hq, hs'.off p hp q (hd q hq).1 fun e => (hd q hq).2 e.symm]
      grind
    · rw [List.mem_singleton.mp hq, hs'.one p hp]
      grind
  · rw [vec_less hl, h.k q (List.mem_cons_of_mem _ hq), hs'.off p hp q (hr' q hq).1 fun e => (hr' q hq).2 e.symm]
    grind
  · exact Sp.two 1 (-vecQ left p.1) h.sp (Sp.one (S := inHd hs) ⟨p, hp, rfl⟩) fun i => by
      rw [vec_less hl]
      grind
end
/-- the heads behind a new one -/
def updH (h : Nat) (left : List Rat) (p : Hd) : Hd := if vecQ p.2 h = 0 then p else (p.1, lessQ p.2 left (vecQ p.2 h))
theorem updH_at (h : Nat) (left : List Rat) (p : Hd) : (updH h left p).1 = p.1 := by
  unfold updH
  split <;> rfl
theorem updH_vec {h : Nat} {left : List Rat} {p : Hd} (hl : p.2.length = left.length) (i : Nat) : vecQ (updH h left p).2 i = vecQ p.2 i - vecQ p.2 h * vecQ left i := by
  unfold updH
  split
  · rename_i e
    rw [e]
    grind
  · exact vec_less hl _ i
theorem updH_len {h : Nat} {left : List Rat} {p : Hd} (hl : p.2.length = left.length) : (updH h left p).2.length = p.2.length := by
  unfold updH
  split
  · rfl
  · exact less_len hl _
def normQ (left : List Rat) (h : Nat) : List Rat := left.map fun q => q / vecQ left h
theorem norm_vec (left : List Rat) (h i : Nat) : vecQ (normQ left h) i = vecQ left i / vecQ left h := by
  unfold normQ
  generalize vecQ left h = c
  unfold vecQ
  rw [List.getD_eq_getElem?_getD, List.getD_eq_getElem?_getD, List.getElem?_map]
  cases left[i]? with
  | none =>
    show (0 : Rat) = 0 / c
    grind
  | some q => rfl
theorem lheld_none {w : Nat} {hs : List Hd} {rows : List (List Rat)} {r left : List Rat} (h : LHeld w hs rows) (hsp : Sp (inHd hs) fun i => vecQ left i - vecQ r i) (hz : ∀ j, vecQ left j = 0) : LHeld w hs (rows ++ [r]) := by
  obtain ⟨hD, hsame⟩ := h
  refine ⟨hD, Same.of (fun v hv => Sp.mono (fun v hv => inRows_left hv) ((hsame v).mp (Sp.one hv))) fun v hv => ?_⟩
  obtain ⟨x, hx, rfl⟩ := hv
  rcases List.mem_append.mp hx with hx | hx
  · exact (hsame _).mpr (Sp.one ⟨x, hx, rfl⟩)
  · rw [List.mem_singleton.mp hx]
    exact Sp.two (-1) 0 hsp hsp fun i => by
      rw [hz]
      grind
theorem lheld_step {w : Nat} {E : Int} {hs : List Hd} {rows : List (List Rat)} {r left : List Rat} {h : Nat} (hw : w ≤ 8) (hh : LHeld w hs rows) (hE : E ≠ 0) (hl : left.length = w) (hz : ∀ p ∈ hs, vecQ left p.1 = 0) (hW : ∀ i, ∃ W : Int, vecQ left i * (E : Rat) = (W : Rat) ∧ W.natAbs ≤ (hs.length + 1) * 360 * NN hs.length)
    (hsp : Sp (inHd hs) fun i => vecQ left i - vecQ r i) (hlead : leadQ left = some h) (hne : vecQ left h ≠ 0) : LHeld w (hs.map (updH h (normQ left h)) ++ [(h, normQ left h)]) (rows ++ [r]) := by
  obtain ⟨⟨D, hs'⟩, hsame⟩ := hh
  have hfew : hs.length ≤ 8 := by
    have := few_nat w (hs.map (·.1)) hs'.nd (fun x hx => by
      obtain ⟨p, hp', rfl⟩ := List.mem_map.mp hx
      exact hs'.lt p hp')
    rw [List.length_map] at this
    omega
  have hlt : h < w := by rw [← hl]; exact leadQ_lt hlead
  have hnl : (normQ left h).length = w := by unfold normQ; rw [List.length_map]; exact hl
  have hpl : ∀ p ∈ hs, p.2.length = (normQ left h).length := fun p hp => by rw [hnl]; exact hs'.len p hp
  have hone : vecQ (normQ left h) h = 1 := by rw [norm_vec]; grind
  have hnot : h ∉ hs.map (·.1) := fun z => by
    obtain ⟨p, hp, e⟩ := List.mem_map.mp z
    exact hne (by rw [← e]; exact hz p hp)
  have hnz : ∀ p ∈ hs, vecQ (normQ left h) p.1 = 0 := fun p hp => by rw [norm_vec, hz p hp]; grind
  obtain ⟨Wh, hWh, hWhb⟩ := hW h
  have hWh0 : Wh ≠ 0 := fun z => by
    rw [z, show ((0 : Int) : Rat) = 0 from rfl] at hWh
    have : (E : Rat) ≠ 0 := fun z => hE (by exact_mod_cast z)
    grind
  have hN : (hs.length + 1) * 360 * NN hs.length ≤ 3240 * NN hs.length := Nat.mul_le_mul_right _ (by omega)
  have hNN : NN (hs.length + 1) = 6480 * (NN hs.length * NN hs.length) := NN_succ _
  have pr : ∀ {x y : Int}, x.natAbs ≤ (hs.length + 1) * 360 * NN hs.length → y.natAbs ≤ NN hs.length → (y * x).natAbs ≤ 3240 * (NN hs.length * NN hs.length) := fun {x y} h1 h2 => by
    rw [Int.natAbs_mul]
    have := Nat.mul_le_mul h2 (Nat.le_trans h1 hN)
    rw [Nat.mul_left_comm] at this
    exact this
  have hEq : (E : Rat) ≠ 0 := fun z => hE (by exact_mod_cast z)
  have hWq : (Wh : Rat) ≠ 0 := fun z => hWh0 (by exact_mod_cast z)
  have hlen : (hs.map (updH h (normQ left h)) ++ [(h, normQ left h)]).length = hs.length + 1 := by rw [List.length_append, List.length_map]; rfl
  rw [show LHeld w (hs.map (updH h (normQ left h)) ++ [(h, normQ left h)]) (rows ++ [r]) = ((∃ D, LtOk w D (NN (hs.map (updH h (normQ left h)) ++ [(h, normQ left h)]).length) (hs.map (updH h (normQ left h)) ++ [(h, normQ left h)])) ∧ Same (inHd (hs.map (updH h (normQ left h)) ++ [(h, normQ left h)])) (inRows (rows ++ [r]))) from rfl, hlen, hNN]
  have mem : ∀ {q : Hd}, q ∈ hs.map (updH h (normQ left h)) ++ [(h, normQ left h)] → (∃ p ∈ hs, q = updH h (normQ left h) p) ∨ q = (h, normQ left h) := fun {q} hq => by
    rcases List.mem_append.mp hq with hq | hq
    · obtain ⟨p, hp, e⟩ := List.mem_map.mp hq
      exact .inl ⟨p, hp, e.symm⟩
    · exact .inr (List.mem_singleton.mp hq)
  refine ⟨⟨D * Wh, Int.mul_ne_zero hs'.d hWh0, ?_, ?_, fun q hq => ?_, fun q hq => ?_, fun q hq => ?_, fun q hq i => ?_, fun q hq i hi => ?_, fun q hq x hx hne2 => ?_⟩, ?_⟩
  · have := pr hWhb hs'.dn
    omega
  · rw [List.map_append, List.map_map]
    have e : hs.map ((·.1) ∘ updH h (normQ left h)) = hs.map (·.1) := List.map_congr_left fun p _ => updH_at ..
    rw [e]
    refine List.nodup_append.mpr ⟨hs'.nd, by simp, fun x hx y hy e => ?_⟩
    have e2 : x = h := e.trans (List.mem_singleton.mp hy)
    exact hnot (e2 ▸ hx)
  · rcases mem hq with ⟨p, hp, rfl⟩ | rfl
    · rw [updH_len (hpl p hp), hs'.len p hp]
    · exact hnl
  · rcases mem hq with ⟨p, hp, rfl⟩ | rfl
    · rw [updH_at]; exact hs'.lt p hp
    · exact hlt
  · rcases mem hq with ⟨p, hp, rfl⟩ | rfl
    · rw [updH_at, updH_vec (hpl p hp), hs'.one p hp, hnz p hp]
      grind
    · exact hone
  · obtain ⟨W, hWi, hWib⟩ := hW i
    rcases mem hq with ⟨p, hp, rfl⟩ | rfl
    · obtain ⟨V, hV, hVb⟩ := hs'.v p hp i
      obtain ⟨Vh, hVh, hVhb⟩ := hs'.v p hp h
      refine ⟨V * Wh - Vh * W, ?_, ?_⟩
      · rw [updH_vec (hpl p hp), norm_vec, Rat.intCast_sub, Rat.intCast_mul, Rat.intCast_mul, Rat.intCast_mul, ← hV, ← hVh, ← hWi, ← hWh]
        rw [← hWh] at hWq
        have : vecQ left h ≠ 0 := hne
        grind
      · have h1 := pr hWhb hVb
        have h2 := pr hWib hVhb
        omega
    · refine ⟨D * W, ?_, ?_⟩
      · show vecQ (normQ left h) i * _ = _
        rw [norm_vec, Rat.intCast_mul, Rat.intCast_mul, ← hWi, ← hWh]
        grind
      · have := pr hWib hs'.dn
        omega
  · rcases mem hq with ⟨p, hp, rfl⟩ | rfl
    · rw [updH_at] at hi
      rw [updH_vec (hpl p hp), hs'.pre p hp i hi]
      by_cases hv : vecQ p.2 h = 0
      · rw [hv]; grind
      · have hle : p.1 ≤ h := Nat.le_of_not_lt fun z => hv (hs'.pre p hp _ z)
        rw [norm_vec, leadQ_pre hlead (by omega : i < h)]
        grind
    · show vecQ (normQ left h) i = 0
      rw [norm_vec, leadQ_pre hlead hi]
      grind
  · rcases mem hq with ⟨p, hp, rfl⟩ | rfl
    · rcases mem hx with ⟨p', hp', rfl⟩ | rfl
      · rw [updH_at, updH_at] at hne2
        rw [updH_at, updH_vec (hpl p hp), hs'.off p hp p' hp' hne2, hnz p' hp']
        grind
      · show vecQ (updH h (normQ left h) p).2 h = 0
        rw [updH_vec (hpl p hp), hone]
        grind
    · rcases mem hx with ⟨p', hp', rfl⟩ | rfl
      · rw [updH_at]
        exact hnz p' hp'
      · exact absurd rfl hne2
  · have hfr : Sp (inRows (rows ++ [r])) (vecQ (normQ left h)) := by
      have h1 : Sp (inRows (rows ++ [r])) fun i => vecQ left i - vecQ r i := Sp.mono (fun v hv => inRows_left hv) ((hsame _).mp hsp)
      exact Sp.two (1 / vecQ left h) (1 / vecQ left h) h1 (Sp.one inRows_last) fun i => by rw [norm_vec]; grind
    refine Same.of (fun v hv => ?_) fun v hv => ?_
    · obtain ⟨q, hq, rfl⟩ := hv
      rcases mem hq with ⟨p, hp, rfl⟩ | rfl
      · have h1 : Sp (inRows (rows ++ [r])) (vecQ p.2) := Sp.mono (fun v hv => inRows_left hv) ((hsame _).mp (Sp.one ⟨p, hp, rfl⟩))
        exact Sp.two 1 (-vecQ p.2 h) h1 hfr fun i => by rw [updH_vec (hpl p hp)]; grind
      · exact hfr
    · have hnf : Sp (inHd (hs.map (updH h (normQ left h)) ++ [(h, normQ left h)])) (vecQ (normQ left h)) := Sp.one ⟨(h, normQ left h), List.mem_append_right _ (List.mem_cons_self ..), rfl⟩
      have hst : ∀ v, inHd hs v → Sp (inHd (hs.map (updH h (normQ left h)) ++ [(h, normQ left h)])) v := by
        rintro v ⟨p, hp, rfl⟩
        have h1 : Sp (inHd (hs.map (updH h (normQ left h)) ++ [(h, normQ left h)])) (vecQ (updH h (normQ left h) p).2) := Sp.one ⟨_, List.mem_append_left _ (List.mem_map_of_mem hp), rfl⟩
        exact Sp.two 1 (vecQ p.2 h) h1 hnf fun i => by rw [updH_vec (hpl p hp)]; grind
      obtain ⟨x, hx, rfl⟩ := hv
      rcases List.mem_append.mp hx with hx | hx
      · exact Sp.bind hst ((hsame _).mpr (Sp.one ⟨x, hx, rfl⟩))
      · rw [List.mem_singleton.mp hx]
        exact Sp.two (-1) (vecQ left h) (Sp.bind hst hsp) hnf fun i => by
          rw [norm_vec]
          grind
end K43
set_option Elab.async false
set_option linter.all false
set_option maxRecDepth 100000
set_option maxHeartbeats 4000000
namespace K43
open PySem PySem.Spec PyProof.Rows L2 DL
abbrev hk (p : Hd) : Key × D := (.inl (p.1 : Int), .lst (p.2.map dQ))
theorem hk_keys (hs : List Hd) : (hs.map hk).map (·.1) = (hs.map fun p => (p.1 : Int)).map Sum.inl := by
  rw [List.map_map, List.map_map]
  rfl
theorem val_hd : ∀ {hs : List Hd} {p : Hd}, (hs.map (·.1)).Nodup → p ∈ hs → valKD (hs.map hk) (.inl (p.1 : Int)) = some (.lst (p.2.map dQ))
  | q :: hs, p, hn, hp => by
    rw [List.map_cons, List.nodup_cons] at hn
    show (if (Sum.inl (q.1 : Int) : Key) = Sum.inl (p.1 : Int) then some (D.lst (q.2.map dQ)) else valKD (hs.map hk) (.inl (p.1 : Int))) = _
    rcases List.mem_cons.mp hp with e1 | hp2
    · rw [e1, if_pos rfl]
    · rw [if_neg fun z => hn.1 (by
        have : (q.1 : Int) = (p.1 : Int) := Sum.inl.inj z
        have : q.1 = p.1 := by omega
        rw [this]; exact List.mem_map_of_mem hp2)]
      exact val_hd hn.2 hp2
theorem hd_inj : ∀ {hs : List Hd} {p q : Hd}, (hs.map (·.1)).Nodup → p ∈ hs → q ∈ hs → p.1 = q.1 → p = q
  | x :: hs, p, q, hn, hp, hq, e => by
    rw [List.map_cons, List.nodup_cons] at hn
    rcases List.mem_cons.mp hp with e1 | hp2
    · rcases List.mem_cons.mp hq with e2 | hq2
      · rw [e1, e2]
      · exact absurd (by rw [← e1, e]; exact List.mem_map_of_mem hq2) hn.1
    · rcases List.mem_cons.mp hq with e2 | hq2
      · exact absurd (by rw [← e2, ← e]; exact List.mem_map_of_mem hp2) hn.1
      · exact hd_inj hn.2 hp2 hq2 e
/-- some of the heads told anew -/
def mixH (f : Hd → Hd) (d : List Nat) (hs : List Hd) : List Hd := hs.map fun p => if p.1 ∈ d then f p else p
theorem mix_nil (f : Hd → Hd) (hs : List Hd) : mixH f [] hs = hs := by
  unfold mixH
  have : hs.map (fun p => if p.1 ∈ ([] : List Nat) then f p else p) = hs.map id := List.map_congr_left fun p _ => if_neg (by simp)
  rw [this, List.map_id]
theorem mix_all {f : Hd → Hd} {d : List Nat} {hs : List Hd} (h : ∀ p ∈ hs, p.1 ∈ d) : mixH f d hs = hs.map f := List.map_congr_left fun p hp => if_pos (h p hp)
theorem mix_at {f : Hd → Hd} (hf : ∀ p, (f p).1 = p.1) (d : List Nat) (hs : List Hd) : (mixH f d hs).map (·.1) = hs.map (·.1) := by
  unfold mixH
  rw [List.map_map]
  refine List.map_congr_left fun p _ => ?_
  show (if p.1 ∈ d then f p else p).1 = p.1
  split
  · exact hf p
  · rfl
theorem mix_mem {f : Hd → Hd} {d : List Nat} {hs : List Hd} {p : Hd} (hp : p ∈ hs) (hd : p.1 ∉ d) : p ∈ mixH f d hs := List.mem_map.mpr ⟨p, hp, if_neg hd⟩
theorem mix_put {f : Hd → Hd} (hf : ∀ p, (f p).1 = p.1) {d : List Nat} {hs : List Hd} {p : Hd} (hn : (hs.map (·.1)).Nodup) (hp : p ∈ hs) (hd : p.1 ∉ d) : putKD ((mixH f d hs).map hk) (.inl (p.1 : Int)) (.lst ((f p).2.map dQ)) = (mixH f (d ++ [p.1]) hs).map hk := by
  unfold putKD
  have e : (((mixH f d hs).map hk).any fun q => decide (q.1 = (.inl (p.1 : Int) : Key))) = true := by
    rw [List.any_eq_true]
    exact ⟨_, List.mem_map_of_mem (mix_mem hp hd), decide_eq_true rfl⟩
  rw [if_pos e]
  unfold mixH
  rw [List.map_map, List.map_map, List.map_map]
  refine List.map_congr_left fun q hq => ?_
  show (if (Sum.inl ((if q.1 ∈ d then f q else q).1 : Int) : Key) = Sum.inl (p.1 : Int) then _ else hk (if q.1 ∈ d then f q else q)) = hk (if q.1 ∈ d ++ [p.1] then f q else q)
  have e1 : (if q.1 ∈ d then f q else q).1 = q.1 := by
    split
    · exact hf q
    · rfl
  rw [e1]
  by_cases h : q.1 = p.1
  · have : q = p := hd_inj hn hq hp h
    subst this
    rw [if_pos rfl, if_pos (List.mem_append_right _ (List.mem_cons_self ..))]
    show ((Sum.inl ((if q.1 ∈ d then f q else q).1 : Int) : Key), D.lst ((f q).2.map dQ)) = ((Sum.inl ((f q).1 : Int) : Key), D.lst ((f q).2.map dQ))
    rw [e1, hf q]
  · rw [if_neg fun z => h (by have : (q.1 : Int) = (p.1 : Int) := Sum.inl.inj z
                              omega)]
    by_cases h2 : q.1 ∈ d
    · rw [if_pos h2, if_pos (List.mem_append_left _ h2)]
    · rw [if_neg h2, if_neg fun z => by
        rcases List.mem_append.mp z with z | z
        · exact h2 z
        · exact h (List.mem_singleton.mp z)]
theorem mix_skip {f : Hd → Hd} {d : List Nat} {hs : List Hd} {p : Hd} (hn : (hs.map (·.1)).Nodup) (hp : p ∈ hs) (hd : p.1 ∉ d) (hfp : f p = p) : mixH f (d ++ [p.1]) hs = mixH f d hs := by
  refine List.map_congr_left fun q hq => ?_
  by_cases h : q.1 = p.1
  · have : q = p := hd_inj hn hq hp h
    subst this
    rw [if_pos (List.mem_append_right _ (List.mem_cons_self ..)), if_neg hd, hfp]
  · by_cases h2 : q.1 ∈ d
    · rw [if_pos h2, if_pos (List.mem_append_left _ h2)]
    · rw [if_neg h2, if_neg fun z => by
        rcases List.mem_append.mp z with z | z
        · exact h2 z
        · exact h (List.mem_singleton.mp z)]
theorem ltok_canon {w : Nat} {D : Int} {N : Nat} {hs hs' : List Hd} (h : LtOk w D N hs) (hp : hs'.Perm hs) (hs2 : (hs'.map (·.1)).Pairwise (· < ·)) : Canon w (hs'.map (·.2)) ∧ Same (inHd hs) (inRows (hs'.map (·.2))) := by
  have hl : ∀ p ∈ hs, leadQ p.2 = some p.1 := fun p hp' => leadQ_of (h.pre p hp') (by rw [h.one p hp']; grind)
  refine ⟨⟨fun r hr => ?_, fun r hr => ?_, ?_, fun r hr q hq i hi hne2 => ?_⟩, Same.of (fun v hv => ?_) fun v hv => ?_⟩
  · obtain ⟨p, hp', rfl⟩ := List.mem_map.mp hr
    exact h.len p (hp.subset hp')
  · obtain ⟨p, hp', rfl⟩ := List.mem_map.mp hr
    exact ⟨_, hl p (hp.subset hp'), h.one p (hp.subset hp')⟩
  · rw [List.map_map]
    have e : hs'.map ((fun r => (leadQ r).getD 0) ∘ (·.2)) = hs'.map (·.1) := List.map_congr_left fun p hp' => by
      show (leadQ p.2).getD 0 = p.1
      rw [hl p (hp.subset hp')]
      rfl
    rw [e]
    exact hs2
  · obtain ⟨p, hp', rfl⟩ := List.mem_map.mp hr
    obtain ⟨q, hq', rfl⟩ := List.mem_map.mp hq
    rw [hl q (hp.subset hq')] at hi
    cases hi
    exact h.off p (hp.subset hp') q (hp.subset hq') fun e => hne2 (by rw [hd_inj h.nd (hp.subset hp') (hp.subset hq') e])
  · obtain ⟨p, hp', rfl⟩ := hv
    exact Sp.one ⟨_, List.mem_map_of_mem (hp.symm.subset hp'), rfl⟩
  · obtain ⟨x, hx, rfl⟩ := hv
    obtain ⟨p, hp', rfl⟩ := List.mem_map.mp hx
    exact Sp.one ⟨p, hp.subset hp', rfl⟩
theorem LtOk.few {w : Nat} {D : Int} {N : Nat} {hs : List Hd} (h : LtOk w D N hs) : hs.length ≤ w := by
  have := few_nat w (hs.map (·.1)) h.nd (fun x hx => by
    obtain ⟨p, hp', rfl⟩ := List.mem_map.mp hx
    exact h.lt p hp')
  rwa [List.length_map] at this
theorem vecQ_get {r : List Rat} {q : Rat} (h : q ∈ r) : ∃ i, i < r.length ∧ vecQ r i = q := by
  obtain ⟨i, hi, e⟩ := List.mem_iff_getElem.mp h
  refine ⟨i, hi, ?_⟩
  unfold vecQ
  rw [List.getD_eq_getElem?_getD, List.getElem?_eq_getElem hi]
  exact e
theorem LtOk.big {w : Nat} {D : Int} {N : Nat} {hs : List Hd} (h : LtOk w D N hs) (hN : N < 2 ^ 3400) {p : Hd} (hp : p ∈ hs) : ∃ M : Nat, 0 < M ∧ M < 2 ^ 3400 ∧ ∀ q ∈ p.2, q.den ∣ M ∧ q.num.natAbs < 2 ^ 3400 := by
  refine ⟨D.natAbs, Int.natAbs_pos.mpr h.d, Nat.lt_of_le_of_lt h.dn hN, fun q hq => ?_⟩
  obtain ⟨i, _, rfl⟩ := vecQ_get hq
  obtain ⟨V, hV, hVb⟩ := h.v p hp i
  obtain ⟨h1, h2⟩ := den_of h.d hV
  exact ⟨h1, Nat.lt_of_le_of_lt (Nat.le_trans h2 hVb) hN⟩
theorem LtOk.sm {w : Nat} {D : Int} {N : Nat} {hs : List Hd} (h : LtOk w D N hs) (hN : N < 2 ^ 4400) {p : Hd} (hp : p ∈ hs) : ∀ q ∈ p.2, SmQ q := fun q hq => by
  obtain ⟨i, _, rfl⟩ := vecQ_get hq
  obtain ⟨V, hV, hVb⟩ := h.v p hp i
  exact smq_of h.d hV (Nat.lt_of_le_of_lt h.dn hN) (Nat.lt_of_le_of_lt hVb hN)
theorem row_int {w : Nat} {r : List Rat} (h : RowOk w r) : ∃ M : Nat, 0 < M ∧ M ≤ 84 ∧ ∀ i, ∃ u : Int, vecQ r i * (M : Rat) = (u : Rat) ∧ u.natAbs ≤ 360 := by
  obtain ⟨hl, M, hM, hM2, hr⟩ := h
  refine ⟨M, hM, hM2, fun i => ?_⟩
  rcases vecQ_mem (r := r) (i := i) with e | e
  · obtain ⟨h1, h2⟩ := hr _ e
    refine ⟨(vecQ r i).num * ((M / (vecQ r i).den : Nat) : Int), ?_, ?_⟩
    · rw [line_num h1]
      grind
    · rw [Int.natAbs_mul, Int.natAbs_natCast]
      exact h2
  · refine ⟨0, ?_, by decide⟩
    rw [e]
    show (0 : Rat) * _ = ((0 : Int) : Rat)
    rw [Rat.zero_mul]
    rfl
theorem deq_lst_nil (ds : List D) : deq (.lst ds) (.lst []) = ds.isEmpty := by
  cases ds with
  | nil => rfl
  | cons _ _ => rfl
theorem lst_same (r : List Rat) : (r.map dQ).length = r.length := List.length_map ..
theorem perm_neH {d r hs : List Hd} {p : Hd} (h : (d ++ p :: r).Perm hs) (hn : (hs.map (·.1)).Nodup) : p ∈ hs ∧ (∀ q ∈ d, q ∈ hs ∧ q.1 ≠ p.1) ∧ ∀ q ∈ r, q ∈ hs ∧ q.1 ≠ p.1 := by
  have hn2 : ((d ++ p :: r).map (·.1)).Nodup := (h.map (·.1)).nodup_iff.mpr hn
  rw [List.map_append, List.map_cons] at hn2
  obtain ⟨n1, n2, n3⟩ := List.nodup_append.mp hn2
  rw [List.nodup_cons] at n2
  refine ⟨h.subset (List.mem_append_right _ (List.mem_cons_self ..)), fun q hq => ⟨h.subset (List.mem_append_left _ hq), ?_⟩, fun q hq => ⟨h.subset (List.mem_append_right _ (List.mem_cons_of_mem _ hq)), fun e => n2.1 ?_⟩⟩
  · exact n3 _ (List.mem_map_of_mem hq) _ (List.mem_cons_self ..)
  · rw [← e]
    exact List.mem_map_of_mem hq
theorem up_ofH {hs : List Hd} (hn : (hs.map (·.1)).Nodup) (h : (hs.map fun p => (p.1 : Int)).Pairwise (· ≤ ·)) : (hs.map (·.1)).Pairwise (· < ·) := by
  rw [List.pairwise_map] at h ⊢
  have hn' : hs.Pairwise fun a b => a.1 ≠ b.1 := List.pairwise_map.mp hn
  exact (h.and hn').imp fun ⟨h1, h2⟩ => by omega
end K43
set_option Elab.async false
set_option linter.all false
set_option maxRecDepth 100000
set_option maxHeartbeats 4000000
namespace K43
open PySem PySem.Spec PyProof.Rows L2 DL
theorem dok_ones {α : Type} (l : List α) (h : l.length ≤ 1000) : dok 60 (.lst (l.map fun _ => D.int 1)) = true := by
  refine okn_dok ?_
  show (decide ((l.map fun _ => D.int 1).length ≤ 1000) && (l.map fun _ => D.int 1).all (okn 59)) = true
  rw [List.length_map, decide_eq_true h, Bool.true_and, List.all_eq_true]
  intro x hx
  obtain ⟨_, _, rfl⟩ := List.mem_map.mp hx
  rfl
theorem part_eq (q c : Rat) : Rat.divInt (q.num * (c.den : Int)) ((q.den : Int) * c.num) = q / c := by
  rw [Rat.divInt_eq_div, Rat.intCast_mul, Rat.intCast_mul, Rat.intCast_natCast, Rat.intCast_natCast, ← q_den q, ← q_den c]
  have h1 : ((q.den : Nat) : Rat) ≠ 0 := by exact_mod_cast q.den_nz
  have h2 : ((c.den : Nat) : Rat) ≠ 0 := by exact_mod_cast c.den_nz
  by_cases hc : c = 0
  · rw [hc, Rat.zero_mul, Rat.mul_zero, Rat.div_def, Rat.div_def, Rat.inv_zero, Rat.mul_zero, Rat.mul_zero]
  · grind
theorem l_law_table {ds G Q} (h : S_law_table ds G Q) : r_law_table (Ends1 Q) (startD N_law_table ds) G := by
  obtain ⟨rows, w, rfl, hw0, hw, hrl, hrows, hq⟩ := h
  rw [show startD N_law_table [dTab rows] = [some (dTab rows), none, none, none, none, none, none] from rfl]
  simp only [r_law_table, dVar, dC, dOp, dB, dAnd, dOr, dNot, dAndV, dOrV, dNotV, dIf, dNil, dCons, dTup, dLst, dLstT, fAdd, fSub, fDiv, fMod, fPow, fMul, fCmp, fLt, fLe, fGt, fGe, fEq, fNe, fIs, fIsNot, isNonD, dNeg, dCB, on1, fLen, fTup, fLstF, fLstT, fAbs, fInt, onI2, fGcd, fMax2, fMin2, fIsi, frzOf, dSq, dRng1, dRng2, dEnum, dZip, dKeys, dVals, dItems, onK, onS, onD, onB, onKs, onY, onI, onN, dctOf, keyOf, gNm, DL.gNil, DL.gCons, gTp, gSubL, gSubD, dNx, dSeq, dBk, dCt, dDrop, dRet, dRetN, dIfS, dAsg, dPar, dPar3, dFor, dWhile, dLc, dLc2, dDc, dItemsT, dDGet, dDGet2, dApp, dPopAt, dPart, dNoPart, dSlc, fSlc, insOf, dFld, dFldS, dCall, dMeth, dMk, mkEnd, dRevT, dNever, dBits, dDictT, dDict1, fSortD, fListD, sl, wipeD, seqOf, IsLst, getFD, putFD, fIx, List.set, List.length_cons, List.length_nil, List.cons.injEq, and_true, true_and, Nat.reduceAdd, reduceCtorEq, if_true, if_false, Bool.false_eq_true, ne_eq, not_false_eq_true, ite_true, ite_false]
  intro a ha
  simp only [dTab, List.set, List.length_cons, List.length_nil, List.cons.injEq, and_true, true_and, Nat.reduceAdd, reduceCtorEq, if_true, if_false, Bool.false_eq_true, ne_eq, not_false_eq_true, ite_true, ite_false]
  refine for_run (fun rest ρ G' => ∃ (d x : List (List Rat)) (o2 o3 o4 o5 o6 : Option D) (hs : List Hd), d ++ x = rows ∧ rest = x.map dRow ∧ ρ = [some (dTab rows), some (.ref a), o2, o3, o4, o5, o6] ∧ G' = gput G a (.dct (hs.map hk)) ∧ LHeld w hs d) ?_ ?_ _ _ _ ⟨[], rows, none, none, none, none, none, [], rfl, rfl, rfl, rfl, ?_⟩
  · rintro ρ G' ⟨d, x, o2, o3, o4, o5, o6, hs, e1, e2, rfl, rfl, ⟨D, hD⟩, hsame⟩
    have er : x = [] := by
      cases x with
      | nil => rfl
      | cons _ _ => cases e2
    subst er
    rw [List.append_nil] at e1
    subst e1
    have hfew : hs.length ≤ 8 := Nat.le_trans hD.few hw
    simp only [dVar, dC, dOp, dB, dAnd, dOr, dNot, dAndV, dOrV, dNotV, dIf, dNil, dCons, dTup, dLst, dLstT, fAdd, fSub, fDiv, fMod, fPow, fMul, fCmp, fLt, fLe, fGt, fGe, fEq, fNe, fIs, fIsNot, isNonD, dNeg, dCB, on1, fLen, fTup, fLstF, fLstT, fAbs, fInt, onI2, fGcd, fMax2, fMin2, fIsi, frzOf, dSq, dRng1, dRng2, dEnum, dZip, dKeys, dVals, dItems, onK, onS, onD, onB, onKs, onY, onI, onN, dctOf, keyOf, gNm, DL.gNil, DL.gCons, gTp, gSubL, gSubD, dNx, dSeq, dBk, dCt, dDrop, dRet, dRetN, dIfS, dAsg, dPar, dPar3, dFor, dWhile, dLc, dLc2, dDc, dItemsT, dDGet, dDGet2, dApp, dPopAt, dPart, dNoPart, dSlc, fSlc, insOf, dFld, dFldS, dCall, dMeth, dMk, mkEnd, dRevT, dNever, dBits, dDictT, dDict1, fSortD, fListD, sl, wipeD, seqOf, IsLst, getFD, putFD, fIx, List.set, List.length_cons, List.length_nil, List.cons.injEq, and_true, true_and, Nat.reduceAdd, reduceCtorEq, if_true, if_false, Bool.false_eq_true, ne_eq, not_false_eq_true, ite_true, ite_false, gput_same]
    refine ⟨hs.map fun p => (p.1 : Int), hk_keys hs, by rw [List.length_map]; omega, fun ns' hp hsr => ?_⟩
    obtain ⟨hs2, hp2, rfl⟩ := perm_lift _ ns' hs hp
    have hup := up_ofH ((hp2.map (·.1)).nodup_iff.mpr hD.nd) hsr
    intro p hp3
    rw [List.map_map]
    refine lc_mapA (fun p : Hd => dRow p.2) (lt_size (by have := hp2.length_eq; omega)) hp3 (fun x hx G3 C he hc => ?_) ?_
    · simp only [dVar, dC, dOp, dB, dAnd, dOr, dNot, dAndV, dOrV, dNotV, dIf, dNil, dCons, dTup, dLst, dLstT, fAdd, fSub, fDiv, fMod, fPow, fMul, fCmp, fLt, fLe, fGt, fGe, fEq, fNe, fIs, fIsNot, isNonD, dNeg, dCB, on1, fLen, fTup, fLstF, fLstT, fAbs, fInt, onI2, fGcd, fMax2, fMin2, fIsi, frzOf, dSq, dRng1, dRng2, dEnum, dZip, dKeys, dVals, dItems, onK, onS, onD, onB, onKs, onY, onI, onN, dctOf, keyOf, gNm, DL.gNil, DL.gCons, gTp, gSubL, gSubD, dNx, dSeq, dBk, dCt, dDrop, dRet, dRetN, dIfS, dAsg, dPar, dPar3, dFor, dWhile, dLc, dLc2, dDc, dItemsT, dDGet, dDGet2, dApp, dPopAt, dPart, dNoPart, dSlc, fSlc, insOf, dFld, dFldS, dCall, dMeth, dMk, mkEnd, dRevT, dNever, dBits, dDictT, dDict1, fSortD, fListD, sl, wipeD, seqOf, IsLst, getFD, putFD, fIx, List.set, List.length_cons, List.length_nil, List.cons.injEq, and_true, true_and, Nat.reduceAdd, reduceCtorEq, if_true, if_false, Bool.false_eq_true, ne_eq, not_false_eq_true, ite_true, ite_false, he a _ gput_same]
      have hv := val_hd hD.nd (hp2.subset hx)
      show (match valKD (hs.map hk) (.inl (x.1 : Int)) with
        | some d => _
        | none => False)
      rw [hv]
      exact hc
    · obtain ⟨t1, t2⟩ := ltok_canon hD hp2 hup
      have q := hq (hs2.map (·.2)) _ (Ext.put (c := .dct (hs.map hk)) ha) ⟨t1, hsame.symm.trans t2⟩ fun r hr => by
        obtain ⟨p, hp4, rfl⟩ := List.mem_map.mp hr
        exact hD.big (NN_big hfew) (hp2.subset hp4)
      unfold dTab at q
      rw [List.map_map] at q
      exact q
  · rintro y rest ρ G' C ⟨d, x, o2, o3, o4, o5, o6, hs, e1, e2, rfl, rfl, hh⟩ hc
    obtain ⟨⟨D, hD⟩, hsame⟩ := id hh
    cases x with
    | nil => cases e2
    | cons r x =>
      cases e2
      have hrm : r ∈ rows := by rw [← e1]; exact List.mem_append_right _ (List.mem_cons_self ..)
      have hfew : hs.length ≤ 8 := Nat.le_trans hD.few hw
      have hr := hrows r hrm
      have hrl2 : r.length = w := hr.1
      obtain ⟨M, hM, hM2, hru⟩ := row_int hr
      simp only [dRow, dVar, dC, dOp, dB, dAnd, dOr, dNot, dAndV, dOrV, dNotV, dIf, dNil, dCons, dTup, dLst, dLstT, fAdd, fSub, fDiv, fMod, fPow, fMul, fCmp, fLt, fLe, fGt, fGe, fEq, fNe, fIs, fIsNot, isNonD, dNeg, dCB, on1, fLen, fTup, fLstF, fLstT, fAbs, fInt, onI2, fGcd, fMax2, fMin2, fIsi, frzOf, dSq, dRng1, dRng2, dEnum, dZip, dKeys, dVals, dItems, onK, onS, onD, onB, onKs, onY, onI, onN, dctOf, keyOf, gNm, DL.gNil, DL.gCons, gTp, gSubL, gSubD, dNx, dSeq, dBk, dCt, dDrop, dRet, dRetN, dIfS, dAsg, dPar, dPar3, dFor, dWhile, dLc, dLc2, dDc, dItemsT, dDGet, dDGet2, dApp, dPopAt, dPart, dNoPart, dSlc, fSlc, insOf, dFld, dFldS, dCall, dMeth, dMk, mkEnd, dRevT, dNever, dBits, dDictT, dDict1, fSortD, fListD, sl, wipeD, seqOf, IsLst, getFD, putFD, fIx, List.set, List.length_cons, List.length_nil, List.cons.injEq, and_true, true_and, Nat.reduceAdd, reduceCtorEq, if_true, if_false, Bool.false_eq_true, ne_eq, not_false_eq_true, ite_true, ite_false, gput_same]
      refine ⟨hs.map fun p => (p.1 : Int), hk_keys hs, by rw [List.length_map]; omega, fun ns' hp hsr => ?_⟩
      obtain ⟨hs2, hp2, rfl⟩ := perm_lift _ ns' hs hp
      have hD0 : ((M : Int) * D) ≠ 0 := Int.mul_ne_zero (by omega) hD.d
      have hN := NN_bound (e := 4400) hfew (by decide)
      have hN2 : NN hs.length < 2 ^ 4400 := Nat.lt_of_lt_of_le (NN_big hfew) (Nat.pow_le_pow_right (by decide) (by decide))
      have hE : ((M : Int) * D).natAbs < 2 ^ 4400 := by
        refine Nat.lt_of_le_of_lt ?_ hN
        rw [Int.natAbs_mul, Int.natAbs_natCast]
        exact Nat.mul_le_mul (by omega) hD.dn
      refine for_run (fun rest ρ G2 => ∃ (d1 x1 : List Hd) (left : List Rat) (o4 : Option DL.D), d1 ++ x1 = hs2 ∧ rest = x1.map (fun p => DL.D.int (p.1 : Int)) ∧
        ρ = [some (dTab rows), some (.ref a), some (dRow r), some (.lst (left.map dQ)), o4, o5, o6] ∧ G2 = gput G a (.dct (hs.map hk)) ∧ LJ w ((M : Int) * D) (NN hs.length) hs r d1 x1 left) ?_ ?_ _ _ _ ⟨[], hs2, r, o4, rfl, by rw [List.map_map]; rfl, rfl, rfl, LJ.start hD hrl2 hM hru⟩
      · rintro ρ G2 ⟨d1, x1, left, o4, e3, e4, rfl, rfl, hJ⟩
        have er : x1 = [] := by
          cases x1 with
          | nil => rfl
          | cons _ _ => cases e4
        subst er
        rw [List.append_nil] at e3
        subst e3
        simp only [dTab, dRow, dVar, dC, dOp, dB, dAnd, dOr, dNot, dAndV, dOrV, dNotV, dIf, dNil, dCons, dTup, dLst, dLstT, fAdd, fSub, fDiv, fMod, fPow, fMul, fCmp, fLt, fLe, fGt, fGe, fEq, fNe, fIs, fIsNot, isNonD, dNeg, dCB, on1, fLen, fTup, fLstF, fLstT, fAbs, fInt, onI2, fGcd, fMax2, fMin2, fIsi, frzOf, dSq, dRng1, dRng2, dEnum, dZip, dKeys, dVals, dItems, onK, onS, onD, onB, onKs, onY, onI, onN, dctOf, keyOf, gNm, DL.gNil, DL.gCons, gTp, gSubL, gSubD, dNx, dSeq, dBk, dCt, dDrop, dRet, dRetN, dIfS, dAsg, dPar, dPar3, dFor, dWhile, dLc, dLc2, dDc, dItemsT, dDGet, dDGet2, dApp, dPopAt, dPart, dNoPart, dSlc, fSlc, insOf, dFld, dFldS, dCall, dMeth, dMk, mkEnd, dRevT, dNever, dBits, dDictT, dDict1, fSortD, fListD, sl, wipeD, seqOf, IsLst, getFD, putFD, fIx, List.set, List.length_cons, List.length_nil, List.cons.injEq, and_true, true_and, Nat.reduceAdd, reduceCtorEq, if_true, if_false, Bool.false_eq_true, ne_eq, not_false_eq_true, ite_true, ite_false]
        intro p hp3
        refine lc_fmA (l := left) (fun q => !decide (q = 0)) (fun _ => .int 1) (lt_size (by rw [hJ.len]; omega)) hp3 (fun q hq' G3 K1 K0 _ hc' => ?_) ?_
        · simp only [dQ, dVar, dC, dOp, dB, dAnd, dOr, dNot, dAndV, dOrV, dNotV, dIf, dNil, dCons, dTup, dLst, dLstT, fAdd, fSub, fDiv, fMod, fPow, fMul, fCmp, fLt, fLe, fGt, fGe, fEq, fNe, fIs, fIsNot, isNonD, dNeg, dCB, on1, fLen, fTup, fLstF, fLstT, fAbs, fInt, onI2, fGcd, fMax2, fMin2, fIsi, frzOf, dSq, dRng1, dRng2, dEnum, dZip, dKeys, dVals, dItems, onK, onS, onD, onB, onKs, onY, onI, onN, dctOf, keyOf, gNm, DL.gNil, DL.gCons, gTp, gSubL, gSubD, dNx, dSeq, dBk, dCt, dDrop, dRet, dRetN, dIfS, dAsg, dPar, dPar3, dFor, dWhile, dLc, dLc2, dDc, dItemsT, dDGet, dDGet2, dApp, dPopAt, dPart, dNoPart, dSlc, fSlc, insOf, dFld, dFldS, dCall, dMeth, dMk, mkEnd, dRevT, dNever, dBits, dDictT, dDict1, fSortD, fListD, sl, wipeD, seqOf, IsLst, getFD, putFD, fIx, List.set, List.length_cons, List.length_nil, List.cons.injEq, and_true, true_and, Nat.reduceAdd, reduceCtorEq, if_true, if_false, Bool.false_eq_true, ne_eq, not_false_eq_true, ite_true, ite_false, at0, dok_int, Bool.and_self, deq_int]
          rw [num_zero]
          exact hc'
        · refine ⟨Nat.zero_le _, by rw [dok_ones _ (Nat.le_trans (List.length_filter_le ..) (by rw [hJ.len]; omega))]; rfl, ?_⟩
          rw [deq_lst_nil]
          by_cases hall : (left.all fun q => decide (q = 0)) = true
          · have hf : left.filter (fun q => !decide (q = 0)) = [] := List.filter_eq_nil_iff.mpr fun q hq' => by
              rw [of_decide_eq_true (List.all_eq_true.mp hall q hq')]
              decide
            rw [hf]
            have hz : ∀ j, vecQ left j = 0 := fun j => by
              rcases vecQ_mem (r := left) (i := j) with h | h
              · exact of_decide_eq_true (List.all_eq_true.mp hall _ h)
              · exact h
            exact hc _ _ ⟨d ++ [r], x, some (dRow r), some (.lst (left.map dQ)), o4, o5, o6, hs, by rw [List.append_assoc]; exact e1, rfl, rfl, rfl, lheld_none hh hJ.sp hz⟩
          · obtain ⟨i, hi1, hi2, hi3⟩ := leadQ_some (Bool.eq_false_iff.mpr hall)
            have hf : (((left.filter fun q => !decide (q = 0)).map fun _ => DL.D.int 1).isEmpty) = false := by
              rw [Bool.eq_false_iff]
              intro z
              rw [List.isEmpty_iff, List.map_eq_nil_iff, List.filter_eq_nil_iff] at z
              refine hall (List.all_eq_true.mpr fun q hq' => ?_)
              have := z q hq'
              revert this
              cases decide (q = 0) <;> decide
            rw [hf]
            rw [if_pos (by decide)]
            have hlh : vecQ left i ∈ left := by
              rcases vecQ_mem (r := left) (i := i) with h | h
              · exact h
              · exact absurd h hi3
            have hsm : ∀ q ∈ left, SmQ q := fun q hq' => by
              obtain ⟨j, _, rfl⟩ := vecQ_get hq'
              obtain ⟨W, h1, h2⟩ := hJ.W j
              refine smq_of hD0 h1 hE (Nat.lt_of_le_of_lt h2 (Nat.lt_of_le_of_lt ?_ hN))
              exact Nat.mul_le_mul_right _ (Nat.mul_le_mul_right _ (by have := hp2.length_eq; omega))
            have hlw : left.length = w := hJ.len
            have hstep := lheld_step hw hh hD0 hJ.len (fun p hp => hJ.z p (hp2.symm.subset hp)) (fun i => by
              obtain ⟨W, h1, h2⟩ := hJ.W i
              refine ⟨W, h1, Nat.le_trans h2 ?_⟩
              exact Nat.mul_le_mul_right _ (Nat.mul_le_mul_right _ (by have := hp2.length_eq; omega))) hJ.sp hi1 hi3
            refine ⟨left, i, rfl, by rw [hlw]; omega, hi1, fun p4 hp4 => ?_⟩
            refine lc_mapA (fun q : Rat => dQ (q / vecQ left i)) (lt_size (by rw [hlw]; omega)) hp4 (fun q hq' G3 C3 _ hc3 => ?_) ?_
            · simp only [dQ, dVar, dC, dOp, dB, dAnd, dOr, dNot, dAndV, dOrV, dNotV, dIf, dNil, dCons, dTup, dLst, dLstT, fAdd, fSub, fDiv, fMod, fPow, fMul, fCmp, fLt, fLe, fGt, fGe, fEq, fNe, fIs, fIsNot, isNonD, dNeg, dCB, on1, fLen, fTup, fLstF, fLstT, fAbs, fInt, onI2, fGcd, fMax2, fMin2, fIsi, frzOf, dSq, dRng1, dRng2, dEnum, dZip, dKeys, dVals, dItems, onK, onS, onD, onB, onKs, onY, onI, onN, dctOf, keyOf, gNm, DL.gNil, DL.gCons, gTp, gSubL, gSubD, dNx, dSeq, dBk, dCt, dDrop, dRet, dRetN, dIfS, dAsg, dPar, dPar3, dFor, dWhile, dLc, dLc2, dDc, dItemsT, dDGet, dDGet2, dApp, dPopAt, dPart, dNoPart, dSlc, fSlc, insOf, dFld, dFldS, dCall, dMeth, dMk, mkEnd, dRevT, dNever, dBits, dDictT, dDict1, fSortD, fListD, sl, wipeD, seqOf, IsLst, getFD, putFD, fIx, List.set, List.length_cons, List.length_nil, List.cons.injEq, and_true, true_and, Nat.reduceAdd, reduceCtorEq, if_true, if_false, Bool.false_eq_true, ne_eq, not_false_eq_true, ite_true, ite_false, at_row hi2, at0, at1]
              obtain ⟨s1, s2⟩ := hsm _ hlh
              obtain ⟨s3, s4⟩ := hsm q hq'
              have up9 : (2 : Nat) ^ (4400 + 4400) ≤ 2 ^ 9000 := Nat.pow_le_pow_right (by decide) (by decide)
              refine ⟨mul_ok s3 (cast_lt s2), mul_ok (cast_lt s4) s1, _, _, rfl, Int.mul_ne_zero (den_ne q) fun z => hi3 (Rat.num_eq_zero.mp z), ?_, ?_, .inl (Nat.lt_of_lt_of_le (wd_mul (cast_lt s4) s1) up9), ?_⟩
              · exact lt_up (wd_mul s3 (cast_lt s2)) (by decide)
              · exact lt_up (wd_mul (cast_lt s4) s1) (by decide)
              · rw [part_eq]
                exact hc3
            · have en : left.map (fun q => dQ (q / vecQ left i)) = (normQ left i).map dQ := by unfold normQ; rw [List.map_map]; rfl
              rw [en]
              simp only [gput_same]
              have hnl : (normQ left i).length = w := by unfold normQ; rw [List.length_map]; exact hlw
              have hiw : i < w := by rw [← hlw]; exact hi2
              obtain ⟨⟨D2, hD2⟩, _⟩ := id hstep
              have hlen2 : (hs.map (updH i (normQ left i)) ++ [(i, normQ left i)]).length ≤ 8 := Nat.le_trans hD2.few hw
              have hN3 : NN (hs.map (updH i (normQ left i)) ++ [(i, normQ left i)]).length < 2 ^ 4400 := Nat.lt_of_lt_of_le (NN_big hlen2) (Nat.pow_le_pow_right (by decide) (by decide))
              have hsn : ∀ q ∈ normQ left i, SmQ q := hD2.sm hN3 (p := (i, normQ left i)) (List.mem_append_right _ (List.mem_cons_self ..))
              have hnot : i ∉ hs.map (·.1) := fun z => by
                obtain ⟨p, hp, e⟩ := List.mem_map.mp z
                exact hi3 (by rw [← e]; exact hJ.z p (hp2.symm.subset hp))
              refine ⟨hs.map fun p => (p.1 : Int), hk_keys hs, by rw [List.length_map]; omega, fun ns2 hp5 hsr2 => ?_⟩
              obtain ⟨hs3, hp6, rfl⟩ := perm_lift _ ns2 hs hp5
              have hf := updH_at i (normQ left i)
              refine for_run (fun rest ρ G3 => ∃ (d2 x2 : List Hd) (o4 : Option DL.D), d2 ++ x2 = hs3 ∧ rest = x2.map (fun p => DL.D.int (p.1 : Int)) ∧
                ρ = [some (dTab rows), some (.ref a), some (dRow r), some (.lst ((normQ left i).map dQ)), o4, some (.int i), o6] ∧ G3 = gput G a (.dct ((mixH (updH i (normQ left i)) (d2.map (·.1)) hs).map hk))) ?_ ?_ _ _ _ ⟨[], hs3, o4, rfl, by rw [List.map_map]; rfl, rfl, by rw [List.map_nil, mix_nil]⟩
              · rintro ρ G3 ⟨d2, x2, o4, e5, e6, rfl, rfl⟩
                have er : x2 = [] := by
                  cases x2 with
                  | nil => rfl
                  | cons _ _ => cases e6
                subst er
                rw [List.append_nil] at e5
                subst e5
                rw [mix_all fun p hp => List.mem_map_of_mem (hp6.symm.subset hp)]
                simp only [dTab, dRow, dVar, dC, dOp, dB, dAnd, dOr, dNot, dAndV, dOrV, dNotV, dIf, dNil, dCons, dTup, dLst, dLstT, fAdd, fSub, fDiv, fMod, fPow, fMul, fCmp, fLt, fLe, fGt, fGe, fEq, fNe, fIs, fIsNot, isNonD, dNeg, dCB, on1, fLen, fTup, fLstF, fLstT, fAbs, fInt, onI2, fGcd, fMax2, fMin2, fIsi, frzOf, dSq, dRng1, dRng2, dEnum, dZip, dKeys, dVals, dItems, onK, onS, onD, onB, onKs, onY, onI, onN, dctOf, keyOf, gNm, DL.gNil, DL.gCons, gTp, gSubL, gSubD, dNx, dSeq, dBk, dCt, dDrop, dRet, dRetN, dIfS, dAsg, dPar, dPar3, dFor, dWhile, dLc, dLc2, dDc, dItemsT, dDGet, dDGet2, dApp, dPopAt, dPart, dNoPart, dSlc, fSlc, insOf, dFld, dFldS, dCall, dMeth, dMk, mkEnd, dRevT, dNever, dBits, dDictT, dDict1, fSortD, fListD, sl, wipeD, seqOf, IsLst, getFD, putFD, fIx, List.set, List.length_cons, List.length_nil, List.cons.injEq, and_true, true_and, Nat.reduceAdd, reduceCtorEq, if_true, if_false, Bool.false_eq_true, ne_eq, not_false_eq_true, ite_true, ite_false, gput_same]
                have hnk : (Sum.inl ((i : Nat) : Int) : Key) ∉ (((hs.map (updH i (normQ left i))).map hk).map (·.1)) := by
                  rw [List.map_map, List.map_map]
                  intro z
                  obtain ⟨q, hq, e⟩ := List.mem_map.mp z
                  have e7 : ((updH i (normQ left i) q).1 : Int) = ((i : Nat) : Int) := Sum.inl.inj e
                  rw [hf] at e7
                  have e8 : q.1 = i := by omega
                  exact hnot (e8 ▸ List.mem_map_of_mem hq)
                refine ⟨by rw [List.length_map, List.length_map, sizeLine_eq]; omega, ?_⟩
                rw [putKD_new hnk, gput_gput]
                refine hc _ _ ⟨d ++ [r], x, some (dRow r), some (.lst ((normQ left i).map dQ)), o4, some (.int i), o6, _, by rw [List.append_assoc]; exact e1, rfl, rfl, ?_, hstep⟩
                rw [List.map_append]
                rfl
              · rintro y rest3 ρ G3 C4 ⟨d2, x2, o4, e5, e6, rfl, rfl⟩ hc4
                cases x2 with
                | nil => cases e6
                | cons p x2 =>
                  cases e6
                  obtain ⟨hp7, hd7, hx7⟩ := perm_neH (by rw [e5]; exact hp6) hD.nd
                  have hnd2 : p.1 ∉ d2.map (·.1) := fun z => by
                    obtain ⟨q, hq, e⟩ := List.mem_map.mp z
                    exact (hd7 q hq).2 e
                  have hv := val_hd (hs := mixH (updH i (normQ left i)) (d2.map (·.1)) hs) (by rw [mix_at hf]; exact hD.nd) (mix_mem hp7 hnd2)
                  have hlt : i < p.2.length := by rw [hD.len p hp7]; exact hiw
                  have hpl : p.2.length = (normQ left i).length := by rw [hnl]; exact hD.len p hp7
                  simp only [dRow, dVar, dC, dOp, dB, dAnd, dOr, dNot, dAndV, dOrV, dNotV, dIf, dNil, dCons, dTup, dLst, dLstT, fAdd, fSub, fDiv, fMod, fPow, fMul, fCmp, fLt, fLe, fGt, fGe, fEq, fNe, fIs, fIsNot, isNonD, dNeg, dCB, on1, fLen, fTup, fLstF, fLstT, fAbs, fInt, onI2, fGcd, fMax2, fMin2, fIsi, frzOf, dSq, dRng1, dRng2, dEnum, dZip, dKeys, dVals, dItems, onK, onS, onD, onB, onKs, onY, onI, onN, dctOf, keyOf, gNm, DL.gNil, DL.gCons, gTp, gSubL, gSubD, dNx, dSeq, dBk, dCt, dDrop, dRet, dRetN, dIfS, dAsg, dPar, dPar3, dFor, dWhile, dLc, dLc2, dDc, dItemsT, dDGet, dDGet2, dApp, dPopAt, dPart, dNoPart, dSlc, fSlc, insOf, dFld, dFldS, dCall, dMeth, dMk, mkEnd, dRevT, dNever, dBits, dDictT, dDict1, fSortD, fListD, sl, wipeD, seqOf, IsLst, getFD, putFD, fIx, List.set, List.length_cons, List.length_nil, List.cons.injEq, and_true, true_and, Nat.reduceAdd, reduceCtorEq, if_true, if_false, Bool.false_eq_true, ne_eq, not_false_eq_true, ite_true, ite_false, gput_same, hv, at_row hlt, dQ, at0, deq_int, dok_int, Bool.and_self]
                  rw [num_zero]
                  by_cases hz : vecQ p.2 i = 0
                  · rw [if_neg (by rw [decide_eq_true hz]; decide)]
                    refine hc4 _ _ ⟨d2 ++ [p], x2, some (.int p.1), by rw [List.append_assoc]; exact e5, rfl, rfl, ?_⟩
                    rw [List.map_append, List.map_cons, List.map_nil, mix_skip hD.nd hp7 hnd2 (by unfold updH; rw [if_pos hz])]
                  · rw [if_pos (by rw [decide_eq_false hz]; decide)]
                    have hup2 : updH i (normQ left i) p = (p.1, lessQ p.2 (normQ left i) (vecQ p.2 i)) := by unfold updH; rw [if_neg hz]
                    have hmem : updH i (normQ left i) p ∈ hs.map (updH i (normQ left i)) ++ [(i, normQ left i)] := List.mem_append_left _ (List.mem_map_of_mem hp7)
                    have hsu := hD2.sm hN3 hmem
                    rw [hup2] at hsu
                    have hph : vecQ p.2 i ∈ p.2 := by
                      rcases vecQ_mem (r := p.2) (i := i) with h | h
                      · exact h
                      · exact absurd h hz
                    refine ⟨p.2, normQ left i, vecQ p.2 i, rfl, by rw [hD.len p hp7]; omega, by rw [hnl]; omega, hD.sm hN2 hp7 _ hph, hD.sm hN2 hp7, hsn, hsu, ?_⟩
                    have hput := mix_put hf hD.nd hp7 hnd2
                    rw [hup2] at hput
                    simp only [gput_same]
                    refine ⟨by unfold mixH; rw [List.length_map, List.length_map, sizeLine_eq]; omega, ?_⟩
                    rw [hput, gput_gput]
                    refine hc4 _ _ ⟨d2 ++ [p], x2, some (.int p.1), by rw [List.append_assoc]; exact e5, rfl, rfl, ?_⟩
                    rw [List.map_append]
                    rfl
      · rintro y rest2 ρ G2 C2 ⟨d1, x1, left, o4, e3, e4, rfl, rfl, hJ⟩ hc2
        cases x1 with
        | nil => cases e4
        | cons p x1 =>
          cases e4
          obtain ⟨hp4, hd4, hx4⟩ := perm_neH (by rw [e3]; exact hp2) hD.nd
          have hlt : p.1 < left.length := by rw [hJ.len]; exact hD.lt p hp4
          have hv := val_hd hD.nd hp4
          simp only [dRow, dVar, dC, dOp, dB, dAnd, dOr, dNot, dAndV, dOrV, dNotV, dIf, dNil, dCons, dTup, dLst, dLstT, fAdd, fSub, fDiv, fMod, fPow, fMul, fCmp, fLt, fLe, fGt, fGe, fEq, fNe, fIs, fIsNot, isNonD, dNeg, dCB, on1, fLen, fTup, fLstF, fLstT, fAbs, fInt, onI2, fGcd, fMax2, fMin2, fIsi, frzOf, dSq, dRng1, dRng2, dEnum, dZip, dKeys, dVals, dItems, onK, onS, onD, onB, onKs, onY, onI, onN, dctOf, keyOf, gNm, DL.gNil, DL.gCons, gTp, gSubL, gSubD, dNx, dSeq, dBk, dCt, dDrop, dRet, dRetN, dIfS, dAsg, dPar, dPar3, dFor, dWhile, dLc, dLc2, dDc, dItemsT, dDGet, dDGet2, dApp, dPopAt, dPart, dNoPart, dSlc, fSlc, insOf, dFld, dFldS, dCall, dMeth, dMk, mkEnd, dRevT, dNever, dBits, dDictT, dDict1, fSortD, fListD, sl, wipeD, seqOf, IsLst, getFD, putFD, fIx, List.set, List.length_cons, List.length_nil, List.cons.injEq, and_true, true_and, Nat.reduceAdd, reduceCtorEq, if_true, if_false, Bool.false_eq_true, ne_eq, not_false_eq_true, ite_true, ite_false, at_row hlt, dQ, at0, deq_int, dok_int, Bool.and_self, gput_same, hv]
          rw [num_zero]
          by_cases hz : vecQ left p.1 = 0
          · rw [if_neg (by rw [decide_eq_true hz]; decide)]
            exact hc2 _ _ ⟨d1 ++ [p], x1, left, some (.int p.1), by rw [List.append_assoc]; exact e3, rfl, rfl, rfl, hJ.skip hz⟩
          · rw [if_pos (by rw [decide_eq_false hz]; decide)]
            have hJ2 := hJ.step hD hru hp4 hd4 hx4
            have hbd : (d1.length + 1 + 1) * 360 * NN hs.length ≤ (hs.length + 1) * 360 * NN hs.length := Nat.mul_le_mul_right _ (Nat.mul_le_mul_right _ (by
              have h1 := hp2.length_eq
              rw [← e3, List.length_append, List.length_cons] at h1
              omega))
            have hsm : ∀ (l : List Rat), (∀ i, ∃ W : Int, vecQ l i * (((M : Int) * D : Int) : Rat) = (W : Rat) ∧ W.natAbs ≤ (d1.length + 1 + 1) * 360 * NN hs.length) → ∀ q ∈ l, SmQ q := fun l hl q hq' => by
              obtain ⟨j, _, rfl⟩ := vecQ_get hq'
              obtain ⟨W, h1, h2⟩ := hl j
              exact smq_of hD0 h1 hE (Nat.lt_of_le_of_lt (Nat.le_trans h2 hbd) hN)
            have hsl := hsm left fun i => by
              obtain ⟨W, h1, h2⟩ := hJ.W i
              exact ⟨W, h1, Nat.le_trans h2 (Nat.mul_le_mul_right _ (Nat.mul_le_mul_right _ (by omega)))⟩
            have hsl2 := hsm _ fun i => by
              obtain ⟨W, h1, h2⟩ := hJ2.W i
              exact ⟨W, h1, by rw [List.length_append] at h2; exact h2⟩
            have hlh : vecQ left p.1 ∈ left := by
              rcases vecQ_mem (r := left) (i := p.1) with h | h
              · exact h
              · exact absurd h hz
            refine ⟨left, p.2, vecQ left p.1, rfl, by rw [hJ.len]; omega, by rw [hD.len p hp4]; omega, hsl _ hlh, hsl, hD.sm hN2 hp4, hsl2, ?_⟩
            exact hc2 _ _ ⟨d1 ++ [p], x1, _, some (.int p.1), by rw [List.append_assoc]; exact e3, rfl, rfl, rfl, hJ2⟩
  · refine ⟨⟨1, by decide, NN_pos 0, List.nodup_nil, (fun p hp => nomatch hp), (fun p hp => nomatch hp), (fun p hp => nomatch hp), (fun p hp => nomatch hp), (fun p hp => nomatch hp), (fun p hp => nomatch hp)⟩, Same.of ?_ ?_⟩
    · rintro v ⟨p, hp', _⟩
      cases hp'
    · rintro v ⟨p, hp', _⟩
      cases hp'
end K43
set_option Elab.async false
set_option linter.all false
set_option maxRecDepth 100000
set_option maxHeartbeats 4000000
namespace K43
open PySem PySem.Spec PyProof.Rows L2 DL
theorem urn_ne {u p : Addr} {G : GH} (hu : UrnOk G u) (hp : G p = none) : p ≠ u := fun e => by
  obtain ⟨_, _, h, _⟩ := hu
  rw [e, h] at hp
  cases hp
theorem ExtU.puts {u p : Addr} {G G' : GH} {c : DO} (h : ExtU u G G') (hp : G p = none) (hn : p ≠ u) : ExtU u G (gput G' p c) := by
  obtain ⟨⟨a, b, e, r⟩, k⟩ := h
  refine ⟨⟨a, b, by rw [gput_ne hn.symm]; exact e, r⟩, fun x c n e2 => ?_⟩
  rw [gput_ne fun z => by rw [z, hp] at e2; cases e2]
  exact k x c n e2
theorem ExtU.dels {u p : Addr} {G G' : GH} (h : ExtU u G G') (hp : G p = none) (hn : p ≠ u) : ExtU u G (gdel G' p) := by
  obtain ⟨⟨a, b, e, r⟩, k⟩ := h
  refine ⟨⟨a, b, by rw [gdel_ne hn.symm]; exact e, r⟩, fun x c n e2 => ?_⟩
  rw [gdel_ne fun z => by rw [z, hp] at e2; cases e2]
  exact k x c n e2
/-- a comprehension that draws -/
theorem lcU {u : Addr} {g : DTG} {te : DTE} {ρ : Dt} {p : Addr} {Q : DE} {G : GH} {xs : List D} (P : D → Prop) (hl : xs.length ≤ sizeLine) (hp : G p = none) (hu : UrnOk G u)
    (h : ∀ x ∈ xs, ∀ (G' : GH) (C : DE), ExtU u G G' → (∀ y G2, P y → ExtU u G' G2 → C y G2) → g x ρ G' fun ρ2 G2 => te ρ2 G2 C)
    (hq : ∀ (ys : List D) G', ys.length = xs.length → (∀ y ∈ ys, P y) → ExtU u G G' → Q (.lst ys) G') : lcIn g dYes te ρ p (lcEnd true Q p) xs [] (gput G p (.lst [])) := by
  have hn := urn_ne hu hp
  refine lcIn_run (fun acc r G' => (∃ d, d ++ r = xs ∧ acc.length = d.length) ∧ (∀ y ∈ acc, P y) ∧ G' p = some (.lst acc) ∧ ExtU u G G') ?_ ?_ xs [] _ ⟨⟨[], rfl, rfl⟩, (fun y hy => nomatch hy), gput_same, (ExtU.refl hu).puts hp hn⟩
  · rintro acc G' ⟨⟨d, e1, e2⟩, hP, hG, hE⟩
    rw [List.append_nil] at e1
    exact ⟨hG, hq acc _ (by rw [e2, e1]) hP (hE.dels hp hn)⟩
  · rintro acc x r G' K1 K0 ⟨⟨d, e1, e2⟩, hP, hG, hE⟩ h1 h0
    have hx : x ∈ xs := by rw [← e1]; exact List.mem_append_right _ (List.mem_cons_self ..)
    have hd : d.length < xs.length := by rw [← e1, List.length_append, List.length_cons]; omega
    refine h x hx G' _ hE fun y G2 hy hE2 => h1 y G2 ⟨⟨hE2.2 p _ hn hG, by omega⟩, ⟨d ++ [x], by rw [List.append_assoc]; exact e1, by rw [List.length_append, List.length_append, e2]; rfl⟩, fun z hz => ?_, gput_same, (hE.trans hE2).puts hp hn⟩
    rcases List.mem_append.mp hz with hz | hz
    · exact hP z hz
    · rw [List.mem_singleton.mp hz]; exact hy
theorem lift_all {α : Type} {f : α → D} {R : α → Prop} : ∀ {ys : List D}, (∀ y ∈ ys, ∃ a, y = f a ∧ R a) → ∃ l : List α, ys = l.map f ∧ ∀ a ∈ l, R a
  | [], _ => ⟨[], rfl, fun _ h => nomatch h⟩
  | y :: ys, h => by
    obtain ⟨a, e, ha⟩ := h y (List.mem_cons_self ..)
    obtain ⟨l, e2, hl⟩ := lift_all fun z hz => h z (List.mem_cons_of_mem _ hz)
    refine ⟨a :: l, by rw [e, e2]; rfl, fun b hb => ?_⟩
    rcases List.mem_cons.mp hb with rfl | hb
    · exact ha
    · exact hl b hb
theorem rat_small {q : Rat} {M : Nat} {n : Int} (hM : 0 < M) (h : q * (M : Rat) = (n : Rat)) : q.den ∣ M ∧ q.num.natAbs * (M / q.den) = n.natAbs := by
  have h1 := den_of (q := q) (b := (M : Int)) (a := n) (by omega) (by rw [Rat.intCast_natCast]; exact h)
  rw [Int.natAbs_natCast] at h1
  refine ⟨h1.1, ?_⟩
  have h2 := line_num h1.1
  have h3 : q.num * ((M / q.den : Nat) : Int) = n := by
    have : ((q.num * ((M / q.den : Nat) : Int) : Int) : Rat) = (n : Rat) := by rw [h2, ← h]; grind
    exact_mod_cast this
  rw [← h3, Int.natAbs_mul, Int.natAbs_natCast]
theorem any_int {n : Int} (h : n.natAbs ≤ 6) : (Rat.divInt n 1).den ∣ 12 ∧ (Rat.divInt n 1).num.natAbs * (12 / (Rat.divInt n 1).den) ≤ 72 := by
  have := rat_small (q := Rat.divInt n 1) (M := 12) (n := n * 12) (by decide) (by
    rw [Rat.divInt_eq_div, Rat.intCast_mul]
    show (n : Rat) / ((1 : Int) : Rat) * ((12 : Nat) : Rat) = (n : Rat) * ((12 : Int) : Rat)
    rw [show ((1 : Int) : Rat) = 1 from rfl, show ((12 : Nat) : Rat) = ((12 : Int) : Rat) from rfl]
    grind)
  refine ⟨this.1, ?_⟩
  rw [this.2, Int.natAbs_mul]
  exact Nat.mul_le_mul h (by decide : (12 : Int).natAbs ≤ 12)
theorem any_part {a b c : Int} (ha : a.natAbs ≤ 6) (hb : b * c = 12) (hc : c.natAbs ≤ 12) : (Rat.divInt a b).den ∣ 12 ∧ (Rat.divInt a b).num.natAbs * (12 / (Rat.divInt a b).den) ≤ 72 := by
  have hb0 : b ≠ 0 := fun z => by rw [z] at hb; omega
  have hbq : (b : Rat) ≠ 0 := fun z => hb0 (by exact_mod_cast z)
  have := rat_small (q := Rat.divInt a b) (M := 12) (n := a * c) (by decide) (by
    rw [Rat.divInt_eq_div, Rat.intCast_mul]
    have e : ((12 : Nat) : Rat) = (b : Rat) * (c : Rat) := by
      rw [← Rat.intCast_mul, hb]
      rfl
    rw [e]
    grind)
  refine ⟨this.1, ?_⟩
  rw [this.2, Int.natAbs_mul]
  exact Nat.le_trans (Nat.mul_le_mul ha hc) (by decide)
theorem l_law_any_row {ds G Q} (h : S_law_any_row ds G Q) : r_law_any_row (Ends1 Q) (startD N_law_any_row ds) G := by
  obtain ⟨u, w, rfl, hu, hw0, hw, hq⟩ := h
  rw [show startD N_law_any_row [.ref u, .int w] = [some (.ref u), some (.int w), none, none] from rfl]
  simp only [r_law_any_row, dVar, dC, dOp, dB, dAnd, dOr, dNot, dAndV, dOrV, dNotV, dIf, dNil, dCons, dTup, dLst, dLstT, fAdd, fSub, fDiv, fMod, fPow, fMul, fCmp, fLt, fLe, fGt, fGe, fEq, fNe, fIs, fIsNot, isNonD, dNeg, dCB, on1, fLen, fTup, fLstF, fLstT, fAbs, fInt, onI2, fGcd, fMax2, fMin2, fIsi, frzOf, dSq, dRng1, dRng2, dEnum, dZip, dKeys, dVals, dItems, onK, onS, onD, onB, onKs, onY, onI, onN, dctOf, keyOf, gNm, DL.gNil, DL.gCons, gTp, gSubL, gSubD, dNx, dSeq, dBk, dCt, dDrop, dRet, dRetN, dIfS, dAsg, dPar, dPar3, dFor, dWhile, dLc, dLc2, dDc, dItemsT, dDGet, dDGet2, dApp, dPopAt, dPart, dNoPart, dSlc, fSlc, insOf, dFld, dFldS, dCall, dMeth, dMk, mkEnd, dRevT, dNever, dBits, dDictT, dDict1, fSortD, fListD, sl, wipeD, seqOf, IsLst, getFD, putFD, fIx, List.set, List.length_cons, List.length_nil, List.cons.injEq, and_true, true_and, Nat.reduceAdd, reduceCtorEq, if_true, if_false, Bool.false_eq_true, ne_eq, not_false_eq_true, ite_true, ite_false]
  refine ⟨u, 5, rfl, hu, by omega, by omega, fun k G1 k0 k1 hE1 => ?_⟩
  simp only [dok_int, deq_int, Bool.and_self]
  by_cases hk : k = 0
  · rw [if_pos (decide_eq_true hk)]
    refine ⟨trivial, by omega, fun p hp => ?_⟩
    refine lc_map (fun _ => dQ 0) (by rw [rngD_len, sizeLine_eq]; omega) hp (fun x hx G' C _ hc => ?_) ?_
    · simp only [dVar, dC, dOp, dB, dAnd, dOr, dNot, dAndV, dOrV, dNotV, dIf, dNil, dCons, dTup, dLst, dLstT, fAdd, fSub, fDiv, fMod, fPow, fMul, fCmp, fLt, fLe, fGt, fGe, fEq, fNe, fIs, fIsNot, isNonD, dNeg, dCB, on1, fLen, fTup, fLstF, fLstT, fAbs, fInt, onI2, fGcd, fMax2, fMin2, fIsi, frzOf, dSq, dRng1, dRng2, dEnum, dZip, dKeys, dVals, dItems, onK, onS, onD, onB, onKs, onY, onI, onN, dctOf, keyOf, gNm, DL.gNil, DL.gCons, gTp, gSubL, gSubD, dNx, dSeq, dBk, dCt, dDrop, dRet, dRetN, dIfS, dAsg, dPar, dPar3, dFor, dWhile, dLc, dLc2, dDc, dItemsT, dDGet, dDGet2, dApp, dPopAt, dPart, dNoPart, dSlc, fSlc, insOf, dFld, dFldS, dCall, dMeth, dMk, mkEnd, dRevT, dNever, dBits, dDictT, dDict1, fSortD, fListD, sl, wipeD, seqOf, IsLst, getFD, putFD, fIx, List.set, List.length_cons, List.length_nil, List.cons.injEq, and_true, true_and, Nat.reduceAdd, reduceCtorEq, if_true, if_false, Bool.false_eq_true, ne_eq, not_false_eq_true, ite_true, ite_false]
      exact ⟨two_size, hc⟩
    · have q := hq ((rngD 0 (w : Int).toNat).map fun _ => (0 : Rat)) G1 ⟨by rw [List.length_map, rngD_len]; rfl, fun q hq' => by
        obtain ⟨_, _, rfl⟩ := List.mem_map.mp hq'
        decide⟩ hE1
      unfold dRow at q
      rw [List.map_map] at q
      exact q
  · rw [if_neg (by rw [decide_eq_false hk]; decide)]
    refine ⟨trivial, by omega, fun p hp => ?_⟩
    refine lcU (u := u) (fun y => ∃ q : Rat, y = dQ q ∧ q.den ∣ 12 ∧ q.num.natAbs * (12 / q.den) ≤ 72) (by rw [rngD_len, sizeLine_eq]; omega) hp hE1.1 (fun x hx G' C hE2 hc => ?_) fun ys G' hl hP hE2 => ?_
    · simp only [dVar, dC, dOp, dB, dAnd, dOr, dNot, dAndV, dOrV, dNotV, dIf, dNil, dCons, dTup, dLst, dLstT, fAdd, fSub, fDiv, fMod, fPow, fMul, fCmp, fLt, fLe, fGt, fGe, fEq, fNe, fIs, fIsNot, isNonD, dNeg, dCB, on1, fLen, fTup, fLstF, fLstT, fAbs, fInt, onI2, fGcd, fMax2, fMin2, fIsi, frzOf, dSq, dRng1, dRng2, dEnum, dZip, dKeys, dVals, dItems, onK, onS, onD, onB, onKs, onY, onI, onN, dctOf, keyOf, gNm, DL.gNil, DL.gCons, gTp, gSubL, gSubD, dNx, dSeq, dBk, dCt, dDrop, dRet, dRetN, dIfS, dAsg, dPar, dPar3, dFor, dWhile, dLc, dLc2, dDc, dItemsT, dDGet, dDGet2, dApp, dPopAt, dPart, dNoPart, dSlc, fSlc, insOf, dFld, dFldS, dCall, dMeth, dMk, mkEnd, dRevT, dNever, dBits, dDictT, dDict1, fSortD, fListD, sl, wipeD, seqOf, IsLst, getFD, putFD, fIx, List.set, List.length_cons, List.length_nil, List.cons.injEq, and_true, true_and, Nat.reduceAdd, reduceCtorEq, if_true, if_false, Bool.false_eq_true, ne_eq, not_false_eq_true, ite_true, ite_false]
      by_cases hk4 : k < 4
      · rw [if_pos (decide_eq_true hk4)]
        refine ⟨by rw [sizeLine_eq]; decide, u, _, rfl, hE2.1, (fun z => nomatch z), by decide, fun y hy G3 hE3 => ⟨two_size, ?_⟩⟩
        have hi : ∃ n : Int, y = .int n ∧ n.natAbs ≤ 6 := by
          rcases List.mem_cons.mp hy with rfl | hy
          · exact ⟨_, rfl, by decide⟩
          rcases List.mem_cons.mp hy with rfl | hy
          · exact ⟨_, rfl, by decide⟩
          rcases List.mem_cons.mp hy with rfl | hy
          · exact ⟨_, rfl, by decide⟩
          rcases List.mem_cons.mp hy with rfl | hy
          · exact ⟨_, rfl, by decide⟩
          rcases List.mem_cons.mp hy with rfl | hy
          · exact ⟨_, rfl, by decide⟩
          cases hy
        obtain ⟨n, rfl, hn⟩ := hi
        rw [← dQ_one]
        exact hc _ _ ⟨_, rfl, any_int hn⟩ hE3
      · rw [if_neg (by rw [decide_eq_false hk4]; decide)]
        refine ⟨u, 13, rfl, hE2.1, by decide, by decide, fun a G3 a0 a1 hE3 => ⟨u, 4, rfl, hE3.1, by decide, by decide, fun b G4 b0 b1 hE4 => ?_⟩⟩
        have up : ∀ {n : Nat}, n < 100 → n < 2 ^ 9000 := fun h => Nat.lt_trans h (Nat.lt_of_lt_of_le (by decide : 100 < 2 ^ 7) (Nat.pow_le_pow_right (by decide) (by decide)))
        have up2 : ∀ {n : Nat}, n < 100 → n < 2 ^ 100000 := fun h => Nat.lt_trans h (Nat.lt_of_lt_of_le (by decide : 100 < 2 ^ 7) (Nat.pow_le_pow_right (by decide) (by decide)))
        refine ⟨a - 6, 1 + b, rfl, by omega, up2 (by omega), up2 (by omega), .inl (up (by omega)), hc _ _ ⟨_, rfl, ?_⟩ (hE3.trans hE4)⟩
        have hb4 : 1 + b = 1 ∨ 1 + b = 2 ∨ 1 + b = 3 ∨ 1 + b = 4 := by omega
        rcases hb4 with e | e | e | e <;> rw [e]
        · exact any_part (c := 12) (by omega) (by decide) (by decide)
        · exact any_part (c := 6) (by omega) (by decide) (by decide)
        · exact any_part (c := 4) (by omega) (by decide) (by decide)
        · exact any_part (c := 3) (by omega) (by decide) (by decide)
    · obtain ⟨l, rfl, hl2⟩ := lift_all hP
      exact hq l G' ⟨by rw [List.length_map, rngD_len] at hl; exact hl, hl2⟩ (hE1.trans hE2)
end K43
set_option Elab.async false
set_option linter.all false
set_option maxRecDepth 100000
set_option maxHeartbeats 4000000
namespace K43
open PySem PySem.Spec PyProof.Rows L2 DL
theorem any_ok {w : Nat} {r : List Rat} (h : RowAny w r) : RowOk w r := ⟨h.1, 12, by decide, by decide, fun q hq => ⟨(h.2 q hq).1, Nat.le_trans (h.2 q hq).2 (by decide)⟩⟩
theorem vec_map {f : Rat → Rat} (h0 : f 0 = 0) (r : List Rat) (i : Nat) : vecQ (r.map f) i = f (vecQ r i) := by
  unfold vecQ
  rw [List.getD_eq_getElem?_getD, List.getD_eq_getElem?_getD, List.getElem?_map]
  cases r[i]? with
  | none => exact h0.symm
  | some q => rfl
theorem row_scale {w : Nat} {x : List Rat} {c e : Int} (hx : RowAny w x) (hc : c.natAbs ≤ 5) (he : 0 < e) (he2 : e ≤ 7) : RowOk w (x.map fun q => q * Rat.divInt c e) := by
  refine ⟨by rw [List.length_map]; exact hx.1, 12 * e.toNat, by omega, by omega, fun y hy => ?_⟩
  obtain ⟨q, hq, rfl⟩ := List.mem_map.mp hy
  obtain ⟨h1, h2⟩ := hx.2 q hq
  have heq : (e : Rat) ≠ 0 := fun z => by
    have : e = 0 := by exact_mod_cast z
    omega
  have hee : ((e.toNat : Nat) : Rat) = (e : Rat) := by
    rw [← Rat.intCast_natCast, Int.toNat_of_nonneg (by omega)]
  have e1 := line_num h1
  have := rat_small (q := q * Rat.divInt c e) (M := 12 * e.toNat) (n := q.num * ((12 / q.den : Nat) : Int) * c) (by omega) (by
    rw [Rat.intCast_mul _ c, e1, Rat.divInt_eq_div, Rat.natCast_mul, hee]
    grind)
  refine ⟨this.1, ?_⟩
  rw [this.2, Int.natAbs_mul, Int.natAbs_mul, Int.natAbs_natCast]
  exact Nat.le_trans (Nat.mul_le_mul h2 hc) (by decide)
theorem row_plus {w : Nat} {x y : List Rat} {k : Int} (hx : RowAny w x) (hy : RowAny w y) (hk : k.natAbs ≤ 2) : RowOk w ((x.zip y).map fun p => p.1 + Rat.divInt k 1 * p.2) := by
  refine ⟨by rw [List.length_map, List.length_zip, hx.1, hy.1, Nat.min_self], 12, by decide, by decide, fun z hz => ?_⟩
  obtain ⟨p, hp, rfl⟩ := List.mem_map.mp hz
  obtain ⟨m1, m2⟩ := List.of_mem_zip hp
  obtain ⟨h1, h2⟩ := hx.2 _ m1
  obtain ⟨h3, h4⟩ := hy.2 _ m2
  have e1 := line_num h1
  have e2 := line_num h3
  have := rat_small (q := p.1 + Rat.divInt k 1 * p.2) (M := 12) (n := p.1.num * ((12 / p.1.den : Nat) : Int) + k * (p.2.num * ((12 / p.2.den : Nat) : Int))) (by decide) (by
    rw [Rat.intCast_add, Rat.intCast_mul k, e1, e2, Rat.divInt_eq_div, show ((1 : Int) : Rat) = 1 from rfl]
    grind)
  refine ⟨this.1, ?_⟩
  rw [this.2]
  have h5 : (k * (p.2.num * ((12 / p.2.den : Nat) : Int))).natAbs ≤ 2 * 72 := by
    rw [Int.natAbs_mul, Int.natAbs_mul, Int.natAbs_natCast]
    exact Nat.mul_le_mul hk h4
  have h6 : (p.1.num * ((12 / p.1.den : Nat) : Int)).natAbs ≤ 72 := by
    rw [Int.natAbs_mul, Int.natAbs_natCast]
    exact h2
  generalize k * (p.2.num * ((12 / p.2.den : Nat) : Int)) = A at *
  generalize p.1.num * ((12 / p.1.den : Nat) : Int) = B at *
  omega
theorem zip_vec {x y : List Rat} (h : x.length = y.length) (c : Rat) (i : Nat) : vecQ ((x.zip y).map fun p => p.1 + c * p.2) i = vecQ x i + c * vecQ y i := by
  unfold vecQ
  rw [List.getD_eq_getElem?_getD, List.getD_eq_getElem?_getD, List.getD_eq_getElem?_getD, List.getElem?_map]
  by_cases hi : i < x.length
  · have hi2 : i < y.length := by omega
    rw [List.getElem?_eq_getElem hi, List.getElem?_eq_getElem hi2, List.getElem?_eq_getElem (by rw [List.length_zip]; omega), List.getElem_zip]
    rfl
  · rw [List.getElem?_eq_none (by omega : x.length ≤ i), List.getElem?_eq_none (by omega : y.length ≤ i), List.getElem?_eq_none (by rw [List.length_zip]; omega)]
    show (0 : Rat) = 0 + c * 0
    grind
theorem mem_erase {α : Type} (r : α) : ∀ {l : List α} {k : Nat} (hk : k < l.length), r ∈ l ↔ r = l[k] ∨ r ∈ l.eraseIdx k
  | x :: l, 0, hk => List.mem_cons
  | x :: l, k + 1, hk => by
    have := mem_erase r (l := l) (k := k) (by rw [List.length_cons] at hk; omega)
    rw [List.mem_cons, List.eraseIdx_cons_succ, List.mem_cons, this, List.getElem_cons_succ]
    constructor
    · rintro (h | h | h)
      · exact .inr (.inl h)
      · exact .inl h
      · exact .inr (.inr h)
    · rintro (h | h | h)
      · exact .inr (.inl h)
      · exact .inl h
      · exact .inr (.inr h)
theorem lt_pow {n e : Nat} (h : n < 128) (he : 7 ≤ e) : n < 2 ^ e := Nat.lt_of_lt_of_le h (Nat.le_trans (by decide : 128 ≤ 2 ^ 7) (Nat.pow_le_pow_right (by decide) he))
theorem same_move {f l rows : List (List Rat)} {k : Nat} {b : Rat} (hk : k < l.length) (hb : b ≠ 0) (h : Same (inRows (f ++ l)) (inRows rows)) : Same (inRows ((f ++ [l[k].map fun q => q * b]) ++ l.eraseIdx k)) (inRows rows) := by
  have hv : ∀ i, vecQ (l[k].map fun q => q * b) i = b * vecQ l[k] i := fun i => by
    rw [vec_map (by grind)]
    grind
  have hpm : ∀ r, r ∈ l ↔ r = l[k] ∨ r ∈ l.eraseIdx k := fun r => mem_erase r hk
  refine Same.trans (Same.of (fun v hv' => ?_) fun v hv' => ?_) h
  · obtain ⟨r, hr, rfl⟩ := hv'
    rcases List.mem_append.mp hr with hr | hr
    · rcases List.mem_append.mp hr with hr | hr
      · exact Sp.one ⟨r, List.mem_append_left _ hr, rfl⟩
      · rw [List.mem_singleton.mp hr]
        have h1 : Sp (inRows (f ++ l)) (vecQ l[k]) := Sp.one ⟨_, List.mem_append_right _ (List.getElem_mem hk), rfl⟩
        exact Sp.two b 0 h1 h1 fun i => by rw [hv]; grind
    · exact Sp.one ⟨r, List.mem_append_right _ ((hpm r).mpr (.inr hr)), rfl⟩
  · obtain ⟨r, hr, rfl⟩ := hv'
    rcases List.mem_append.mp hr with hr | hr
    · exact Sp.one ⟨r, List.mem_append_left _ (List.mem_append_left _ hr), rfl⟩
    · rcases (hpm r).mp hr with rfl | hr
      · have h1 : Sp (inRows ((f ++ [l[k].map fun q => q * b]) ++ l.eraseIdx k)) (vecQ (l[k].map fun q => q * b)) := Sp.one ⟨_, List.mem_append_left _ (List.mem_append_right _ (List.mem_cons_self ..)), rfl⟩
        exact Sp.two (1 / b) 0 h1 h1 fun i => by rw [hv]; grind
      · exact Sp.one ⟨r, List.mem_append_right _ hr, rfl⟩
theorem same_more {f rows : List (List Rat)} {x : List Rat} (h : Same (inRows f) (inRows rows)) (hx : Sp (inRows rows) (vecQ x)) : Same (inRows (f ++ [x])) (inRows rows) := by
  refine Same.of (fun v hv => ?_) fun v hv => Sp.mono (fun v hv => inRows_left hv) ((h v).mpr (Sp.one hv))
  obtain ⟨r, hr, rfl⟩ := hv
  rcases List.mem_append.mp hr with hr | hr
  · exact (h _).mp (Sp.one ⟨r, hr, rfl⟩)
  · rw [List.mem_singleton.mp hr]
    exact hx
theorem zip_q : ∀ r s : List Rat, zipD (r.map dQ) (s.map dQ) = (r.zip s).map fun p => .tup [dQ p.1, dQ p.2]
  | [], _ => rfl
  | _ :: _, [] => rfl
  | _ :: r, _ :: s => congrArg _ (zip_q r s)
theorem one_ints {y : D} : ∀ {l : List Int}, y ∈ l.map D.int → ∃ n ∈ l, y = .int n := fun h => by
  obtain ⟨n, hn, e⟩ := List.mem_map.mp h
  exact ⟨n, hn, e.symm⟩
theorem dz_row (w : Nat) : (D.tup (List.replicate w [dQ 0]).flatten) = dRow (List.replicate w 0) := by
  unfold dRow
  rw [List.map_replicate, List.flatten_replicate_singleton]
theorem any_wd {w : Nat} {r : List Rat} (h : RowAny w r) : ∀ q ∈ r, WdQ q ∧ q.den ≤ 12 := fun q hq => by
  obtain ⟨h1, h2⟩ := h.2 q hq
  have hd : q.den ≤ 12 := Nat.le_of_dvd (by decide) h1
  have hn : q.num.natAbs ≤ 72 := Nat.le_trans (Nat.le_mul_of_pos_right _ (Nat.div_pos hd q.den_pos)) h2
  have up : ∀ {n : Nat}, n < 128 → n < 2 ^ 20000 := fun h => lt_pow h (by decide)
  exact ⟨⟨up (by omega), up (by omega)⟩, hd⟩
theorem part_small {c e : Int} (hc : c.natAbs ≤ 5) (he : 0 < e) (he2 : e ≤ 7) : WdQ (Rat.divInt c e) ∧ (Rat.divInt c e).den ≤ 7 := by
  have h := num_le c e (by omega)
  have up : ∀ {n : Nat}, n < 128 → n < 2 ^ 20000 := fun h => lt_pow h (by decide)
  exact ⟨⟨up (by omega), up (by omega)⟩, by omega⟩
end K43
set_option Elab.async false
set_option linter.all false
set_option maxRecDepth 100000
set_option maxHeartbeats 4000000
namespace K43
open PySem PySem.Spec PyProof.Rows L2 DL
theorem lt_pow8 {n e : Nat} (h : n < 256) (he : 8 ≤ e) : n < 2 ^ e := Nat.lt_of_lt_of_le h (Nat.le_trans (by decide : 256 ≤ 2 ^ 8) (Nat.pow_le_pow_right (by decide) he))
theorem times_small {k : Int} {q : Rat} (hk : k.natAbs ≤ 2) (h1 : q.den ∣ 12) (h2 : q.num.natAbs * (12 / q.den) ≤ 72) : (Rat.divInt k 1 * q).den ≤ 12 ∧ WdQ (Rat.divInt k 1 * q) := by
  have e2 := line_num h1
  have := rat_small (q := Rat.divInt k 1 * q) (M := 12) (n := k * (q.num * ((12 / q.den : Nat) : Int))) (by decide) (by
    rw [Rat.intCast_mul k, e2, Rat.divInt_eq_div, show ((1 : Int) : Rat) = 1 from rfl]
    grind)
  have hd : (Rat.divInt k 1 * q).den ≤ 12 := Nat.le_of_dvd (by decide) this.1
  have h5 : (k * (q.num * ((12 / q.den : Nat) : Int))).natAbs ≤ 2 * 72 := by
    rw [Int.natAbs_mul, Int.natAbs_mul, Int.natAbs_natCast]
    exact Nat.mul_le_mul hk h2
  have hn : (Rat.divInt k 1 * q).num.natAbs ≤ 144 := by
    refine Nat.le_trans (Nat.le_mul_of_pos_right _ (Nat.div_pos hd (Rat.den_pos _))) ?_
    rw [this.2]
    exact h5
  exact ⟨hd, lt_pow8 (by omega) (by decide), lt_pow8 (by omega) (by decide)⟩
theorem mixed_tail {u pf : Addr} {rows f : List (List Rat)} {w n : Nat} {G G1 : GH} {Q : DE} {o3 o5 o6 o7 : Option D} (hw0 : 0 < w) (hw : w ≤ 8) (hrl : rows.length ≤ 8) (hrows : ∀ r ∈ rows, RowAny w r) (hpf : G pf = none) (hfu : pf ≠ u) (hn : n ≤ 2) (hnz : n = 0 ∨ rows ≠ [])
    (hf : ∀ r ∈ f, RowOk w r) (hfl : f.length = rows.length) (hsame : Same (inRows f) (inRows rows)) (hGf : G1 pf = some (.lst (f.map dRow))) (hE : ExtU u G G1)
    (hq : ∀ rows' G', ExtU u G G' → (∀ r ∈ rows', RowOk w r) → rows'.length ≤ 12 → Same (inRows rows') (inRows rows) → Q (dTab rows') G') :
    forGo (gNm 5) (dSeq (dAsg (dTup (dCons (dCall 2 (S_law_one_of) (dCons (dVar 0) (dCons (dVar 1) dNil))) (dCons (dCall 2 (S_law_one_of) (dCons (dVar 0) (dCons (dVar 1) dNil))) (dCons (dTup (dCons (dOp fSub (dCall 2 (S_law_ball) (dCons (dVar 0) (dCons (dC (.int 5)) dNil))) (dC (.int 2))) (dCons (dC (.int 1)) dNil))) dNil)))) (gTp 3 (DL.gCons (gNm 8) (DL.gCons (gNm 9) (DL.gCons (gNm 7) DL.gNil))))) (dDrop (dApp (dVar 4) (dCons (dCB (on1 fTup) (dCons (dLc true (dZip (dVar 8) (dVar 9)) (gTp 2 (DL.gCons (gNm 11) (DL.gCons (gNm 12) DL.gNil))) dYes (dCall 2 (S_law_plus) (dCons (dVar 11) (dCons (dCall 2 (S_law_by) (dCons (dVar 7) (dCons (dVar 12) dNil))) dNil))) [11, 12]) dNil)) dNil))))
      { nx := dRet (dOp fAdd (dCB (on1 fTup) (dCons (dVar 4) dNil)) (dIf (dB (dOp fEq (dCall 2 (S_law_ball) (dCons (dVar 0) (dCons (dC (.int 3)) dNil))) (dC (.int 0)))) (dTup (dCons (dOp fMul (dTup (dCons (dTup (dCons (dC (.int 0)) (dCons (dC (.int 1)) dNil))) dNil)) (dVar 2)) dNil)) (dTup dNil))) (Ends1 Q), rt := Q }
      (rngD 0 n) [some (.ref u), some (.tup (rows.map dRow)), some (.int (w : Int)), o3, some (.ref pf), o5, o6, o7, none, none, none, none, none] G1 := by
  refine for_run (fun rest ρ G' => ∃ (f : List (List Rat)) (o5 o6 o7 o8 o9 : Option D), f.length + rest.length ≤ rows.length + 2 ∧ (rest = [] ∨ rows ≠ []) ∧ (∀ r ∈ f, RowOk w r) ∧ Same (inRows f) (inRows rows) ∧
    ρ = [some (.ref u), some (.tup (rows.map dRow)), some (.int (w : Int)), o3, some (.ref pf), o5, o6, o7, o8, o9, none, none, none] ∧ G' pf = some (.lst (f.map dRow)) ∧ ExtU u G G') ?_ ?_ _ _ _ ⟨f, o5, o6, o7, none, none, by rw [rngD_len]; omega, ?_, hf, hsame, rfl, hGf, hE⟩
  · rintro ρ G2 ⟨f, o5, o6, o7, o8, o9, e1, _, hf, hsame, rfl, hGf, hE⟩
    have e1 : f.length ≤ rows.length + 2 := e1
    simp only [dVar, dC, dOp, dB, dAnd, dOr, dNot, dAndV, dOrV, dNotV, dIf, dNil, dCons, dTup, dLst, dLstT, fAdd, fSub, fDiv, fMod, fPow, fMul, fCmp, fLt, fLe, fGt, fGe, fEq, fNe, fIs, fIsNot, isNonD, dNeg, dCB, on1, fLen, fTup, fLstF, fLstT, fAbs, fInt, onI2, fGcd, fMax2, fMin2, fIsi, frzOf, dSq, dRng1, dRng2, dEnum, dZip, dKeys, dVals, dItems, onK, onS, onD, onB, onKs, onY, onI, onN, dctOf, keyOf, gNm, DL.gNil, DL.gCons, gTp, gSubL, gSubD, dNx, dSeq, dBk, dCt, dDrop, dRet, dRetN, dIfS, dAsg, dPar, dPar3, dFor, dWhile, dLc, dLc2, dDc, dItemsT, dDGet, dDGet2, dApp, dPopAt, dPart, dNoPart, dSlc, fSlc, insOf, dFld, dFldS, dCall, dMeth, dMk, mkEnd, dRevT, dNever, dBits, dDictT, dDict1, fSortD, fListD, sl, wipeD, seqOf, IsLst, getFD, putFD, fIx, List.set, List.length_cons, List.length_nil, List.cons.injEq, and_true, true_and, Nat.reduceAdd, reduceCtorEq, if_true, if_false, Bool.false_eq_true, ne_eq, not_false_eq_true, ite_true, ite_false, hGf]
    refine ⟨u, 3, rfl, hE.1, by decide, by decide, fun k G3 k0 k1 hE3 => ⟨rfl, ?_⟩⟩
    rw [deq_int]
    by_cases hk : k = 0
    · rw [if_pos (decide_eq_true hk)]
      refine ⟨two_size, Nat.le_trans (by decide) two_size, ⟨by omega, by omega, by decide⟩, Nat.le_trans (by decide) two_size, ?_, ?_⟩
      · rw [List.length_map, sizeLine_eq]
        omega
      · have q := hq (f ++ [List.replicate w 0]) G3 (hE.trans hE3) (fun r hr => ?_) ?_ (same_more hsame ?_)
        · unfold dTab at q
          rw [List.map_append, List.map_cons, List.map_nil] at q
          have e := dz_row w
          rw [← e] at q
          exact q
        · rcases List.mem_append.mp hr with hr | hr
          · exact hf r hr
          · rw [List.mem_singleton.mp hr]
            refine ⟨List.length_replicate, 1, by decide, by decide, fun q hq' => ?_⟩
            rw [List.eq_of_mem_replicate hq']
            decide
        · rw [List.length_append, List.length_cons, List.length_nil]
          omega
        · have e : vecQ (List.replicate w 0) = fun _ => (0 : Rat) := funext fun i => by
            unfold vecQ
            rw [List.getD_eq_getElem?_getD, List.getElem?_replicate]
            split <;> rfl
          rw [e]
          exact .zero
    · rw [if_neg (by rw [decide_eq_false hk]; decide)]
      refine ⟨Nat.zero_le _, by rw [List.length_map, sizeLine_eq]; omega, ?_⟩
      rw [List.append_nil]
      exact hq f G3 (hE.trans hE3) hf (by omega) hsame
  · rintro x rest ρ G2 C ⟨f, o5, o6, o7, o8, o9, e1, hz, hf, hsame, rfl, hGf, hE⟩ hc
    have hne : rows ≠ [] := hz.resolve_left (List.cons_ne_nil _ _)
    rw [List.length_cons] at e1
    simp only [dVar, dC, dOp, dB, dAnd, dOr, dNot, dAndV, dOrV, dNotV, dIf, dNil, dCons, dTup, dLst, dLstT, fAdd, fSub, fDiv, fMod, fPow, fMul, fCmp, fLt, fLe, fGt, fGe, fEq, fNe, fIs, fIsNot, isNonD, dNeg, dCB, on1, fLen, fTup, fLstF, fLstT, fAbs, fInt, onI2, fGcd, fMax2, fMin2, fIsi, frzOf, dSq, dRng1, dRng2, dEnum, dZip, dKeys, dVals, dItems, onK, onS, onD, onB, onKs, onY, onI, onN, dctOf, keyOf, gNm, DL.gNil, DL.gCons, gTp, gSubL, gSubD, dNx, dSeq, dBk, dCt, dDrop, dRet, dRetN, dIfS, dAsg, dPar, dPar3, dFor, dWhile, dLc, dLc2, dDc, dItemsT, dDGet, dDGet2, dApp, dPopAt, dPart, dNoPart, dSlc, fSlc, insOf, dFld, dFldS, dCall, dMeth, dMk, mkEnd, dRevT, dNever, dBits, dDictT, dDict1, fSortD, fListD, sl, wipeD, seqOf, IsLst, getFD, putFD, fIx, List.set, List.length_cons, List.length_nil, List.cons.injEq, and_true, true_and, Nat.reduceAdd, reduceCtorEq, if_true, if_false, Bool.false_eq_true, ne_eq, not_false_eq_true, ite_true, ite_false]
    have hxs : rows.map dRow ≠ [] := fun z => hne (List.map_eq_nil_iff.mp z)
    refine ⟨u, _, rfl, hE.1, hxs, by rw [List.length_map]; omega, fun y hy G3 hE3 => ⟨u, _, rfl, hE3.1, hxs, by rw [List.length_map]; omega, fun z hz2 G4 hE4 => ⟨u, 5, rfl, hE4.1, by decide, by decide, fun k G5 k0 k1 hE5 => ?_⟩⟩⟩
    obtain ⟨ry, hry, rfl⟩ := List.mem_map.mp hy
    obtain ⟨rz, hrz, rfl⟩ := List.mem_map.mp hz2
    have hey := hrows ry hry
    have hez := hrows rz hrz
    have hE6 := (hE3.trans hE4).trans hE5
    refine ⟨by rw [sizeLine_eq]; decide, by rw [sizeLine_eq]; decide, ?_⟩
    simp only [dRow, dVar, dC, dOp, dB, dAnd, dOr, dNot, dAndV, dOrV, dNotV, dIf, dNil, dCons, dTup, dLst, dLstT, fAdd, fSub, fDiv, fMod, fPow, fMul, fCmp, fLt, fLe, fGt, fGe, fEq, fNe, fIs, fIsNot, isNonD, dNeg, dCB, on1, fLen, fTup, fLstF, fLstT, fAbs, fInt, onI2, fGcd, fMax2, fMin2, fIsi, frzOf, dSq, dRng1, dRng2, dEnum, dZip, dKeys, dVals, dItems, onK, onS, onD, onB, onKs, onY, onI, onN, dctOf, keyOf, gNm, DL.gNil, DL.gCons, gTp, gSubL, gSubD, dNx, dSeq, dBk, dCt, dDrop, dRet, dRetN, dIfS, dAsg, dPar, dPar3, dFor, dWhile, dLc, dLc2, dDc, dItemsT, dDGet, dDGet2, dApp, dPopAt, dPart, dNoPart, dSlc, fSlc, insOf, dFld, dFldS, dCall, dMeth, dMk, mkEnd, dRevT, dNever, dBits, dDictT, dDict1, fSortD, fListD, sl, wipeD, seqOf, IsLst, getFD, putFD, fIx, List.set, List.length_cons, List.length_nil, List.cons.injEq, and_true, true_and, Nat.reduceAdd, reduceCtorEq, if_true, if_false, Bool.false_eq_true, ne_eq, not_false_eq_true, ite_true, ite_false, hE6.2 pf _ hfu hGf, zip_q]
    intro p hp
    refine lc_mapA (fun p : Rat × Rat => dQ (p.1 + Rat.divInt (k - 2) 1 * p.2)) (lt_size (by rw [List.length_zip, hey.1, hez.1]; omega)) hp (fun x hx G' C' _ hc' => ?_) ?_
    · obtain ⟨m1, m2⟩ := List.of_mem_zip hx
      obtain ⟨w1, d1⟩ := any_wd hey _ m1
      obtain ⟨w2, d2⟩ := any_wd hez _ m2
      obtain ⟨w3, d3⟩ := part_small (c := k - 2) (e := 1) (by omega) (by decide) (by decide)
      obtain ⟨d4, w4⟩ := times_small (k := k - 2) (by omega) (hez.2 _ m2).1 (hez.2 _ m2).2
      simp only [dVar, dC, dOp, dB, dAnd, dOr, dNot, dAndV, dOrV, dNotV, dIf, dNil, dCons, dTup, dLst, dLstT, fAdd, fSub, fDiv, fMod, fPow, fMul, fCmp, fLt, fLe, fGt, fGe, fEq, fNe, fIs, fIsNot, isNonD, dNeg, dCB, on1, fLen, fTup, fLstF, fLstT, fAbs, fInt, onI2, fGcd, fMax2, fMin2, fIsi, frzOf, dSq, dRng1, dRng2, dEnum, dZip, dKeys, dVals, dItems, onK, onS, onD, onB, onKs, onY, onI, onN, dctOf, keyOf, gNm, DL.gNil, DL.gCons, gTp, gSubL, gSubD, dNx, dSeq, dBk, dCt, dDrop, dRet, dRetN, dIfS, dAsg, dPar, dPar3, dFor, dWhile, dLc, dLc2, dDc, dItemsT, dDGet, dDGet2, dApp, dPopAt, dPart, dNoPart, dSlc, fSlc, insOf, dFld, dFldS, dCall, dMeth, dMk, mkEnd, dRevT, dNever, dBits, dDictT, dDict1, fSortD, fListD, sl, wipeD, seqOf, IsLst, getFD, putFD, fIx, List.set, List.length_cons, List.length_nil, List.cons.injEq, and_true, true_and, Nat.reduceAdd, reduceCtorEq, if_true, if_false, Bool.false_eq_true, ne_eq, not_false_eq_true, ite_true, ite_false]
      rw [← dQ_one]
      refine ⟨_, _, rfl, w3, w2, .inl (lt_pow (Nat.lt_of_le_of_lt (Nat.mul_le_mul d3 d2) (by decide)) (by decide)), ?_⟩
      exact ⟨_, _, rfl, w1, w4, .inl (lt_pow8 (Nat.lt_of_le_of_lt (Nat.mul_le_mul d1 d4) (by decide)) (by decide)), hc'⟩
    · have hE7 := hE.trans hE6
      have hGf5 := hE6.2 pf _ hfu hGf
      show (match G5 pf with
        | some (.lst ds_1) => _
        | _ => False)
      rw [hGf5]
      refine ⟨by rw [List.length_map, sizeLine_eq]; omega, ?_⟩
      refine hc _ _ ⟨f ++ [(ry.zip rz).map fun p => p.1 + Rat.divInt (k - 2) 1 * p.2], _, _, _, _, _, by rw [List.length_append, List.length_cons, List.length_nil]; omega, .inr hne, fun r hr => ?_, same_more hsame ?_, rfl, ?_, hE7.puts hpf hfu⟩
      · rcases List.mem_append.mp hr with hr | hr
        · exact hf r hr
        · rw [List.mem_singleton.mp hr]
          exact row_plus hey hez (by omega)
      · have s1 : Sp (inRows rows) (vecQ ry) := Sp.one ⟨_, hry, rfl⟩
        have s2 : Sp (inRows rows) (vecQ rz) := Sp.one ⟨_, hrz, rfl⟩
        exact Sp.two 1 (Rat.divInt (k - 2) 1) s1 s2 fun i => by
          rw [zip_vec (by rw [hey.1, hez.1])]
          grind
      · rw [gput_same, List.map_append, List.map_cons, List.map_nil]
        unfold dRow
        rw [List.map_map]
        rfl
  · rcases hnz with h | h
    · rw [h]
      exact .inl rfl
    · exact .inr h
end K43
set_option Elab.async false
set_option linter.all false
set_option maxRecDepth 100000
set_option maxHeartbeats 4000000
namespace K43
open PySem PySem.Spec PyProof.Rows L2 DL
theorem erase_map {α β : Type} (f : α → β) : ∀ (l : List α) (k : Nat), (l.map f).eraseIdx k = (l.eraseIdx k).map f
  | [], _ => rfl
  | _ :: _, 0 => rfl
  | x :: l, k + 1 => congrArg (f x :: ·) (erase_map f l k)
theorem l_law_mixed_rows {ds G Q} (h : S_law_mixed_rows ds G Q) : r_law_mixed_rows (Ends1 Q) (startD N_law_mixed_rows ds) G := by
  obtain ⟨u, rows, w, rfl, hu, hw0, hw, hrl, hrows, hq⟩ := h
  rw [show startD N_law_mixed_rows [.ref u, dTab rows, .int w] = [some (.ref u), some (dTab rows), some (.int w), none, none, none, none, none, none, none, none, none, none] from rfl]
  simp only [r_law_mixed_rows, dTab, dVar, dC, dOp, dB, dAnd, dOr, dNot, dAndV, dOrV, dNotV, dIf, dNil, dCons, dTup, dLst, dLstT, fAdd, fSub, fDiv, fMod, fPow, fMul, fCmp, fLt, fLe, fGt, fGe, fEq, fNe, fIs, fIsNot, isNonD, dNeg, dCB, on1, fLen, fTup, fLstF, fLstT, fAbs, fInt, onI2, fGcd, fMax2, fMin2, fIsi, frzOf, dSq, dRng1, dRng2, dEnum, dZip, dKeys, dVals, dItems, onK, onS, onD, onB, onKs, onY, onI, onN, dctOf, keyOf, gNm, DL.gNil, DL.gCons, gTp, gSubL, gSubD, dNx, dSeq, dBk, dCt, dDrop, dRet, dRetN, dIfS, dAsg, dPar, dPar3, dFor, dWhile, dLc, dLc2, dDc, dItemsT, dDGet, dDGet2, dApp, dPopAt, dPart, dNoPart, dSlc, fSlc, insOf, dFld, dFldS, dCall, dMeth, dMk, mkEnd, dRevT, dNever, dBits, dDictT, dDict1, fSortD, fListD, sl, wipeD, seqOf, IsLst, getFD, putFD, fIx, List.set, List.length_cons, List.length_nil, List.cons.injEq, and_true, true_and, Nat.reduceAdd, reduceCtorEq, if_true, if_false, Bool.false_eq_true, ne_eq, not_false_eq_true, ite_true, ite_false]
  intro pl hpl
  refine ⟨Nat.zero_le _, fun pf hpf => ⟨by rw [List.length_map]; omega, ?_⟩⟩
  have hlu : pl ≠ u := urn_ne hu hpl
  have hfl : pf ≠ pl := fun e => by rw [e, gput_same] at hpf; cases hpf
  have hpf2 : G pf = none := by rw [gput_ne hfl] at hpf; exact hpf
  have hfu : pf ≠ u := urn_ne hu hpf2
  refine for_run (fun rest ρ G' => ∃ (l f : List (List Rat)) (o5 o6 o7 : Option D), l.length = rest.length ∧ f.length + rest.length = rows.length ∧ (∀ r ∈ l, RowAny w r) ∧ (∀ r ∈ f, RowOk w r) ∧ Same (inRows (f ++ l)) (inRows rows) ∧
    ρ = [some (.ref u), some (dTab rows), some (.int w), some (.ref pl), some (.ref pf), o5, o6, o7, none, none, none, none, none] ∧ G' pl = some (.lst (l.map dRow)) ∧ G' pf = some (.lst (f.map dRow)) ∧ ExtU u G G') ?_ ?_ _ _ _ ⟨rows, [], none, none, none, ?_, ?_, hrows, (fun r hr => nomatch hr), fun v => Iff.rfl, rfl, ?_, gput_same, ?_⟩
  · rintro ρ G1 ⟨l, f, o5, o6, o7, e1, e2, hl, hf, hsame, rfl, hGl, hGf, hE⟩
    have el : l = [] := List.length_eq_zero_iff.mp e1
    subst el
    rw [List.append_nil] at hsame
    have hfl2 : f.length = rows.length := e2
    simp only [dTab, dVar, dC, dOp, dB, dAnd, dOr, dNot, dAndV, dOrV, dNotV, dIf, dNil, dCons, dTup, dLst, dLstT, fAdd, fSub, fDiv, fMod, fPow, fMul, fCmp, fLt, fLe, fGt, fGe, fEq, fNe, fIs, fIsNot, isNonD, dNeg, dCB, on1, fLen, fTup, fLstF, fLstT, fAbs, fInt, onI2, fGcd, fMax2, fMin2, fIsi, frzOf, dSq, dRng1, dRng2, dEnum, dZip, dKeys, dVals, dItems, onK, onS, onD, onB, onKs, onY, onI, onN, dctOf, keyOf, gNm, DL.gNil, DL.gCons, gTp, gSubL, gSubD, dNx, dSeq, dBk, dCt, dDrop, dRet, dRetN, dIfS, dAsg, dPar, dPar3, dFor, dWhile, dLc, dLc2, dDc, dItemsT, dDGet, dDGet2, dApp, dPopAt, dPart, dNoPart, dSlc, fSlc, insOf, dFld, dFldS, dCall, dMeth, dMk, mkEnd, dRevT, dNever, dBits, dDictT, dDict1, fSortD, fListD, sl, wipeD, seqOf, IsLst, getFD, putFD, fIx, List.set, List.length_cons, List.length_nil, List.cons.injEq, and_true, true_and, Nat.reduceAdd, reduceCtorEq, if_true, if_false, Bool.false_eq_true, ne_eq, not_false_eq_true, ite_true, ite_false]
    refine ⟨Nat.zero_le _, by rw [okn_dok (show okn 60 (.tup (rows.map dRow)) = true from okn_table (by omega) (fun r hr => by rw [(hrows r hr).1]; omega) 57)]; rfl, ?_⟩
    rw [deq_self_nil]
    by_cases hz : rows = []
    · rw [hz, if_neg (by decide)]
      rw [hz] at hfl2 hsame
      exact ⟨by decide, mixed_tail (n := 0) hw0 hw (Nat.zero_le _) (fun r hr => nomatch hr) hpf2 hfu (by decide) (.inl rfl) hf hfl2 hsame hGf hE (by rw [hz] at hq; exact hq)⟩
    · have hie : (rows.map dRow).isEmpty = false := by
        cases rows with
        | nil => exact absurd rfl hz
        | cons _ _ => rfl
      rw [hie, if_pos (by decide)]
      refine ⟨u, 3, rfl, hE.1, by decide, by decide, fun k G2 k0 k1 hE2 => ⟨by omega, ?_⟩⟩
      exact mixed_tail (n := k.toNat) hw0 hw hrl hrows hpf2 hfu (by omega) (.inr hz) hf hfl2 hsame (hE2.2 pf _ hfu hGf) (hE.trans hE2) hq
  · rintro x rest ρ G1 C ⟨l, f, o5, o6, o7, e1, e2, hl, hf, hsame, rfl, hGl, hGf, hE⟩ hc
    simp only [dTab, dVar, dC, dOp, dB, dAnd, dOr, dNot, dAndV, dOrV, dNotV, dIf, dNil, dCons, dTup, dLst, dLstT, fAdd, fSub, fDiv, fMod, fPow, fMul, fCmp, fLt, fLe, fGt, fGe, fEq, fNe, fIs, fIsNot, isNonD, dNeg, dCB, on1, fLen, fTup, fLstF, fLstT, fAbs, fInt, onI2, fGcd, fMax2, fMin2, fIsi, frzOf, dSq, dRng1, dRng2, dEnum, dZip, dKeys, dVals, dItems, onK, onS, onD, onB, onKs, onY, onI, onN, dctOf, keyOf, gNm, DL.gNil, DL.gCons, gTp, gSubL, gSubD, dNx, dSeq, dBk, dCt, dDrop, dRet, dRetN, dIfS, dAsg, dPar, dPar3, dFor, dWhile, dLc, dLc2, dDc, dItemsT, dDGet, dDGet2, dApp, dPopAt, dPart, dNoPart, dSlc, fSlc, insOf, dFld, dFldS, dCall, dMeth, dMk, mkEnd, dRevT, dNever, dBits, dDictT, dDict1, fSortD, fListD, sl, wipeD, seqOf, IsLst, getFD, putFD, fIx, List.set, List.length_cons, List.length_nil, List.cons.injEq, and_true, true_and, Nat.reduceAdd, reduceCtorEq, if_true, if_false, Bool.false_eq_true, ne_eq, not_false_eq_true, ite_true, ite_false, hGl]
    rw [List.length_cons] at e1 e2
    refine ⟨u, _, rfl, hE.1, by rw [List.length_map]; omega, by rw [List.length_map]; omega, fun k G2 k0 k1 hE2 => ?_⟩
    rw [List.length_map] at k1
    have hk : k.toNat < l.length := by omega
    simp only [hE2.2 pl _ hlu hGl, nthL_eq, List.getElem?_map, List.getElem?_eq_getElem hk, Option.map_some]
    have hE3 : ExtU u G (gput G2 pl (.lst ((l.map dRow).eraseIdx k.toNat))) := (hE.trans hE2).puts hpl hlu
    have hGf3 : gput G2 pl (.lst ((l.map dRow).eraseIdx k.toNat)) pf = some (.lst (f.map dRow)) := by
      rw [gput_ne hfl]
      exact hE2.2 pf _ hfu hGf
    have hGl3 : gput G2 pl (.lst ((l.map dRow).eraseIdx k.toNat)) pl = some (.lst ((l.eraseIdx k.toNat).map dRow)) := by
      rw [gput_same, erase_map]
    generalize gput G2 pl (.lst ((l.map dRow).eraseIdx k.toNat)) = G3 at hE3 hGf3 hGl3
    have hx := hl _ (List.getElem_mem hk)
    refine ⟨by rw [List.length_map]; omega, Nat.le_trans (by decide : 5 ≤ 1000) (lt_size (Nat.le_refl _)), ?_⟩
    refine ⟨u, _, rfl, hE3.1, (fun z => nomatch z), by decide, fun y hy G4 hE4 => ⟨Nat.le_trans (by decide : 4 ≤ 1000) (lt_size (Nat.le_refl _)), u, _, rfl, hE4.1, (fun z => nomatch z), by decide, fun z hz G5 hE5 => ?_⟩⟩
    have hy' : ∃ c : Int, y = .int c ∧ c ≠ 0 ∧ c.natAbs ≤ 5 := by
      rcases List.mem_cons.mp hy with rfl | hy
      · exact ⟨_, rfl, by decide, by decide⟩
      rcases List.mem_cons.mp hy with rfl | hy
      · exact ⟨_, rfl, by decide, by decide⟩
      rcases List.mem_cons.mp hy with rfl | hy
      · exact ⟨_, rfl, by decide, by decide⟩
      rcases List.mem_cons.mp hy with rfl | hy
      · exact ⟨_, rfl, by decide, by decide⟩
      rcases List.mem_cons.mp hy with rfl | hy
      · exact ⟨_, rfl, by decide, by decide⟩
      cases hy
    have hz' : ∃ e : Int, z = .int e ∧ 0 < e ∧ e ≤ 7 := by
      rcases List.mem_cons.mp hz with rfl | hz
      · exact ⟨_, rfl, by decide, by decide⟩
      rcases List.mem_cons.mp hz with rfl | hz
      · exact ⟨_, rfl, by decide, by decide⟩
      rcases List.mem_cons.mp hz with rfl | hz
      · exact ⟨_, rfl, by decide, by decide⟩
      rcases List.mem_cons.mp hz with rfl | hz
      · exact ⟨_, rfl, by decide, by decide⟩
      cases hz
    obtain ⟨c, rfl, hc0, hc5⟩ := hy'
    obtain ⟨e, rfl, he0, he7⟩ := hz'
    have hE6 := hE4.trans hE5
    have hGf5 := hE6.2 pf _ hfu hGf3
    have hGl5 := hE6.2 pl _ hlu hGl3
    have hE7 := hE3.trans hE6
    obtain ⟨w3, d3⟩ := part_small hc5 he0 he7
    have hb0 : Rat.divInt c e ≠ 0 := fun z => by
      rw [Rat.divInt_eq_div] at z
      have h1 : (c : Rat) ≠ 0 := fun z => hc0 (by exact_mod_cast z)
      have h2 : (e : Rat) ≠ 0 := fun z => by
        have : e = 0 := by exact_mod_cast z
        omega
      grind
    refine ⟨c, e, rfl, by omega, lt_pow (by omega) (by decide), lt_pow (by omega) (by decide), .inl (lt_pow (by omega) (by decide)), two_size, by rw [hGf5]; trivial, ?_⟩
    simp only [dRow]
    intro p hp
    refine lc_mapA (fun q : Rat => dQ (q * Rat.divInt c e)) (lt_size (by rw [hx.1]; omega)) hp (fun q hq' G' C' _ hc' => ?_) ?_
    · obtain ⟨w1, d1⟩ := any_wd hx _ hq'
      simp only [dVar, dC, dOp, dB, dAnd, dOr, dNot, dAndV, dOrV, dNotV, dIf, dNil, dCons, dTup, dLst, dLstT, fAdd, fSub, fDiv, fMod, fPow, fMul, fCmp, fLt, fLe, fGt, fGe, fEq, fNe, fIs, fIsNot, isNonD, dNeg, dCB, on1, fLen, fTup, fLstF, fLstT, fAbs, fInt, onI2, fGcd, fMax2, fMin2, fIsi, frzOf, dSq, dRng1, dRng2, dEnum, dZip, dKeys, dVals, dItems, onK, onS, onD, onB, onKs, onY, onI, onN, dctOf, keyOf, gNm, DL.gNil, DL.gCons, gTp, gSubL, gSubD, dNx, dSeq, dBk, dCt, dDrop, dRet, dRetN, dIfS, dAsg, dPar, dPar3, dFor, dWhile, dLc, dLc2, dDc, dItemsT, dDGet, dDGet2, dApp, dPopAt, dPart, dNoPart, dSlc, fSlc, insOf, dFld, dFldS, dCall, dMeth, dMk, mkEnd, dRevT, dNever, dBits, dDictT, dDict1, fSortD, fListD, sl, wipeD, seqOf, IsLst, getFD, putFD, fIx, List.set, List.length_cons, List.length_nil, List.cons.injEq, and_true, true_and, Nat.reduceAdd, reduceCtorEq, if_true, if_false, Bool.false_eq_true, ne_eq, not_false_eq_true, ite_true, ite_false]
      exact ⟨_, _, rfl, w1, w3, .inl (lt_pow (Nat.lt_of_le_of_lt (Nat.mul_le_mul d1 d3) (by decide)) (by decide)), hc'⟩
    · show (match G5 pf with
        | some (.lst ds_1) => _
        | _ => False)
      rw [hGf5]
      refine ⟨by rw [List.length_map, sizeLine_eq]; omega, ?_⟩
      refine hc _ _ ⟨l.eraseIdx k.toNat, f ++ [l[k.toNat].map fun q => q * Rat.divInt c e], _, _, _, by rw [List.length_eraseIdx_of_lt hk]; omega, by rw [List.length_append, List.length_cons, List.length_nil]; omega, fun r hr => hl r (List.mem_of_mem_eraseIdx hr), fun r hr => ?_, same_move hk hb0 hsame, rfl, ?_, ?_, hE7.puts hpf2 hfu⟩
      · rcases List.mem_append.mp hr with hr | hr
        · exact hf r hr
        · rw [List.mem_singleton.mp hr]
          exact row_scale hx hc5 he0 he7
      · rw [gput_ne hfl.symm]
        exact hGl5
      · rw [gput_same, List.map_append, List.map_cons, List.map_nil]
        unfold dRow
        rw [List.map_map]
        rfl
  · rw [List.length_map, rngD_len]; rfl
  · rw [List.length_map, rngD_len]; exact Nat.zero_add _
  · rw [gput_ne hfl.symm, gput_same]
  · exact ((ExtU.refl hu).puts hpl hlu).puts hpf2 hfu
end K43
set_option Elab.async false
set_option linter.all false
set_option maxRecDepth 100000
set_option maxHeartbeats 4000000
namespace K43
open PySem PySem.Spec PyProof.Rows L2 DL
theorem zip_tail_up : ∀ l : List Nat, (l.zip l.tail).all (fun p => decide (p.1 < p.2)) = true ↔ l.Pairwise (· < ·)
  | [] => ⟨fun _ => .nil, fun _ => rfl⟩
  | [a] => ⟨fun _ => List.pairwise_singleton .., fun _ => rfl⟩
  | a :: b :: r => by
    have ih := zip_tail_up (b :: r)
    show (decide (a < b) && ((b :: r).zip (b :: r).tail).all fun p => decide (p.1 < p.2)) = true ↔ _
    rw [Bool.and_eq_true, ih, decide_eq_true_eq, List.pairwise_cons (a := a)]
    constructor
    · rintro ⟨h1, h2⟩
      refine ⟨fun x hx => ?_, h2⟩
      rcases List.mem_cons.mp hx with rfl | hx
      · exact h1
      · exact Nat.lt_trans h1 ((List.pairwise_cons.mp h2).1 x hx)
    · rintro ⟨h1, h2⟩
      exact ⟨h1 b (List.mem_cons_self ..), h2⟩
theorem map_inj {α β : Type} {f : α → β} : ∀ {l : List α} {p q : α}, (l.map f).Nodup → p ∈ l → q ∈ l → f p = f q → p = q
  | x :: l, p, q, hn, hp, hq, e => by
    rw [List.map_cons, List.nodup_cons] at hn
    rcases List.mem_cons.mp hp with e1 | hp2
    · rcases List.mem_cons.mp hq with e2 | hq2
      · rw [e1, e2]
      · exact absurd (by rw [← e1, e]; exact List.mem_map_of_mem hq2) hn.1
    · rcases List.mem_cons.mp hq with e2 | hq2
      · exact absurd (by rw [← e2, ← e]; exact List.mem_map_of_mem hp2) hn.1
      · exact map_inj hn.2 hp2 hq2 e
theorem istab_canon {w : Nat} {t : List (List Rat)} (hl : ∀ r ∈ t, r.length = w) : isTabQ t = true ↔ Canon w t := by
  unfold isTabQ
  rw [Bool.and_eq_true, Bool.and_eq_true, Bool.and_eq_true, zip_tail_up]
  constructor
  · rintro ⟨h1, h2, h3, h4⟩
    have hld : ∀ r ∈ t, leadQ r = some (ld r) := fun r hr => by
      have := List.all_eq_true.mp h1 r hr
      obtain ⟨i, e, _⟩ := leadQ_some (r := r) (by
        revert this
        cases r.all fun q => decide (q = 0) <;> decide)
      rw [e, ld_of e]
    refine ⟨hl, fun r hr => ⟨_, hld r hr, of_decide_eq_true (List.all_eq_true.mp h3 r hr)⟩, h2, fun r hr q hq i hi hne => ?_⟩
    have h5 := List.all_eq_true.mp (List.all_eq_true.mp h4 r hr) q hq
    have h6 : (leadQ q).getD 0 = i := by rw [hi]; rfl
    rw [h6] at h5
    rcases (Bool.or_eq_true _ _ ▸ h5 : _ ∨ _) with h7 | h7
    · refine absurd ?_ hne
      refine map_inj (f := ld) (h2.imp fun h => Nat.ne_of_lt h) hr hq ?_
      have := of_decide_eq_true h7
      show (leadQ r).getD 0 = (leadQ q).getD 0
      rw [h6, this]
    · exact of_decide_eq_true h7
  · intro hc
    refine ⟨List.all_eq_true.mpr fun r hr => ?_, hc.up, List.all_eq_true.mpr fun r hr => decide_eq_true (hc.at_ld hr).2, List.all_eq_true.mpr fun r hr => List.all_eq_true.mpr fun q hq => ?_⟩
    · have h := hc.at_ld hr
      have hf : (r.all fun q => decide (q = 0)) = false := by
        rw [Bool.eq_false_iff]
        intro z
        have := h.2
        rcases vecQ_mem (r := r) (i := ld r) with e | e
        · have := of_decide_eq_true (List.all_eq_true.mp z _ e)
          grind
        · grind
      rw [hf]
      rfl
    · by_cases e : r = q
      · rw [e, decide_eq_true rfl]
        rfl
      · have := hc.off r hr q hq _ (hc.at_ld hq).1 e
        rw [Bool.or_eq_true]
        exact .inr (decide_eq_true this)
end K43
set_option Elab.async false
set_option linter.all false
set_option maxRecDepth 100000
set_option maxHeartbeats 4000000
namespace K43
open PySem PySem.Spec PyProof.Rows L2 DL
theorem okn_tup_mk {ds : List D} {n : Nat} (h : ds.length ≤ 1000) (h2 : ∀ x ∈ ds, okn n x = true) : okn (n + 1) (.tup ds) = true := by
  show (decide (ds.length ≤ 1000) && ds.all (okn n)) = true
  rw [decide_eq_true h, Bool.true_and]
  exact List.all_eq_true.mpr h2
theorem okn_lst_mk {ds : List D} {n : Nat} (h : ds.length ≤ 1000) (h2 : ∀ x ∈ ds, okn n x = true) : okn (n + 1) (.lst ds) = true := by
  show (decide (ds.length ≤ 1000) && ds.all (okn n)) = true
  rw [decide_eq_true h, Bool.true_and]
  exact List.all_eq_true.mpr h2
theorem nr_full {ds : List D} {x : D} (hx : x ∈ ds) (hf : fullRow x = false) : areRows (.tup ds) = false := by
  rw [Bool.eq_false_iff]
  intro z
  have z2 : (ds.all fullRow && ds.all fun r => areFr r ((itemsT (ds.headD .non)).length : Int)) = true := z
  rw [Bool.and_eq_true] at z2
  have := List.all_eq_true.mp z2.1 x hx
  rw [hf] at this
  cases this
theorem nr_fr {ds : List D} {x : D} (hx : x ∈ ds) (hf : areFr x ((itemsT (ds.headD .non)).length : Int) = false) : areRows (.tup ds) = false := by
  rw [Bool.eq_false_iff]
  intro z
  have z2 : (ds.all fullRow && ds.all fun r => areFr r ((itemsT (ds.headD .non)).length : Int)) = true := z
  rw [Bool.and_eq_true] at z2
  have := List.all_eq_true.mp z2.2 x hx
  rw [hf] at this
  cases this
theorem fr_len {ds : List D} {n : Int} (h : (ds.length : Int) ≠ n) : areFr (.tup ds) n = false := by
  show (true && (decide ((ds.length : Int) = n) && ds.all isFr)) = false
  rw [decide_eq_false h]
  rfl
theorem fr_not {ds : List D} {y : D} {n : Int} (hy : y ∈ ds) (h : isFr y = false) : areFr (.tup ds) n = false := by
  show (true && (decide ((ds.length : Int) = n) && ds.all isFr)) = false
  rw [Bool.true_and, Bool.and_eq_false_iff]
  refine .inr ?_
  rw [Bool.eq_false_iff]
  intro z
  have := List.all_eq_true.mp z y hy
  rw [h] at this
  cases this
theorem odd_tab {t : List (List Rat)} {w : Nat} (h : t.length ≤ 1000) (h0 : 0 < w) (hw : w ≤ 8) (hl : ∀ r ∈ t, r.length = w) (hn : ¬ Canon w t) : OddT (dTab t) := by
  refine ⟨okn_table h (fun r hr => by rw [hl r hr]; omega) 5, .inr ⟨t, w, rfl, h0, by omega, hl, ?_⟩⟩
  rw [Bool.eq_false_iff]
  exact fun z => hn ((istab_canon hl).mp z)
section
variable {w : Nat} {t : List (List Rat)} {last : List Rat}
theorem odd1 (hw0 : 0 < w) (hw : w ≤ 8) (htl : t.length ≤ 8) (hc : Canon w t) : OddT (dTab (t ++ [List.replicate w 0])) := by
  refine odd_tab (w := w) (by rw [List.length_append, List.length_cons, List.length_nil]; omega) hw0 hw (fun r hr => ?_) fun k => ?_
  · rcases List.mem_append.mp hr with hr | hr
    · exact hc.len r hr
    · rw [List.mem_singleton.mp hr]
      exact List.length_replicate
  · obtain ⟨i, _, e⟩ := k.lead (List.replicate w 0) (List.mem_append_right _ (List.mem_cons_self ..))
    have e2 : vecQ (List.replicate w 0) i = 0 := by
      unfold vecQ
      rw [List.getD_eq_getElem?_getD, List.getElem?_replicate]
      split <;> rfl
    rw [e2] at e
    grind
theorem odd2 (hw : w ≤ 8) (htl : t.length ≤ 8) (hc : Canon w t) : OddT (.lst (t.map dRow)) := by
  refine ⟨okn_lst_mk (n := 7) (by rw [List.length_map]; omega) fun x hx => ?_, .inl rfl⟩
  obtain ⟨r, hr, rfl⟩ := List.mem_map.mp hx
  exact okn_row (by rw [hc.len r hr]; omega) 5
theorem odd6 (hw0 : 0 < w) (hw : w ≤ 8) : OddT (.tup [.tup (List.replicate w [D.int 1]).flatten]) := by
  rw [List.flatten_replicate_singleton]
  refine ⟨okn_tup_mk (n := 7) (Nat.le_of_ble_eq_true rfl) fun x hx => ?_, .inl (nr_fr (List.mem_cons_self ..) (fr_not (y := .int 1) ?_ rfl))⟩
  · rw [List.mem_singleton.mp hx]
    refine okn_tup_mk (n := 6) (by rw [List.length_replicate]; omega) fun y hy => ?_
    rw [List.eq_of_mem_replicate hy]
    rfl
  · exact List.mem_replicate.mpr ⟨by omega, rfl⟩
theorem head_len (hl : ∀ r ∈ t, r.length = w) (hne : t ≠ []) (ds : List D) : (itemsT ((t.map dRow ++ ds).headD .non)).length = w := by
  cases t with
  | nil => exact absurd rfl hne
  | cons r t =>
    show (r.map dQ).length = w
    rw [List.length_map]
    exact hl r (List.mem_cons_self ..)
theorem okn_rows (hl : ∀ r ∈ t, r.length = w) (hw : w ≤ 8) {x : D} (hx : x ∈ t.map dRow) : okn 7 x = true := by
  obtain ⟨r, hr, rfl⟩ := List.mem_map.mp hx
  exact okn_row (by rw [hl r hr]; omega) 5
theorem okn_plus (hl : ∀ r ∈ t, r.length = w) (hw : w ≤ 8) (htl : t.length ≤ 8) {y : D} (hy : okn 7 y = true) : okn 8 (.tup (t.map dRow ++ [y])) = true := by
  refine okn_tup_mk (by rw [List.length_append, List.length_map, List.length_cons, List.length_nil]; omega) fun x hx => ?_
  rcases List.mem_append.mp hx with hx | hx
  · exact okn_rows hl hw hx
  · rw [List.mem_singleton.mp hx]
    exact hy
theorem oddF1 (hw : w ≤ 8) (htl : t.length ≤ 8) (hc : Canon w t) (hne : t ≠ []) : OddT (.tup (t.map dRow ++ [.tup (List.replicate (w + 1) [D.tup [.int 1, .int 1]]).flatten])) := by
  rw [List.flatten_replicate_singleton]
  refine ⟨okn_plus hc.len hw htl (okn_tup_mk (n := 6) (by rw [List.length_replicate]; omega) fun y hy => ?_), .inl (nr_fr (List.mem_append_right _ (List.mem_cons_self ..)) ?_)⟩
  · rw [List.eq_of_mem_replicate hy]
    rfl
  · rw [head_len hc.len hne]
    refine fr_len ?_
    rw [List.length_replicate]
    omega
theorem oddF2 (hw0 : 0 < w) (hw : w ≤ 8) (htl : (t ++ [last]).length ≤ 8) (hc : Canon w (t ++ [last])) : OddT (dTab ((t ++ [last]) ++ [last])) := by
  refine odd_tab (w := w) (by rw [List.length_append, List.length_cons, List.length_nil]; omega) hw0 hw (fun r hr => ?_) fun k => ?_
  · rcases List.mem_append.mp hr with hr | hr
    · exact hc.len r hr
    · rw [List.mem_singleton.mp hr]
      exact hc.len last (List.mem_append_right _ (List.mem_cons_self ..))
  · have := (List.nodup_append.mp k.nodup).2.2 last (List.mem_append_right _ (List.mem_cons_self ..)) last (List.mem_cons_self ..)
    exact this rfl
theorem oddF3 (hw0 : 0 < w) (hw : w ≤ 8) (htl : (t ++ [last]).length ≤ 8) (hc : Canon w (t ++ [last])) : OddT (dTab (t ++ [last.map fun q => q * Rat.divInt 2 1])) := by
  have hm : last ∈ t ++ [last] := List.mem_append_right _ (List.mem_cons_self ..)
  have e2 : Rat.divInt 2 1 = 2 := rfl
  refine odd_tab (w := w) (by rw [List.length_append, List.length_cons, List.length_nil] at htl ⊢; omega) hw0 hw (fun r hr => ?_) fun k => ?_
  · rcases List.mem_append.mp hr with hr | hr
    · exact hc.len r (List.mem_append_left _ hr)
    · rw [List.mem_singleton.mp hr, List.length_map]
      exact hc.len last hm
  · obtain ⟨i, e, e1⟩ := k.lead _ (List.mem_append_right _ (List.mem_cons_self ..))
    obtain ⟨h1, h2⟩ := hc.at_ld hm
    have hv : ∀ j, vecQ (last.map fun q => q * Rat.divInt 2 1) j = vecQ last j * 2 := fun j => by rw [vec_map (by grind), e2]
    have h3 : leadQ (last.map fun q => q * Rat.divInt 2 1) = some (ld last) := leadQ_of (fun j hj => by rw [hv, leadQ_pre h1 hj]; grind) (by rw [hv, h2]; grind)
    rw [h3] at e
    cases e
    rw [hv, h2] at e1
    grind
theorem init_len (hc : Canon w (t ++ [last])) : ∀ r ∈ t, r.length = w := fun r hr => hc.len r (List.mem_append_left _ hr)
theorem last_len (hc : Canon w (t ++ [last])) : last.length = w := hc.len last (List.mem_append_right _ (List.mem_cons_self ..))
theorem init_few (htl : (t ++ [last]).length ≤ 8) : t.length ≤ 8 := by rw [List.length_append] at htl; omega
theorem oddF4 (hw : w ≤ 8) (htl : (t ++ [last]).length ≤ 8) (hc : Canon w (t ++ [last])) : OddT (.tup (t.map dRow ++ [.lst (last.map dQ)])) := by
  refine ⟨okn_plus (init_len hc) hw (init_few htl) (okn_lst_mk (n := 6) (by rw [List.length_map, last_len hc]; omega) fun y hy => ?_), .inl (nr_full (List.mem_append_right _ (List.mem_cons_self ..)) rfl)⟩
  obtain ⟨q, _, rfl⟩ := List.mem_map.mp hy
  exact okn_q q 5
theorem oddF5 (hw0 : 0 < w) (hw : w ≤ 8) (htl : (t ++ [last]).length ≤ 8) (hc : Canon w (t ++ [last])) (hne : t ≠ []) : OddT (.tup (t.map dRow ++ [.tup (last.map dQ).dropLast])) := by
  refine ⟨okn_plus (init_len hc) hw (init_few htl) (okn_tup_mk (n := 6) (by rw [List.length_dropLast, List.length_map, last_len hc]; omega) fun y hy => ?_), .inl (nr_fr (List.mem_append_right _ (List.mem_cons_self ..)) ?_)⟩
  · obtain ⟨q, _, rfl⟩ := List.mem_map.mp (List.dropLast_subset _ hy)
    exact okn_q q 5
  · rw [head_len (init_len hc) hne]
    refine fr_len ?_
    rw [List.length_dropLast, List.length_map, last_len hc]
    omega
theorem oddF5b (hw : w ≤ 8) (hc : Canon w (t ++ [last])) : OddT (.lst [dRow last]) :=
  ⟨okn_lst_mk (n := 7) (Nat.le_of_ble_eq_true rfl) fun x hx => by rw [List.mem_singleton.mp hx]; exact okn_row (by rw [last_len hc]; omega) 5, .inl rfl⟩
theorem oddF6 (hw0 : 0 < w) (hw : w ≤ 8) (htl : (t ++ [last]).length ≤ 8) (hc : Canon w (t ++ [last])) : OddT (.tup (t.map dRow ++ [.tup (last.map fun q => .tup [.int (q.num * 3), .int ((q.den : Int) * 3)])])) := by
  refine ⟨okn_plus (init_len hc) hw (init_few htl) (okn_tup_mk (n := 6) (by rw [List.length_map, last_len hc]; omega) fun y hy => ?_), .inl (nr_fr (List.mem_append_right _ (List.mem_cons_self ..)) ?_)⟩
  · obtain ⟨q, _, rfl⟩ := List.mem_map.mp hy
    rfl
  · have hl := last_len hc
    cases last with
    | nil => rw [List.length_nil] at hl; omega
    | cons q r =>
      refine fr_not (List.mem_cons_self ..) ?_
      show (decide (0 < (q.den : Int) * 3) && decide (Nat.gcd (q.num * 3).natAbs ((q.den : Int) * 3).natAbs = 1)) = false
      have e : Nat.gcd (q.num * 3).natAbs ((q.den : Int) * 3).natAbs = 3 := by
        rw [Int.natAbs_mul, Int.natAbs_mul, Int.natAbs_natCast]
        show Nat.gcd (q.num.natAbs * 3) (q.den * 3) = 3
        rw [Nat.gcd_mul_right, q.reduced]
      rw [decide_eq_false (p := Nat.gcd (q.num * 3).natAbs ((q.den : Int) * 3).natAbs = 1) (by rw [e]; decide)]
      exact Bool.and_false _
theorem oddG1 (hw0 : 0 < w) (hw : w ≤ 8) (htl : t.length ≤ 8) (hc : Canon w t) (h2 : 1 < t.length) : OddT (dTab t.reverse) := by
  refine odd_tab (w := w) (by rw [List.length_reverse]; omega) hw0 hw (fun r hr => hc.len r (List.mem_reverse.mp hr)) fun k => ?_
  have hu := k.up
  rw [List.map_reverse, List.pairwise_reverse] at hu
  have hu2 := hc.up
  match t, h2 with
  | a :: b :: r, _ =>
    have h3 := (List.pairwise_cons.mp hu).1 _ (List.mem_cons_self ..)
    have h4 := (List.pairwise_cons.mp hu2).1 _ (List.mem_cons_self ..)
    omega
theorem zipadd_vec {x y : List Rat} (h : x.length = y.length) (i : Nat) : vecQ ((x.zip y).map fun p => p.1 + p.2) i = vecQ x i + vecQ y i := by
  have := zip_vec h 1 i
  have e : (fun p : Rat × Rat => p.1 + 1 * p.2) = fun p => p.1 + p.2 := funext fun p => by grind
  rw [e] at this
  rw [this]
  grind
theorem oddG2 {a : List Rat} (hw0 : 0 < w) (hw : w ≤ 8) (htl : (a :: (t ++ [last])).length ≤ 8) (hc : Canon w (a :: (t ++ [last]))) : OddT (dTab ((a.zip last).map (fun p => p.1 + p.2) :: (t ++ [last]))) := by
  have ha : a ∈ a :: (t ++ [last]) := List.mem_cons_self ..
  have hl : last ∈ a :: (t ++ [last]) := List.mem_cons_of_mem _ (List.mem_append_right _ (List.mem_cons_self ..))
  have hal : a.length = last.length := by rw [hc.len a ha, hc.len last hl]
  refine odd_tab (w := w) (by rw [List.length_cons] at htl ⊢; omega) hw0 hw (fun r hr => ?_) fun k => ?_
  · rcases List.mem_cons.mp hr with rfl | hr
    · rw [List.length_map, List.length_zip, hc.len a ha, hc.len last hl, Nat.min_self]
    · exact hc.len r (List.mem_cons_of_mem _ hr)
  · have hne : a ≠ last := fun e => (List.nodup_cons.mp hc.nodup).1 (e ▸ List.mem_append_right _ (List.mem_cons_self ..))
    have h1 := hc.at_ld ha
    have h2 := hc.at_ld hl
    have h3 := hc.off a ha last hl _ h2.1 hne
    have h4 := hc.off last hl a ha _ h1.1 hne.symm
    have h5 := k.off _ (List.mem_cons_self ..) last (List.mem_cons_of_mem _ (List.mem_append_right _ (List.mem_cons_self ..))) _ h2.1 fun e => by
      have := congrArg (fun r => vecQ r (ld a)) e
      simp only [zipadd_vec hal] at this
      rw [h1.2, h4] at this
      grind
    rw [zipadd_vec hal, h3, h2.2] at h5
    grind
end
end K43
set_option Elab.async false
set_option linter.all false
set_option maxRecDepth 100000
set_option maxHeartbeats 4000000
namespace K43
open PySem PySem.Spec PyProof.Rows L2 DL
theorem seq_as {t : DTE} {i : Nat} {s : DTS} {E : DEnds} {ρ : Dt} {G : GH} {d : D} (h : ∀ Q : DE, Q d G → t ρ G Q) (k : s E (ρ.set i (some d)) G) : dSeq (dAsg t (gNm i)) s E ρ G := h _ k
theorem one_as {t : DTE} {i : Nat} {E : DEnds} {ρ : Dt} {G : GH} {d : D} (h : ∀ Q : DE, Q d G → t ρ G Q) (k : E.nx (ρ.set i (some d)) G) : dAsg t (gNm i) E ρ G := h _ k
theorem seq_tp2 {t : DTE} {i j : Nat} {s : DTS} {E : DEnds} {ρ : Dt} {G : GH} {x y : D} (h : ∀ Q : DE, Q (.tup [x, y]) G → t ρ G Q) (k : s E ((ρ.set i (some x)).set j (some y)) G) : dSeq (dAsg t (gTp 2 (DL.gCons (gNm i) (DL.gCons (gNm j) DL.gNil)))) s E ρ G := h _ ⟨rfl, rfl, k⟩
theorem seq_if {c : DTT} {A B s : DTS} {E : DEnds} {ρ : Dt} {G : GH} (b : Bool) (h : ∀ Q : Bool → GH → Prop, Q b G → c ρ G Q) (k : if b = true then dSeq A s E ρ G else dSeq B s E ρ G) : dSeq (dIfS c A B) s E ρ G := h _ (by cases b <;> exact k)
theorem seq_seq {A B s : DTS} {E : DEnds} {ρ : Dt} {G : GH} (k : dSeq A (dSeq B s) E ρ G) : dSeq (dSeq A B) s E ρ G := k
theorem seq_nx {s : DTS} {E : DEnds} {ρ : Dt} {G : GH} (k : s E ρ G) : dSeq dNx s E ρ G := k
section
variable {u : Addr} {t : List (List Rat)} {last : List Rat} {w : Nat} {G : GH} {x5 x3 x4 x6 x7 x8 x9 x10 : Option D}
theorem ix_m1 (n d : Nat) : HT.sIx n d (some (-1)) = n - 1 := by
  show (if (-1 : Int) < 0 then ((-1 : Int) + (n : Int)).toNat else min (-1 : Int).toNat n) = n - 1
  rw [if_pos (by decide)]
  omega
theorem cut_drop (a : List D) : DL.cutD a none (some (-1)) = a.dropLast := by
  unfold DL.cutD
  rw [ix_m1, HT.sIx_none, List.drop_zero, Nat.sub_zero, List.dropLast_eq_take]
theorem cut_init (a : List D) (x : D) : DL.cutD (a ++ [x]) none (some (-1)) = a := by
  rw [cut_drop, List.dropLast_concat]
theorem cut_last (a : List D) (x : D) : DL.cutD (a ++ [x]) (some (-1)) none = [x] := by
  unfold DL.cutD
  have e : (a ++ [x]).length - 1 = a.length := by rw [List.length_append, List.length_cons, List.length_nil]; omega
  rw [ix_m1, HT.sIx_none, e, List.drop_left', List.length_append, List.length_cons, List.length_nil]
  · exact List.take_of_length_le (by rw [List.length_cons, List.length_nil]; omega)
  · rfl
theorem at_last (a : List D) (x : D) : atI (a ++ [x]) (-1) = some x := by
  have e : ixN (a ++ [x]).length (-1) = some a.length := by
    unfold ixN
    rw [if_neg (by decide), List.length_append, List.length_cons, List.length_nil, if_pos (by omega)]
    congr 1
    omega
  unfold atI
  rw [e]
  show (a ++ [x])[a.length]? = some x
  rw [List.getElem?_append_right (Nat.le_refl _), Nat.sub_self]
  rfl
theorem tab_last : (t ++ [last]).map dRow = t.map dRow ++ [dRow last] := by rw [List.map_append]; rfl
theorem size_le {n : Nat} (h : n ≤ 100) : n ≤ sizeLine := lt_size (by omega)
abbrev oE : DTE := (dLst (dCons (dOp fAdd (dVar 1) (dTup (dCons (dOp fMul (dTup (dCons (dVar 3) dNil)) (dVar 2)) dNil))) (dCons (dCB (on1 fLstF) (dCons (dVar 1) dNil)) (dCons (dC .non) (dCons (dC (.int 5)) (dCons (dTup (dCons (dTup dNil) dNil)) (dCons (dTup (dCons (dOp fMul (dTup (dCons (dC (.int 1)) dNil)) (dVar 2)) dNil)) dNil)))))))
theorem ev_oE (hw0 : 0 < w) (hw : w ≤ 8) (htl : t.length ≤ 8) : ∀ Q : DE, Q (.lst [dTab (t ++ [List.replicate w 0]), .lst (t.map dRow), .non, .int 5, .tup [.tup []], .tup [.tup (List.replicate w [D.int 1]).flatten]]) G →
    oE [some (.ref u), some (dTab t), some (.int (w : Int)), some (dQ 0), x4, x5, x6, x7, x8, x9, x10] G Q := by
  intro Q hq
  unfold dTab at hq
  rw [tab_last, ← dz_row] at hq
  simp only [oE, dTab, dVar, dC, dOp, dB, dAnd, dOr, dNot, dAndV, dOrV, dNotV, dIf, dNil, dCons, dTup, dLst, dLstT, fAdd, fSub, fDiv, fMod, fPow, fMul, fCmp, fLt, fLe, fGt, fGe, fEq, fNe, fIs, fIsNot, isNonD, dNeg, dCB, on1, fLen, fTup, fLstF, fLstT, fAbs, fInt, onI2, fGcd, fMax2, fMin2, fIsi, frzOf, dSq, dRng1, dRng2, dEnum, dZip, dKeys, dVals, dItems, onK, onS, onD, onB, onKs, onY, onI, onN, dctOf, keyOf, gNm, DL.gNil, DL.gCons, gTp, gSubL, gSubD, dNx, dSeq, dBk, dCt, dDrop, dRet, dRetN, dIfS, dAsg, dPar, dPar3, dFor, dWhile, dLc, dLc2, dDc, dItemsT, dDGet, dDGet2, dApp, dPopAt, dPart, dNoPart, dSlc, fSlc, insOf, dFld, dFldS, dCall, dMeth, dMk, mkEnd, dRevT, dNever, dBits, dDictT, dDict1, fSortD, fListD, sl, wipeD, seqOf, IsLst, getFD, putFD, fIx, List.set, List.length_cons, List.length_nil, List.cons.injEq, and_true, true_and, Nat.reduceAdd, reduceCtorEq, if_true, if_false, Bool.false_eq_true, ne_eq, not_false_eq_true, ite_true, ite_false]
  have s1 : 1 ≤ sizeLine := size_le (by decide)
  exact ⟨s1, ⟨by omega, by omega, by decide⟩, s1, by rw [List.length_map]; exact size_le (by omega), Nat.zero_le _, s1, s1, ⟨by omega, by omega, by decide⟩, s1, size_le (by decide), hq⟩
abbrev oF1 : DTE := (dOp fAdd (dVar 1) (dTup (dCons (dOp fMul (dTup (dCons (dVar 4) dNil)) (dOp fAdd (dVar 2) (dC (.int 1)))) dNil)))
abbrev oF2 : DTE := (dOp fAdd (dVar 1) (dSlc (dVar 1) (dPart (dNeg (dC (.int 1)))) dNoPart))
abbrev oF3 : DTE := (dOp fAdd (dSlc (dVar 1) dNoPart (dPart (dNeg (dC (.int 1))))) (dTup (dCons (dCB (on1 fTup) (dCons (dLc true (dSq (dVar 6)) (gNm 8) dYes (dCall 2 (S_law_by) (dCons (dVar 8) (dCons (dTup (dCons (dC (.int 2)) (dCons (dC (.int 1)) dNil))) dNil))) [8]) dNil)) dNil)))
abbrev oF4 : DTE := (dOp fAdd (dSlc (dVar 1) dNoPart (dPart (dNeg (dC (.int 1))))) (dTup (dCons (dCB (on1 fLstF) (dCons (dVar 6) dNil)) dNil)))
abbrev oF5 : DTE := (dIf (dB (dOp fGt (dCB (on1 fLen) (dCons (dVar 1) dNil)) (dC (.int 1)))) (dOp fAdd (dSlc (dVar 1) dNoPart (dPart (dNeg (dC (.int 1))))) (dTup (dCons (dSlc (dVar 6) dNoPart (dPart (dNeg (dC (.int 1))))) dNil))) (dLst (dCons (dVar 6) dNil)))
abbrev oF6 : DTE := (dOp fAdd (dSlc (dVar 1) dNoPart (dPart (dNeg (dC (.int 1))))) (dTup (dCons (dCB (on1 fTup) (dCons (dLc true (dSq (dVar 6)) (gNm 8) dYes (dTup (dCons (dOp fMul (dOp fIx (dVar 8) (dC (.int 0))) (dC (.int 3))) (dCons (dOp fMul (dOp fIx (dVar 8) (dC (.int 1))) (dC (.int 3))) dNil))) [8]) dNil)) dNil)))
theorem ev_oF1 (hw : w ≤ 8) (htl : t.length ≤ 8) : ∀ Q : DE, Q (.tup (t.map dRow ++ [.tup (List.replicate (w + 1) [D.tup [.int 1, .int 1]]).flatten])) G →
    oF1 [some (.ref u), some (dTab t), some (.int (w : Int)), x3, some (dQ 1), x5, x6, x7, x8, x9, x10] G Q := by
  intro Q hq
  simp only [oF1, dTab, dVar, dC, dOp, dB, dAnd, dOr, dNot, dAndV, dOrV, dNotV, dIf, dNil, dCons, dTup, dLst, dLstT, fAdd, fSub, fDiv, fMod, fPow, fMul, fCmp, fLt, fLe, fGt, fGe, fEq, fNe, fIs, fIsNot, isNonD, dNeg, dCB, on1, fLen, fTup, fLstF, fLstT, fAbs, fInt, onI2, fGcd, fMax2, fMin2, fIsi, frzOf, dSq, dRng1, dRng2, dEnum, dZip, dKeys, dVals, dItems, onK, onS, onD, onB, onKs, onY, onI, onN, dctOf, keyOf, gNm, DL.gNil, DL.gCons, gTp, gSubL, gSubD, dNx, dSeq, dBk, dCt, dDrop, dRet, dRetN, dIfS, dAsg, dPar, dPar3, dFor, dWhile, dLc, dLc2, dDc, dItemsT, dDGet, dDGet2, dApp, dPopAt, dPart, dNoPart, dSlc, fSlc, insOf, dFld, dFldS, dCall, dMeth, dMk, mkEnd, dRevT, dNever, dBits, dDictT, dDict1, fSortD, fListD, sl, wipeD, seqOf, IsLst, getFD, putFD, fIx, List.set, List.length_cons, List.length_nil, List.cons.injEq, and_true, true_and, Nat.reduceAdd, reduceCtorEq, if_true, if_false, Bool.false_eq_true, ne_eq, not_false_eq_true, ite_true, ite_false]
  have s1 : 1 ≤ sizeLine := size_le (by decide)
  refine ⟨s1, ⟨by omega, by omega, by decide⟩, s1, by rw [List.length_map]; exact size_le (by omega), ?_⟩
  rw [show ((w : Int) + 1).toNat = w + 1 by omega]
  exact hq
theorem ev_oF2 {x11 : Option D} (htl : (t ++ [last]).length ≤ 8) : ∀ Q : DE, Q (dTab ((t ++ [last]) ++ [last])) G →
    oF2 [some (.ref u), some (dTab (t ++ [last])), x3, x4, x5, x6, x7, x8, x9, x10, x11] G Q := by
  intro Q hq
  unfold dTab at hq
  rw [tab_last] at hq
  simp only [oF2, dTab, dVar, dC, dOp, dB, dAnd, dOr, dNot, dAndV, dOrV, dNotV, dIf, dNil, dCons, dTup, dLst, dLstT, fAdd, fSub, fDiv, fMod, fPow, fMul, fCmp, fLt, fLe, fGt, fGe, fEq, fNe, fIs, fIsNot, isNonD, dNeg, dCB, on1, fLen, fTup, fLstF, fLstT, fAbs, fInt, onI2, fGcd, fMax2, fMin2, fIsi, frzOf, dSq, dRng1, dRng2, dEnum, dZip, dKeys, dVals, dItems, onK, onS, onD, onB, onKs, onY, onI, onN, dctOf, keyOf, gNm, DL.gNil, DL.gCons, gTp, gSubL, gSubD, dNx, dSeq, dBk, dCt, dDrop, dRet, dRetN, dIfS, dAsg, dPar, dPar3, dFor, dWhile, dLc, dLc2, dDc, dItemsT, dDGet, dDGet2, dApp, dPopAt, dPart, dNoPart, dSlc, fSlc, insOf, dFld, dFldS, dCall, dMeth, dMk, mkEnd, dRevT, dNever, dBits, dDictT, dDict1, fSortD, fListD, sl, wipeD, seqOf, IsLst, getFD, putFD, fIx, List.set, List.length_cons, List.length_nil, List.cons.injEq, and_true, true_and, Nat.reduceAdd, reduceCtorEq, if_true, if_false, Bool.false_eq_true, ne_eq, not_false_eq_true, ite_true, ite_false]
  rw [tab_last, cut_last]
  rw [tab_last] at hq
  refine ⟨?_, hq⟩
  rw [List.length_append, List.length_cons, List.length_nil] at htl ⊢
  rw [List.length_map]
  exact size_le (by omega)
theorem ev_oF3 (hw : w ≤ 8) (htl : (t ++ [last]).length ≤ 8) (hll : last.length = w) (hb : ∃ M : Nat, 0 < M ∧ M < 2 ^ 3400 ∧ ∀ q ∈ last, q.den ∣ M ∧ q.num.natAbs < 2 ^ 3400) : ∀ Q : DE, Q (dTab (t ++ [last.map fun q => q * Rat.divInt 2 1])) G →
    oF3 [some (.ref u), some (dTab (t ++ [last])), x3, x4, x5, x6, some (dRow last), x7, x8, x9, x10] G Q := by
  intro Q hq
  obtain ⟨M, hM, hM2, hbq⟩ := hb
  unfold dTab at hq
  rw [tab_last] at hq
  simp only [oF3, dTab, dRow, dVar, dC, dOp, dB, dAnd, dOr, dNot, dAndV, dOrV, dNotV, dIf, dNil, dCons, dTup, dLst, dLstT, fAdd, fSub, fDiv, fMod, fPow, fMul, fCmp, fLt, fLe, fGt, fGe, fEq, fNe, fIs, fIsNot, isNonD, dNeg, dCB, on1, fLen, fTup, fLstF, fLstT, fAbs, fInt, onI2, fGcd, fMax2, fMin2, fIsi, frzOf, dSq, dRng1, dRng2, dEnum, dZip, dKeys, dVals, dItems, onK, onS, onD, onB, onKs, onY, onI, onN, dctOf, keyOf, gNm, DL.gNil, DL.gCons, gTp, gSubL, gSubD, dNx, dSeq, dBk, dCt, dDrop, dRet, dRetN, dIfS, dAsg, dPar, dPar3, dFor, dWhile, dLc, dLc2, dDc, dItemsT, dDGet, dDGet2, dApp, dPopAt, dPart, dNoPart, dSlc, fSlc, insOf, dFld, dFldS, dCall, dMeth, dMk, mkEnd, dRevT, dNever, dBits, dDictT, dDict1, fSortD, fListD, sl, wipeD, seqOf, IsLst, getFD, putFD, fIx, List.set, List.length_cons, List.length_nil, List.cons.injEq, and_true, true_and, Nat.reduceAdd, reduceCtorEq, if_true, if_false, Bool.false_eq_true, ne_eq, not_false_eq_true, ite_true, ite_false]
  intro p hp
  refine lc_mapA (fun q : Rat => dQ (q * Rat.divInt 2 1)) (lt_size (by omega)) hp (fun q hq' G' C' _ hc' => ?_) ?_
  · simp only [dVar, dC, dOp, dB, dAnd, dOr, dNot, dAndV, dOrV, dNotV, dIf, dNil, dCons, dTup, dLst, dLstT, fAdd, fSub, fDiv, fMod, fPow, fMul, fCmp, fLt, fLe, fGt, fGe, fEq, fNe, fIs, fIsNot, isNonD, dNeg, dCB, on1, fLen, fTup, fLstF, fLstT, fAbs, fInt, onI2, fGcd, fMax2, fMin2, fIsi, frzOf, dSq, dRng1, dRng2, dEnum, dZip, dKeys, dVals, dItems, onK, onS, onD, onB, onKs, onY, onI, onN, dctOf, keyOf, gNm, DL.gNil, DL.gCons, gTp, gSubL, gSubD, dNx, dSeq, dBk, dCt, dDrop, dRet, dRetN, dIfS, dAsg, dPar, dPar3, dFor, dWhile, dLc, dLc2, dDc, dItemsT, dDGet, dDGet2, dApp, dPopAt, dPart, dNoPart, dSlc, fSlc, insOf, dFld, dFldS, dCall, dMeth, dMk, mkEnd, dRevT, dNever, dBits, dDictT, dDict1, fSortD, fListD, sl, wipeD, seqOf, IsLst, getFD, putFD, fIx, List.set, List.length_cons, List.length_nil, List.cons.injEq, and_true, true_and, Nat.reduceAdd, reduceCtorEq, if_true, if_false, Bool.false_eq_true, ne_eq, not_false_eq_true, ite_true, ite_false]
    rw [← dQ_one]
    obtain ⟨h1, h2⟩ := hbq q hq'
    have h3 : q.den < 2 ^ 3400 := Nat.lt_of_le_of_lt (Nat.le_of_dvd hM h1) hM2
    obtain ⟨w3, d3⟩ := part_small (c := 2) (e := 1) (by decide) (by decide) (by decide)
    refine ⟨two_size, _, _, rfl, ⟨lt_up h2 (by decide), lt_up h3 (by decide)⟩, w3, .inl ?_, hc'⟩
    have h4 : q.den * (Rat.divInt 2 1).den < 2 ^ 3400 * 2 ^ 3 := Nat.mul_lt_mul_of_lt_of_le h3 (Nat.le_trans d3 (by decide)) (by decide)
    rw [← Nat.pow_add] at h4
    exact lt_up h4 (by decide)
  · have e : last.map (fun q => dQ (q * Rat.divInt 2 1)) = (last.map fun q => q * Rat.divInt 2 1).map dQ := by rw [List.map_map]; rfl
    rw [e]
    simp only [tab_last, cut_init]
    refine ⟨size_le (by decide), ?_, hq⟩
    rw [List.length_append, List.length_cons, List.length_nil] at htl
    rw [List.length_map]
    exact size_le (by omega)
theorem ev_oF4 (htl : (t ++ [last]).length ≤ 8) : ∀ Q : DE, Q (.tup (t.map dRow ++ [.lst (last.map dQ)])) G →
    oF4 [some (.ref u), some (dTab (t ++ [last])), x3, x4, x5, x6, some (dRow last), x7, x8, x9, x10] G Q := by
  intro Q hq
  simp only [oF4, dTab, dRow, dVar, dC, dOp, dB, dAnd, dOr, dNot, dAndV, dOrV, dNotV, dIf, dNil, dCons, dTup, dLst, dLstT, fAdd, fSub, fDiv, fMod, fPow, fMul, fCmp, fLt, fLe, fGt, fGe, fEq, fNe, fIs, fIsNot, isNonD, dNeg, dCB, on1, fLen, fTup, fLstF, fLstT, fAbs, fInt, onI2, fGcd, fMax2, fMin2, fIsi, frzOf, dSq, dRng1, dRng2, dEnum, dZip, dKeys, dVals, dItems, onK, onS, onD, onB, onKs, onY, onI, onN, dctOf, keyOf, gNm, DL.gNil, DL.gCons, gTp, gSubL, gSubD, dNx, dSeq, dBk, dCt, dDrop, dRet, dRetN, dIfS, dAsg, dPar, dPar3, dFor, dWhile, dLc, dLc2, dDc, dItemsT, dDGet, dDGet2, dApp, dPopAt, dPart, dNoPart, dSlc, fSlc, insOf, dFld, dFldS, dCall, dMeth, dMk, mkEnd, dRevT, dNever, dBits, dDictT, dDict1, fSortD, fListD, sl, wipeD, seqOf, IsLst, getFD, putFD, fIx, List.set, List.length_cons, List.length_nil, List.cons.injEq, and_true, true_and, Nat.reduceAdd, reduceCtorEq, if_true, if_false, Bool.false_eq_true, ne_eq, not_false_eq_true, ite_true, ite_false, tab_last, cut_init]
  refine ⟨size_le (by decide), ?_, hq⟩
  rw [List.length_append, List.length_cons, List.length_nil] at htl
  rw [List.length_map]
  exact size_le (by omega)
theorem ev_oF5 (htl : (t ++ [last]).length ≤ 8) : ∀ Q : DE, Q (if t = [] then .lst [dRow last] else .tup (t.map dRow ++ [.tup (last.map dQ).dropLast])) G →
    oF5 [some (.ref u), some (dTab (t ++ [last])), x3, x4, x5, x6, some (dRow last), x7, x8, x9, x10] G Q := by
  intro Q hq
  simp only [oF5, dTab, dRow, dVar, dC, dOp, dB, dAnd, dOr, dNot, dAndV, dOrV, dNotV, dIf, dNil, dCons, dTup, dLst, dLstT, fAdd, fSub, fDiv, fMod, fPow, fMul, fCmp, fLt, fLe, fGt, fGe, fEq, fNe, fIs, fIsNot, isNonD, dNeg, dCB, on1, fLen, fTup, fLstF, fLstT, fAbs, fInt, onI2, fGcd, fMax2, fMin2, fIsi, frzOf, dSq, dRng1, dRng2, dEnum, dZip, dKeys, dVals, dItems, onK, onS, onD, onB, onKs, onY, onI, onN, dctOf, keyOf, gNm, DL.gNil, DL.gCons, gTp, gSubL, gSubD, dNx, dSeq, dBk, dCt, dDrop, dRet, dRetN, dIfS, dAsg, dPar, dPar3, dFor, dWhile, dLc, dLc2, dDc, dItemsT, dDGet, dDGet2, dApp, dPopAt, dPart, dNoPart, dSlc, fSlc, insOf, dFld, dFldS, dCall, dMeth, dMk, mkEnd, dRevT, dNever, dBits, dDictT, dDict1, fSortD, fListD, sl, wipeD, seqOf, IsLst, getFD, putFD, fIx, List.set, List.length_cons, List.length_nil, List.cons.injEq, and_true, true_and, Nat.reduceAdd, reduceCtorEq, if_true, if_false, Bool.false_eq_true, ne_eq, not_false_eq_true, ite_true, ite_false, tab_last, cut_drop, List.dropLast_concat]
  rw [List.length_append, List.length_cons, List.length_nil] at htl
  by_cases h : t = []
  · rw [if_pos h] at hq
    rw [if_neg (by rw [h]; exact (by decide : ¬ (decide ((1 : Int) < ((1 : Nat) : Int)) = true)))]
    exact ⟨size_le (by decide), hq⟩
  · rw [if_neg h] at hq
    have h1 : 0 < t.length := List.length_pos_iff.mpr h
    rw [if_pos (decide_eq_true (by rw [List.length_append, List.length_map, List.length_cons, List.length_nil]; omega))]
    refine ⟨size_le (by decide), ?_, hq⟩
    rw [List.length_map]
    exact size_le (by omega)
theorem ev_oF6 (hw : w ≤ 8) (htl : (t ++ [last]).length ≤ 8) (hll : last.length = w) (hb : ∃ M : Nat, 0 < M ∧ M < 2 ^ 3400 ∧ ∀ q ∈ last, q.den ∣ M ∧ q.num.natAbs < 2 ^ 3400) : ∀ Q : DE, Q (.tup (t.map dRow ++ [.tup (last.map fun q => .tup [.int (q.num * 3), .int ((q.den : Int) * 3)])])) G →
    oF6 [some (.ref u), some (dTab (t ++ [last])), x3, x4, x5, x6, some (dRow last), x7, x8, x9, x10] G Q := by
  intro Q hq
  obtain ⟨M, hM, hM2, hbq⟩ := hb
  simp only [oF6, dTab, dRow, dVar, dC, dOp, dB, dAnd, dOr, dNot, dAndV, dOrV, dNotV, dIf, dNil, dCons, dTup, dLst, dLstT, fAdd, fSub, fDiv, fMod, fPow, fMul, fCmp, fLt, fLe, fGt, fGe, fEq, fNe, fIs, fIsNot, isNonD, dNeg, dCB, on1, fLen, fTup, fLstF, fLstT, fAbs, fInt, onI2, fGcd, fMax2, fMin2, fIsi, frzOf, dSq, dRng1, dRng2, dEnum, dZip, dKeys, dVals, dItems, onK, onS, onD, onB, onKs, onY, onI, onN, dctOf, keyOf, gNm, DL.gNil, DL.gCons, gTp, gSubL, gSubD, dNx, dSeq, dBk, dCt, dDrop, dRet, dRetN, dIfS, dAsg, dPar, dPar3, dFor, dWhile, dLc, dLc2, dDc, dItemsT, dDGet, dDGet2, dApp, dPopAt, dPart, dNoPart, dSlc, fSlc, insOf, dFld, dFldS, dCall, dMeth, dMk, mkEnd, dRevT, dNever, dBits, dDictT, dDict1, fSortD, fListD, sl, wipeD, seqOf, IsLst, getFD, putFD, fIx, List.set, List.length_cons, List.length_nil, List.cons.injEq, and_true, true_and, Nat.reduceAdd, reduceCtorEq, if_true, if_false, Bool.false_eq_true, ne_eq, not_false_eq_true, ite_true, ite_false]
  intro p hp
  refine lc_mapA (fun q : Rat => .tup [.int (q.num * 3), .int ((q.den : Int) * 3)]) (lt_size (by omega)) hp (fun q hq' G' C' _ hc' => ?_) ?_
  · simp only [dQ, dVar, dC, dOp, dB, dAnd, dOr, dNot, dAndV, dOrV, dNotV, dIf, dNil, dCons, dTup, dLst, dLstT, fAdd, fSub, fDiv, fMod, fPow, fMul, fCmp, fLt, fLe, fGt, fGe, fEq, fNe, fIs, fIsNot, isNonD, dNeg, dCB, on1, fLen, fTup, fLstF, fLstT, fAbs, fInt, onI2, fGcd, fMax2, fMin2, fIsi, frzOf, dSq, dRng1, dRng2, dEnum, dZip, dKeys, dVals, dItems, onK, onS, onD, onB, onKs, onY, onI, onN, dctOf, keyOf, gNm, DL.gNil, DL.gCons, gTp, gSubL, gSubD, dNx, dSeq, dBk, dCt, dDrop, dRet, dRetN, dIfS, dAsg, dPar, dPar3, dFor, dWhile, dLc, dLc2, dDc, dItemsT, dDGet, dDGet2, dApp, dPopAt, dPart, dNoPart, dSlc, fSlc, insOf, dFld, dFldS, dCall, dMeth, dMk, mkEnd, dRevT, dNever, dBits, dDictT, dDict1, fSortD, fListD, sl, wipeD, seqOf, IsLst, getFD, putFD, fIx, List.set, List.length_cons, List.length_nil, List.cons.injEq, and_true, true_and, Nat.reduceAdd, reduceCtorEq, if_true, if_false, Bool.false_eq_true, ne_eq, not_false_eq_true, ite_true, ite_false, at0, at1]
    obtain ⟨h1, h2⟩ := hbq q hq'
    have h3 : q.den < 2 ^ 3400 := Nat.lt_of_le_of_lt (Nat.le_of_dvd hM h1) hM2
    exact ⟨mul_ok (m := 2) h2 (by decide), mul_ok (m := 2) (cast_lt h3) (by decide), two_size, hc'⟩
  · simp only [tab_last, cut_init]
    refine ⟨size_le (by decide), ?_, hq⟩
    rw [List.length_append, List.length_cons, List.length_nil] at htl
    rw [List.length_map]
    exact size_le (by omega)
abbrev oH : DTE := dCB (on1 fTup) (dCons (dLc true (dZip (dOp fIx (dVar 1) (dC (.int 0))) (dOp fIx (dVar 1) (dNeg (dC (.int 1))))) (gTp 2 (DL.gCons (gNm 9) (DL.gCons (gNm 10) DL.gNil))) dYes (dCall 2 (S_law_plus) (dCons (dVar 9) (dCons (dVar 10) dNil))) [9, 10]) dNil)
abbrev oG2 : DTE := (dOp fAdd (dTup (dCons (dVar 7) dNil)) (dSlc (dVar 1) (dPart (dC (.int 1))) dNoPart))
theorem ev_oH {a : List Rat} (hal : a.length = w) (hw : w ≤ 8) (hb : Big (a :: (t ++ [last]))) : ∀ Q : DE, Q (dRow ((a.zip last).map fun p => p.1 + p.2)) G →
    oH [some (.ref u), some (dTab (a :: (t ++ [last]))), x3, x4, x5, x6, x7, x8, x9, none, none] G Q := by
  intro Q hq
  obtain ⟨M1, m1, m2, hb1⟩ := hb a (List.mem_cons_self ..)
  obtain ⟨M2, m3, m4, hb2⟩ := hb last (List.mem_cons_of_mem _ (List.mem_append_right _ (List.mem_cons_self ..)))
  have e1 : (a :: (t ++ [last])).map dRow = (dRow a :: t.map dRow) ++ [dRow last] := by rw [List.map_cons, tab_last]; rfl
  have e0 : atI (D.tup (a.map dQ) :: t.map dRow ++ [D.tup (last.map dQ)]) 0 = some (D.tup (a.map dQ)) := at0 _ _
  simp only [oH, dTab, dVar, dC, dOp, dB, dAnd, dOr, dNot, dAndV, dOrV, dNotV, dIf, dNil, dCons, dTup, dLst, dLstT, fAdd, fSub, fDiv, fMod, fPow, fMul, fCmp, fLt, fLe, fGt, fGe, fEq, fNe, fIs, fIsNot, isNonD, dNeg, dCB, on1, fLen, fTup, fLstF, fLstT, fAbs, fInt, onI2, fGcd, fMax2, fMin2, fIsi, frzOf, dSq, dRng1, dRng2, dEnum, dZip, dKeys, dVals, dItems, onK, onS, onD, onB, onKs, onY, onI, onN, dctOf, keyOf, gNm, DL.gNil, DL.gCons, gTp, gSubL, gSubD, dNx, dSeq, dBk, dCt, dDrop, dRet, dRetN, dIfS, dAsg, dPar, dPar3, dFor, dWhile, dLc, dLc2, dDc, dItemsT, dDGet, dDGet2, dApp, dPopAt, dPart, dNoPart, dSlc, fSlc, insOf, dFld, dFldS, dCall, dMeth, dMk, mkEnd, dRevT, dNever, dBits, dDictT, dDict1, fSortD, fListD, sl, wipeD, seqOf, IsLst, getFD, putFD, fIx, List.set, List.length_cons, List.length_nil, List.cons.injEq, and_true, true_and, Nat.reduceAdd, reduceCtorEq, if_true, if_false, Bool.false_eq_true, ne_eq, not_false_eq_true, ite_true, ite_false, e1, at_last, e0, dRow, zip_q]
  intro p hp
  refine lc_mapA (fun p : Rat × Rat => dQ (p.1 + p.2)) (lt_size (by rw [List.length_zip]; omega)) hp (fun q hq' G' C' _ hc' => ?_) ?_
  · obtain ⟨k1, k2⟩ := List.of_mem_zip hq'
    obtain ⟨h1, h2⟩ := hb1 _ k1
    obtain ⟨h5, h6⟩ := hb2 _ k2
    have h3 : q.1.den < 2 ^ 3400 := Nat.lt_of_le_of_lt (Nat.le_of_dvd m1 h1) m2
    have h4 : q.2.den < 2 ^ 3400 := Nat.lt_of_le_of_lt (Nat.le_of_dvd m3 h5) m4
    simp only [dVar, dC, dOp, dB, dAnd, dOr, dNot, dAndV, dOrV, dNotV, dIf, dNil, dCons, dTup, dLst, dLstT, fAdd, fSub, fDiv, fMod, fPow, fMul, fCmp, fLt, fLe, fGt, fGe, fEq, fNe, fIs, fIsNot, isNonD, dNeg, dCB, on1, fLen, fTup, fLstF, fLstT, fAbs, fInt, onI2, fGcd, fMax2, fMin2, fIsi, frzOf, dSq, dRng1, dRng2, dEnum, dZip, dKeys, dVals, dItems, onK, onS, onD, onB, onKs, onY, onI, onN, dctOf, keyOf, gNm, DL.gNil, DL.gCons, gTp, gSubL, gSubD, dNx, dSeq, dBk, dCt, dDrop, dRet, dRetN, dIfS, dAsg, dPar, dPar3, dFor, dWhile, dLc, dLc2, dDc, dItemsT, dDGet, dDGet2, dApp, dPopAt, dPart, dNoPart, dSlc, fSlc, insOf, dFld, dFldS, dCall, dMeth, dMk, mkEnd, dRevT, dNever, dBits, dDictT, dDict1, fSortD, fListD, sl, wipeD, seqOf, IsLst, getFD, putFD, fIx, List.set, List.length_cons, List.length_nil, List.cons.injEq, and_true, true_and, Nat.reduceAdd, reduceCtorEq, if_true, if_false, Bool.false_eq_true, ne_eq, not_false_eq_true, ite_true, ite_false]
    refine ⟨_, _, rfl, ⟨lt_up h2 (by decide), lt_up h3 (by decide)⟩, ⟨lt_up h6 (by decide), lt_up h4 (by decide)⟩, .inl ?_, hc'⟩
    have h7 : q.1.den * q.2.den < 2 ^ 3400 * 2 ^ 3400 := Nat.mul_lt_mul_of_lt_of_lt h3 h4
    rw [← Nat.pow_add] at h7
    exact lt_up h7 (by decide)
  · unfold dRow at hq
    rw [List.map_map] at hq
    exact hq
theorem ev_oG2 {a h : List Rat} (htl : (a :: t).length ≤ 8) : ∀ Q : DE, Q (dTab (h :: t)) G →
    oG2 [some (.ref u), some (dTab (a :: t)), x3, x4, x5, x6, x7, some (dRow h), x8, x9, x10] G Q := by
  intro Q hq
  simp only [oG2, dTab, dVar, dC, dOp, dB, dAnd, dOr, dNot, dAndV, dOrV, dNotV, dIf, dNil, dCons, dTup, dLst, dLstT, fAdd, fSub, fDiv, fMod, fPow, fMul, fCmp, fLt, fLe, fGt, fGe, fEq, fNe, fIs, fIsNot, isNonD, dNeg, dCB, on1, fLen, fTup, fLstF, fLstT, fAbs, fInt, onI2, fGcd, fMax2, fMin2, fIsi, frzOf, dSq, dRng1, dRng2, dEnum, dZip, dKeys, dVals, dItems, onK, onS, onD, onB, onKs, onY, onI, onN, dctOf, keyOf, gNm, DL.gNil, DL.gCons, gTp, gSubL, gSubD, dNx, dSeq, dBk, dCt, dDrop, dRet, dRetN, dIfS, dAsg, dPar, dPar3, dFor, dWhile, dLc, dLc2, dDc, dItemsT, dDGet, dDGet2, dApp, dPopAt, dPart, dNoPart, dSlc, fSlc, insOf, dFld, dFldS, dCall, dMeth, dMk, mkEnd, dRevT, dNever, dBits, dDictT, dDict1, fSortD, fListD, sl, wipeD, seqOf, IsLst, getFD, putFD, fIx, List.set, List.length_cons, List.length_nil, List.cons.injEq, and_true, true_and, Nat.reduceAdd, reduceCtorEq, if_true, if_false, Bool.false_eq_true, ne_eq, not_false_eq_true, ite_true, ite_false]
  have hl : ((a :: t).map dRow).length ≤ 1000 := by rw [List.length_map]; omega
  rw [cut1 _ hl]
  refine ⟨size_le (by decide), ?_, hq⟩
  rw [List.length_cons] at htl
  show 1 + (t.map dRow).length ≤ _
  rw [List.length_map]
  exact size_le (by omega)
end
end K43
set_option Elab.async false
set_option linter.all false
set_option maxRecDepth 100000
set_option maxHeartbeats 4000000
namespace K43
open PySem PySem.Spec PyProof.Rows L2 DL
section
variable {ρ : Dt} {G : GH}
theorem nil_ev : ∀ Q : List D → GH → Prop, Q [] G → dNil ρ G Q := fun _ h => h
theorem cons_ev {t : DTE} {u : DTA} {d : D} {ds : List D} (h : ∀ Q : DE, Q d G → t ρ G Q) (k : ∀ Q : List D → GH → Prop, Q ds G → u ρ G Q) : ∀ Q : List D → GH → Prop, Q (d :: ds) G → dCons t u ρ G Q := fun _ hq => h _ (k _ hq)
theorem lst_ev {es : DTA} {ds : List D} (h : ∀ Q : List D → GH → Prop, Q ds G → es ρ G Q) (hl : ds.length ≤ sizeLine) : ∀ Q : DE, Q (.lst ds) G → dLst es ρ G Q := fun _ hq => h _ ⟨hl, hq⟩
theorem add_ev {a b : DTE} {xs ds : List D} (h1 : ∀ Q : DE, Q (.lst xs) G → a ρ G Q) (h : ∀ Q : DE, Q (.lst ds) G → b ρ G Q) (hl : xs.length + ds.length ≤ sizeLine) : ∀ Q : DE, Q (.lst (xs ++ ds)) G → dOp fAdd a b ρ G Q := fun _ hq => h1 _ (h _ ⟨hl, hq⟩)
end
section
variable {u : Addr} {t : List (List Rat)} {last : List Rat} {w : Nat} {G : GH} {xs : List D} {x5 x3 x4 x6 x7 x8 x9 x10 : Option D} {Q : DE}
abbrev oTail : DTS := (dSeq (dIfS (dB (dOp fGt (dCB (on1 fLen) (dCons (dVar 1) dNil)) (dC (.int 1)))) (dSeq (dAsg oH (gNm 7)) (dAsg (dOp fAdd (dVar 5) (dLst (dCons (dRevT (dVar 1)) (dCons oG2 dNil)))) (gNm 5))) dNx) (dRet (dVar 5)))
theorem run_oTail (hw0 : 0 < w) (hw : w ≤ 8) (htl : t.length ≤ 8) (hc : Canon w t) (hb : Big t) (hxl : xs.length ≤ 20) (hx : ∀ x ∈ xs, OddT x) (hq : ∀ xs : List D, xs.length ≤ 100 → (∀ x ∈ xs, OddT x) → Q (.lst xs) G) :
    oTail (Ends1 Q) [some (.ref u), some (dTab t), x3, x4, x5, some (.lst xs), x6, x7, x8, none, none] G := by
  refine seq_if (decide (1 < t.length)) (fun Q' hq' => ?_) ?_
  · simp only [dTab, dVar, dC, dOp, dB, dAnd, dOr, dNot, dAndV, dOrV, dNotV, dIf, dNil, dCons, dTup, dLst, dLstT, fAdd, fSub, fDiv, fMod, fPow, fMul, fCmp, fLt, fLe, fGt, fGe, fEq, fNe, fIs, fIsNot, isNonD, dNeg, dCB, on1, fLen, fTup, fLstF, fLstT, fAbs, fInt, onI2, fGcd, fMax2, fMin2, fIsi, frzOf, dSq, dRng1, dRng2, dEnum, dZip, dKeys, dVals, dItems, onK, onS, onD, onB, onKs, onY, onI, onN, dctOf, keyOf, gNm, DL.gNil, DL.gCons, gTp, gSubL, gSubD, dNx, dSeq, dBk, dCt, dDrop, dRet, dRetN, dIfS, dAsg, dPar, dPar3, dFor, dWhile, dLc, dLc2, dDc, dItemsT, dDGet, dDGet2, dApp, dPopAt, dPart, dNoPart, dSlc, fSlc, insOf, dFld, dFldS, dCall, dMeth, dMk, mkEnd, dRevT, dNever, dBits, dDictT, dDict1, fSortD, fListD, sl, wipeD, seqOf, IsLst, getFD, putFD, fIx, List.set, List.length_cons, List.length_nil, List.cons.injEq, and_true, true_and, Nat.reduceAdd, reduceCtorEq, if_true, if_false, Bool.false_eq_true, ne_eq, not_false_eq_true, ite_true, ite_false, List.length_map]
    have e : (decide ((1 : Int) < (t.length : Int))) = decide (1 < t.length) := decide_eq_decide.mpr (by omega)
    rw [e]
    exact hq'
  · by_cases h2 : 1 < t.length
    · rw [if_pos (decide_eq_true h2)]
      have ht : ∃ a t2 last, t = a :: (t2 ++ [last]) := by
        cases t with
        | nil => rw [List.length_nil] at h2; omega
        | cons a r =>
          rcases List.eq_nil_or_concat r with e | ⟨t2, last, e⟩
          · rw [e, List.length_cons, List.length_nil] at h2; omega
          · exact ⟨a, t2, last, by rw [e, List.concat_eq_append]⟩
      obtain ⟨a, t2, last, rfl⟩ := ht
      have hal : a.length = w := hc.len a (List.mem_cons_self ..)
      refine seq_seq (seq_as (ev_oH hal hw hb) ?_)
      refine seq_as (d := .lst (xs ++ [dTab (a :: (t2 ++ [last])).reverse, dTab ((a.zip last).map (fun p => p.1 + p.2) :: (t2 ++ [last]))])) (add_ev (fun Q' h => h) (lst_ev (cons_ev (fun Q' h => ?_) (cons_ev (ev_oG2 htl) nil_ev)) (size_le (Nat.le_of_ble_eq_true rfl))) (by rw [List.length_cons, List.length_cons, List.length_nil]; exact size_le (by omega))) ?_
      · show Q' (.tup ((a :: (t2 ++ [last])).map dRow).reverse) G
        rw [← List.map_reverse]
        exact h
      · refine hq _ (by rw [List.length_append, List.length_cons, List.length_cons, List.length_nil]; omega) fun x hxm => ?_
        rcases List.mem_append.mp hxm with h | h
        · exact hx x h
        rcases List.mem_cons.mp h with rfl | h
        · exact oddG1 hw0 hw htl hc h2
        rw [List.mem_singleton.mp h]
        exact oddG2 hw0 hw htl hc
    · rw [if_neg (by rw [decide_eq_false h2]; decide)]
      exact hq xs (by omega) hx
end
theorem odd_leaf {x : D} (h1 : okn 8 x = true) (h2 : areRows x = false) : OddT x := ⟨h1, .inl h2⟩
theorem l_law_odd_tables {ds G Q} (h : S_law_odd_tables ds G Q) : r_law_odd_tables (Ends1 Q) (startD N_law_odd_tables ds) G := by
  obtain ⟨u, t, w, rfl, hw0, hw, htl, hc, hb, hq⟩ := h
  rw [show startD N_law_odd_tables [.ref u, dTab t, .int w] = [some (.ref u), some (dTab t), some (.int w), none, none, none, none, none, none, none, none] from rfl]
  have s2 : 2 ≤ sizeLine := two_size
  have six : ∀ x ∈ ([dTab (t ++ [List.replicate w 0]), .lst (t.map dRow), .non, .int 5, .tup [.tup []], .tup [.tup (List.replicate w [D.int 1]).flatten]] : List D), OddT x := by
    intro x hx
    rcases List.mem_cons.mp hx with rfl | hx
    · exact odd1 hw0 hw htl hc
    rcases List.mem_cons.mp hx with rfl | hx
    · exact odd2 hw htl hc
    rcases List.mem_cons.mp hx with rfl | hx
    · exact odd_leaf rfl rfl
    rcases List.mem_cons.mp hx with rfl | hx
    · exact odd_leaf rfl rfl
    rcases List.mem_cons.mp hx with rfl | hx
    · exact odd_leaf rfl rfl
    rcases List.mem_cons.mp hx with rfl | hx
    · exact odd6 hw0 hw
    cases hx
  refine seq_tp2 (x := dQ 0) (y := dQ 1) (fun Q' h => ⟨s2, s2, s2, h⟩) ?_
  refine seq_as (ev_oE hw0 hw htl) ?_
  refine seq_if (decide (t ≠ [])) (fun Q' hq' => ?_) ?_
  · simp only [dTab, dVar, dC, dOp, dB, dAnd, dOr, dNot, dAndV, dOrV, dNotV, dIf, dNil, dCons, dTup, dLst, dLstT, fAdd, fSub, fDiv, fMod, fPow, fMul, fCmp, fLt, fLe, fGt, fGe, fEq, fNe, fIs, fIsNot, isNonD, dNeg, dCB, on1, fLen, fTup, fLstF, fLstT, fAbs, fInt, onI2, fGcd, fMax2, fMin2, fIsi, frzOf, dSq, dRng1, dRng2, dEnum, dZip, dKeys, dVals, dItems, onK, onS, onD, onB, onKs, onY, onI, onN, dctOf, keyOf, gNm, DL.gNil, DL.gCons, gTp, gSubL, gSubD, dNx, dSeq, dBk, dCt, dDrop, dRet, dRetN, dIfS, dAsg, dPar, dPar3, dFor, dWhile, dLc, dLc2, dDc, dItemsT, dDGet, dDGet2, dApp, dPopAt, dPart, dNoPart, dSlc, fSlc, insOf, dFld, dFldS, dCall, dMeth, dMk, mkEnd, dRevT, dNever, dBits, dDictT, dDict1, fSortD, fListD, sl, wipeD, seqOf, IsLst, getFD, putFD, fIx, List.set, List.length_cons, List.length_nil, List.cons.injEq, and_true, true_and, Nat.reduceAdd, reduceCtorEq, if_true, if_false, Bool.false_eq_true, ne_eq, not_false_eq_true, ite_true, ite_false]
    refine ⟨Nat.zero_le _, by rw [okn_dok (show okn 60 (.tup (t.map dRow)) = true from okn_table (by omega) (fun r hr => by rw [hc.len r hr]; omega) 57)]; rfl, ?_⟩
    rw [deq_self_nil]
    have e : (!(t.map dRow).isEmpty) = decide (t ≠ []) := by cases t <;> rfl
    rw [e]
    exact hq'
  · by_cases hne : t = []
    · rw [if_neg (by rw [decide_eq_false (fun h => h hne)]; decide)]
      exact run_oTail hw0 hw htl hc hb (Nat.le_of_ble_eq_true rfl) six hq
    · rw [if_pos (decide_eq_true hne)]
      obtain ⟨t2, last, et⟩ := (List.eq_nil_or_concat t).resolve_left hne
      rw [List.concat_eq_append] at et
      subst et
      have hbl := hb last (List.mem_append_right _ (List.mem_cons_self ..))
      have hll := last_len hc
      refine seq_seq (seq_as (d := dRow last) (fun Q' h => ?_) ?_)
      · simp only [dTab, dVar, dC, dOp, dB, dAnd, dOr, dNot, dAndV, dOrV, dNotV, dIf, dNil, dCons, dTup, dLst, dLstT, fAdd, fSub, fDiv, fMod, fPow, fMul, fCmp, fLt, fLe, fGt, fGe, fEq, fNe, fIs, fIsNot, isNonD, dNeg, dCB, on1, fLen, fTup, fLstF, fLstT, fAbs, fInt, onI2, fGcd, fMax2, fMin2, fIsi, frzOf, dSq, dRng1, dRng2, dEnum, dZip, dKeys, dVals, dItems, onK, onS, onD, onB, onKs, onY, onI, onN, dctOf, keyOf, gNm, DL.gNil, DL.gCons, gTp, gSubL, gSubD, dNx, dSeq, dBk, dCt, dDrop, dRet, dRetN, dIfS, dAsg, dPar, dPar3, dFor, dWhile, dLc, dLc2, dDc, dItemsT, dDGet, dDGet2, dApp, dPopAt, dPart, dNoPart, dSlc, fSlc, insOf, dFld, dFldS, dCall, dMeth, dMk, mkEnd, dRevT, dNever, dBits, dDictT, dDict1, fSortD, fListD, sl, wipeD, seqOf, IsLst, getFD, putFD, fIx, List.set, List.length_cons, List.length_nil, List.cons.injEq, and_true, true_and, Nat.reduceAdd, reduceCtorEq, if_true, if_false, Bool.false_eq_true, ne_eq, not_false_eq_true, ite_true, ite_false, tab_last, at_last]
        exact h
      refine seq_as (add_ev (fun Q' h => h) (lst_ev (cons_ev (ev_oF1 hw htl) (cons_ev (ev_oF2 htl) (cons_ev (ev_oF3 hw htl hll hbl) (cons_ev (ev_oF4 htl) (cons_ev (ev_oF5 htl) (cons_ev (ev_oF6 hw htl hll hbl) nil_ev)))))) (size_le (Nat.le_of_ble_eq_true rfl))) (size_le (Nat.le_of_ble_eq_true rfl))) ?_
      refine run_oTail hw0 hw htl hc hb (Nat.le_of_ble_eq_true rfl) (fun x hx => ?_) hq
      rcases List.mem_append.mp hx with hx | hx
      · exact six x hx
      rcases List.mem_cons.mp hx with rfl | hx
      · exact oddF1 hw htl hc hne
      rcases List.mem_cons.mp hx with rfl | hx
      · exact oddF2 hw0 hw htl hc
      rcases List.mem_cons.mp hx with rfl | hx
      · exact oddF3 hw0 hw htl hc
      rcases List.mem_cons.mp hx with rfl | hx
      · exact oddF4 hw htl hc
      rcases List.mem_cons.mp hx with rfl | hx
      · by_cases h : t2 = []
        · rw [if_pos h]
          exact oddF5b hw hc
        · rw [if_neg h]
          exact oddF5 hw0 hw htl hc h
      rcases List.mem_cons.mp hx with rfl | hx
      · exact oddF6 hw0 hw htl hc
      cases hx
end K43
set_option Elab.async false
set_option linter.all false
set_option maxRecDepth 100000
set_option maxHeartbeats 4000000
namespace K43
open PySem PySem.Spec PyProof.Rows L2 DL
theorem deq_cons (x y : D) (xs ys : List D) : deq (.tup (x :: xs)) (.tup (y :: ys)) = (deq x y && deq (.tup xs) (.tup ys)) := by
  unfold deq
  simp only [toP, toPs, PyData.eqv, PyData.eqvAll]
theorem deq_nc (y : D) (ys : List D) : deq (.tup []) (.tup (y :: ys)) = false := by
  unfold deq
  simp only [toP, toPs, PyData.eqv, PyData.eqvAll]
theorem deq_cn (y : D) (ys : List D) : deq (.tup (y :: ys)) (.tup []) = false := by
  unfold deq
  simp only [toP, toPs, PyData.eqv, PyData.eqvAll]
theorem deq_map {α : Type} [DecidableEq α] {f : α → D} (h : ∀ a b, deq (f a) (f b) = decide (a = b)) : ∀ as bs : List α, deq (.tup (as.map f)) (.tup (bs.map f)) = decide (as = bs)
  | [], [] => rfl
  | [], b :: bs => by rw [List.map_cons]; exact (deq_nc _ _).trans (decide_eq_false (by simp)).symm
  | a :: as, [] => by rw [List.map_cons]; exact (deq_cn _ _).trans (decide_eq_false (by simp)).symm
  | a :: as, b :: bs => by
    rw [List.map_cons, List.map_cons, deq_cons, h, deq_map h as bs, ← Bool.decide_and]
    exact decide_eq_decide.mpr (by rw [List.cons.injEq])
theorem deq_q (a b : Rat) : deq (dQ a) (dQ b) = decide (a = b) := by
  unfold dQ
  rw [deq_pair, ← Bool.decide_and]
  refine decide_eq_decide.mpr ⟨fun ⟨h1, h2⟩ => Rat.ext h1 (by omega), fun h => by rw [h]; exact ⟨rfl, rfl⟩⟩
theorem deq_row (a b : List Rat) : deq (dRow a) (dRow b) = decide (a = b) := deq_map deq_q a b
theorem deq_tab (a b : List (List Rat)) : deq (dTab a) (dTab b) = decide (a = b) := deq_map deq_row a b
theorem tupn_mk {ds : List D} {n : Nat} (h : ds.length ≤ 1000) (h2 : ∀ x ∈ ds, tupn n x = true) : tupn (n + 1) (.tup ds) = true := by
  show (decide (ds.length ≤ 1000) && ds.all (tupn n)) = true
  rw [decide_eq_true h, Bool.true_and]
  exact List.all_eq_true.mpr h2
theorem tupn_tab {t : List (List Rat)} (h : t.length ≤ 1000) (h2 : ∀ r ∈ t, r.length ≤ 1000) : tupn 3 (dTab t) = true := by
  refine tupn_mk (by rw [List.length_map]; exact h) fun x hx => ?_
  obtain ⟨r, hr, rfl⟩ := List.mem_map.mp hx
  refine tupn_mk (by rw [List.length_map]; exact h2 r hr) fun y hy => ?_
  obtain ⟨q, _, rfl⟩ := List.mem_map.mp hy
  rfl
theorem canon_few {w : Nat} {t : List (List Rat)} (h : Canon w t) : t.length ≤ w := by
  have := few_nat w (t.map ld) (List.Pairwise.imp (fun h => Nat.ne_of_lt h) h.up) (fun x hx => by
    obtain ⟨r, hr, rfl⟩ := List.mem_map.mp hx
    have := leadQ_lt (h.at_ld hr).1
    rw [h.len r hr] at this
    exact this)
  rwa [List.length_map] at this
section
variable {u : Addr} {w : Nat} {G : GH} {rows due : List (List Rat)} {x0 x1 x2 x3 x4 x5 x6 : Option D}
theorem table_due (hw0 : 0 < w) (hw : w ≤ 8) {rows' : List (List Rat)} {Q : DE} (hr : RowsOk rows') (hl : ∀ r ∈ rows', r.length = w) (hc : Canon w due) (hs : Same (inRows rows') (inRows due)) (hq : ∀ G', Ext G G' → Q (dTab due) G') : S_table [dTab rows'] G Q := by
  refine ⟨rows', rfl, hr, fun t G' he hi _ => ?_⟩
  have h := hi w hl
  rw [canon_unique h.1 hc (h.2.symm.trans hs)]
  exact hq G' he
theorem istab_due (hw0 : 0 < w) (hw : w ≤ 8) (hrl : rows.length ≤ 1000) (hl : ∀ r ∈ rows, r.length = w) {Q : DE} (hq : Q (.bl (isTabQ rows)) G) : S_is_table [dTab rows] G Q :=
  ⟨_, rfl, okn_table hrl (fun r hr => by rw [hl r hr]; omega) 5, .inr ⟨rows, w, rfl, hw0, by omega, hl, hq⟩⟩
abbrev rW : DTE := dOp fAdd (dC (.int 1)) (dCall 2 (S_law_ball) (dCons (dVar 0) (dCons (dC (.int 8)) dNil)))
abbrev rR : DTE := dCB (on1 fTup) (dCons (dLc true (dRng1 (dCall 2 (S_law_ball) (dCons (dVar 0) (dCons (dC (.int 9)) dNil)))) (gNm 5) dYes (dCall 2 (S_law_any_row) (dCons (dVar 0) (dCons (dVar 2) dNil))) [5]) dNil)
abbrev rC1 : DTT := (dNot (dB (dCall 2 (S_law_equals 5) (dCons (dTup (dCons (dIf (dB (dOp fEq (dCall 2 (S_law_ball) (dCons (dVar 0) (dCons (dC (.int 2)) dNil))) (dC (.int 0)))) (dCall 1 (S_table) (dCons (dVar 3) dNil)) (dCall 1 (S_table) (dCons (dVar 3) dNil))) (dCons (dCall 1 (S_table) (dCons (dCall 3 (S_law_mixed_rows) (dCons (dVar 0) (dCons (dVar 3) (dCons (dVar 2) dNil)))) dNil)) (dCons (dCall 1 (S_table) (dCons (dVar 4) dNil)) dNil)))) (dCons (dTup (dCons (dVar 4) (dCons (dVar 4) (dCons (dVar 4) dNil)))) dNil)))))
abbrev rC2 : DTT := (dOr (dB (dOp fIsNot (dCall 1 (S_is_table) (dCons (dVar 4) dNil)) (dC (.bl true)))) (dOr (dB (dOp fIsNot (dCall 1 (S_is_table) (dCons (dVar 4) dNil)) (dC (.bl true)))) (dB (dOp fNe (dLc true (dSq (dCall 3 (S_law_odd_tables) (dCons (dVar 0) (dCons (dVar 4) (dCons (dVar 2) dNil))))) (gNm 6) (dB (dOp fIsNot (dCall 1 (S_is_table) (dCons (dVar 6) dNil)) (dC (.bl false)))) (dC (.int 1)) [6]) (dLst dNil)))))
abbrev rC3 : DTT := (dNot (dB (dCall 2 (S_law_equals 5) (dCons (dCall 1 (S_is_table) (dCons (dVar 3) dNil)) (dCons (dOp fEq (dVar 3) (dVar 4)) dNil)))))
theorem ev_rW (hu : UrnOk G u) {Q : DE} (hq : ∀ (w : Nat) G', 0 < w → w ≤ 8 → ExtU u G G' → Q (.int (w : Int)) G') : rW [some (.ref u), x1, x2, x3, x4, x5, x6] G Q := by
  simp only [rW, dVar, dC, dOp, dB, dAnd, dOr, dNot, dAndV, dOrV, dNotV, dIf, dNil, dCons, dTup, dLst, dLstT, fAdd, fSub, fDiv, fMod, fPow, fMul, fCmp, fLt, fLe, fGt, fGe, fEq, fNe, fIs, fIsNot, isNonD, dNeg, dCB, on1, fLen, fTup, fLstF, fLstT, fAbs, fInt, onI2, fGcd, fMax2, fMin2, fIsi, frzOf, dSq, dRng1, dRng2, dEnum, dZip, dKeys, dVals, dItems, onK, onS, onD, onB, onKs, onY, onI, onN, dctOf, keyOf, gNm, DL.gNil, DL.gCons, gTp, gSubL, gSubD, dNx, dSeq, dBk, dCt, dDrop, dRet, dRetN, dIfS, dAsg, dPar, dPar3, dFor, dWhile, dLc, dLc2, dDc, dItemsT, dDGet, dDGet2, dApp, dPopAt, dPart, dNoPart, dSlc, fSlc, insOf, dFld, dFldS, dCall, dMeth, dMk, mkEnd, dRevT, dNever, dBits, dDictT, dDict1, fSortD, fListD, sl, wipeD, seqOf, IsLst, getFD, putFD, fIx, List.set, List.length_cons, List.length_nil, List.cons.injEq, and_true, true_and, Nat.reduceAdd, reduceCtorEq, if_true, if_false, Bool.false_eq_true, ne_eq, not_false_eq_true, ite_true, ite_false]
  refine ⟨u, 8, rfl, hu, by decide, by decide, fun k G' k0 k1 hE => ?_⟩
  show Q (.int (1 + k)) G'
  have e : (1 + k) = (((1 + k).toNat : Nat) : Int) := by omega
  rw [e]
  exact hq _ _ (by omega) (by omega) hE
theorem ev_rR (hu : UrnOk G u) (hw0 : 0 < w) (hw : w ≤ 8) {Q : DE} (hq : ∀ (rows : List (List Rat)) G', rows.length ≤ 8 → (∀ r ∈ rows, RowAny w r) → ExtU u G G' → Q (dTab rows) G') : rR [some (.ref u), x1, some (.int (w : Int)), x3, x4, x5, x6] G Q := by
  simp only [rR, dVar, dC, dOp, dB, dAnd, dOr, dNot, dAndV, dOrV, dNotV, dIf, dNil, dCons, dTup, dLst, dLstT, fAdd, fSub, fDiv, fMod, fPow, fMul, fCmp, fLt, fLe, fGt, fGe, fEq, fNe, fIs, fIsNot, isNonD, dNeg, dCB, on1, fLen, fTup, fLstF, fLstT, fAbs, fInt, onI2, fGcd, fMax2, fMin2, fIsi, frzOf, dSq, dRng1, dRng2, dEnum, dZip, dKeys, dVals, dItems, onK, onS, onD, onB, onKs, onY, onI, onN, dctOf, keyOf, gNm, DL.gNil, DL.gCons, gTp, gSubL, gSubD, dNx, dSeq, dBk, dCt, dDrop, dRet, dRetN, dIfS, dAsg, dPar, dPar3, dFor, dWhile, dLc, dLc2, dDc, dItemsT, dDGet, dDGet2, dApp, dPopAt, dPart, dNoPart, dSlc, fSlc, insOf, dFld, dFldS, dCall, dMeth, dMk, mkEnd, dRevT, dNever, dBits, dDictT, dDict1, fSortD, fListD, sl, wipeD, seqOf, IsLst, getFD, putFD, fIx, List.set, List.length_cons, List.length_nil, List.cons.injEq, and_true, true_and, Nat.reduceAdd, reduceCtorEq, if_true, if_false, Bool.false_eq_true, ne_eq, not_false_eq_true, ite_true, ite_false]
  refine ⟨u, 9, rfl, hu, by decide, by decide, fun k G1 k0 k1 hE => ⟨by omega, fun p hp => ?_⟩⟩
  refine lcU (u := u) (fun y => ∃ r : List Rat, y = dRow r ∧ RowAny w r) (by rw [rngD_len, sizeLine_eq]; omega) hp hE.1 (fun x hx G' C hE2 hc => ?_) fun ys G' hl hP hE2 => ?_
  · simp only [dVar, dC, dOp, dB, dAnd, dOr, dNot, dAndV, dOrV, dNotV, dIf, dNil, dCons, dTup, dLst, dLstT, fAdd, fSub, fDiv, fMod, fPow, fMul, fCmp, fLt, fLe, fGt, fGe, fEq, fNe, fIs, fIsNot, isNonD, dNeg, dCB, on1, fLen, fTup, fLstF, fLstT, fAbs, fInt, onI2, fGcd, fMax2, fMin2, fIsi, frzOf, dSq, dRng1, dRng2, dEnum, dZip, dKeys, dVals, dItems, onK, onS, onD, onB, onKs, onY, onI, onN, dctOf, keyOf, gNm, DL.gNil, DL.gCons, gTp, gSubL, gSubD, dNx, dSeq, dBk, dCt, dDrop, dRet, dRetN, dIfS, dAsg, dPar, dPar3, dFor, dWhile, dLc, dLc2, dDc, dItemsT, dDGet, dDGet2, dApp, dPopAt, dPart, dNoPart, dSlc, fSlc, insOf, dFld, dFldS, dCall, dMeth, dMk, mkEnd, dRevT, dNever, dBits, dDictT, dDict1, fSortD, fListD, sl, wipeD, seqOf, IsLst, getFD, putFD, fIx, List.set, List.length_cons, List.length_nil, List.cons.injEq, and_true, true_and, Nat.reduceAdd, reduceCtorEq, if_true, if_false, Bool.false_eq_true, ne_eq, not_false_eq_true, ite_true, ite_false]
    exact ⟨u, w, rfl, hE2.1, hw0, hw, fun r G2 hr hE3 => hc _ _ ⟨r, rfl, hr⟩ hE3⟩
  · obtain ⟨l, rfl, hl2⟩ := lift_all hP
    refine hq l G' ?_ hl2 (hE.trans hE2)
    rw [List.length_map, rngD_len] at hl
    omega
theorem rows_ok (hw0 : 0 < w) (hw : w ≤ 8) (hrl : rows.length ≤ 20) (h : ∀ r ∈ rows, RowOk w r) : RowsOk rows := ⟨hrl, w, hw0, hw, .inl h⟩
theorem ev_rT {Q : DE} (h : S_law_table [dTab rows] G Q) : dCall 1 (S_law_table) (dCons (dVar 3) dNil) [x0, x1, x2, some (dTab rows), x4, x5, x6] G Q := by
  simp only [dVar, dC, dOp, dB, dAnd, dOr, dNot, dAndV, dOrV, dNotV, dIf, dNil, dCons, dTup, dLst, dLstT, fAdd, fSub, fDiv, fMod, fPow, fMul, fCmp, fLt, fLe, fGt, fGe, fEq, fNe, fIs, fIsNot, isNonD, dNeg, dCB, on1, fLen, fTup, fLstF, fLstT, fAbs, fInt, onI2, fGcd, fMax2, fMin2, fIsi, frzOf, dSq, dRng1, dRng2, dEnum, dZip, dKeys, dVals, dItems, onK, onS, onD, onB, onKs, onY, onI, onN, dctOf, keyOf, gNm, DL.gNil, DL.gCons, gTp, gSubL, gSubD, dNx, dSeq, dBk, dCt, dDrop, dRet, dRetN, dIfS, dAsg, dPar, dPar3, dFor, dWhile, dLc, dLc2, dDc, dItemsT, dDGet, dDGet2, dApp, dPopAt, dPart, dNoPart, dSlc, fSlc, insOf, dFld, dFldS, dCall, dMeth, dMk, mkEnd, dRevT, dNever, dBits, dDictT, dDict1, fSortD, fListD, sl, wipeD, seqOf, IsLst, getFD, putFD, fIx, List.set, List.length_cons, List.length_nil, List.cons.injEq, and_true, true_and, Nat.reduceAdd, reduceCtorEq, if_true, if_false, Bool.false_eq_true, ne_eq, not_false_eq_true, ite_true, ite_false]
  exact h
theorem ev_rC1 (hu : UrnOk G u) (hw0 : 0 < w) (hw : w ≤ 8) (hrl : rows.length ≤ 8) (hr : ∀ r ∈ rows, RowAny w r) (hd : IsRref w rows due) (hb : Big due) {Q : Bool → GH → Prop} (hq : ∀ G', ExtU u G G' → Q false G') :
    rC1 [some (.ref u), x1, some (.int (w : Int)), some (dTab rows), some (dTab due), x5, x6] G Q := by
  obtain ⟨hc, hs⟩ := hd
  have hlr : ∀ r ∈ rows, r.length = w := fun r h => (hr r h).1
  have hok : RowsOk rows := rows_ok hw0 hw (by omega) fun r h => any_ok (hr r h)
  have hfew := canon_few hc
  have hokd : RowsOk due := ⟨by omega, w, hw0, hw, .inr ⟨hc, hb⟩⟩
  have htn : tupn 3 (dTab due) = true := tupn_tab (by omega) fun r h => by rw [hc.len r h]; omega
  have htn3 : tupn 4 (.tup [dTab due, dTab due, dTab due]) = true := tupn_mk (Nat.le_of_ble_eq_true rfl) fun x hx => by
    rcases List.mem_cons.mp hx with rfl | hx
    · exact htn
    rcases List.mem_cons.mp hx with rfl | hx
    · exact htn
    rcases List.mem_cons.mp hx with rfl | hx
    · exact htn
    cases hx
  have s3 : 3 ≤ sizeLine := size_le (by decide)
  simp only [rC1, dVar, dC, dOp, dB, dAnd, dOr, dNot, dAndV, dOrV, dNotV, dIf, dNil, dCons, dTup, dLst, dLstT, fAdd, fSub, fDiv, fMod, fPow, fMul, fCmp, fLt, fLe, fGt, fGe, fEq, fNe, fIs, fIsNot, isNonD, dNeg, dCB, on1, fLen, fTup, fLstF, fLstT, fAbs, fInt, onI2, fGcd, fMax2, fMin2, fIsi, frzOf, dSq, dRng1, dRng2, dEnum, dZip, dKeys, dVals, dItems, onK, onS, onD, onB, onKs, onY, onI, onN, dctOf, keyOf, gNm, DL.gNil, DL.gCons, gTp, gSubL, gSubD, dNx, dSeq, dBk, dCt, dDrop, dRet, dRetN, dIfS, dAsg, dPar, dPar3, dFor, dWhile, dLc, dLc2, dDc, dItemsT, dDGet, dDGet2, dApp, dPopAt, dPart, dNoPart, dSlc, fSlc, insOf, dFld, dFldS, dCall, dMeth, dMk, mkEnd, dRevT, dNever, dBits, dDictT, dDict1, fSortD, fListD, sl, wipeD, seqOf, IsLst, getFD, putFD, fIx, List.set, List.length_cons, List.length_nil, List.cons.injEq, and_true, true_and, Nat.reduceAdd, reduceCtorEq, if_true, if_false, Bool.false_eq_true, ne_eq, not_false_eq_true, ite_true, ite_false]
  refine ⟨u, 2, rfl, hu, by decide, by decide, fun k G1 k0 k1 hE => ⟨rfl, ?_⟩⟩
  have main : ∀ {Q2 : Bool → GH → Prop}, (∀ G', ExtU u G1 G' → Q2 false G') → S_table [dTab rows] G1 fun d G2 => S_law_mixed_rows [.ref u, dTab rows, .int (w : Int)] G2 fun d_1 G2 => S_table [d_1] G2 fun d_2 G2 => S_table [dTab due] G2 fun d_3 G2 => 3 ≤ sizeLine ∧ 3 ≤ sizeLine ∧
      S_law_equals 5 [.tup [d, d_2, d_3], .tup [dTab due, dTab due, dTab due]] G2 fun d G1 => match (match d with | .bl b => some b | _ => none) with | some d => Q2 (!d) G1 | none => False := by
    intro Q2 hq2
    refine table_due hw0 hw hok hlr hc hs fun G2 he2 => ?_
    have hE2 := Ext.urn hE.1 he2
    refine ⟨u, rows, w, rfl, hE2.1, hw0, hw, hrl, hr, fun rows' G3 hE3 hr' hl' hs' => ?_⟩
    refine table_due hw0 hw (rows_ok hw0 hw (by omega) hr') (fun r h => (hr' r h).1) hc (hs'.trans hs) fun G4 he4 => ?_
    have hE4 := (hE2.trans hE3).ext he4
    refine table_due hw0 hw hokd hc.len hc (fun v => Iff.rfl) fun G5 he5 => ⟨s3, s3, ?_⟩
    refine ⟨_, _, rfl, htn3, htn3, fun c hc' => ?_⟩
    rw [hc'.mpr rfl]
    exact hq2 G5 (hE4.ext he5)
  split
  · exact main fun G' h => hq G' (hE.trans h)
  · exact main fun G' h => hq G' (hE.trans h)
theorem ev_rC2 (hu : UrnOk G u) (hw0 : 0 < w) (hw : w ≤ 8) (hc : Canon w due) (hb : Big due) {Q : Bool → GH → Prop} (hq : Q false G) :
    rC2 [some (.ref u), x1, some (.int (w : Int)), x3, some (dTab due), x5, x6] G Q := by
  have hfew := canon_few hc
  have ht : isTabQ due = true := (istab_canon hc.len).mpr hc
  simp only [rC2, dVar, dC, dOp, dB, dAnd, dOr, dNot, dAndV, dOrV, dNotV, dIf, dNil, dCons, dTup, dLst, dLstT, fAdd, fSub, fDiv, fMod, fPow, fMul, fCmp, fLt, fLe, fGt, fGe, fEq, fNe, fIs, fIsNot, isNonD, dNeg, dCB, on1, fLen, fTup, fLstF, fLstT, fAbs, fInt, onI2, fGcd, fMax2, fMin2, fIsi, frzOf, dSq, dRng1, dRng2, dEnum, dZip, dKeys, dVals, dItems, onK, onS, onD, onB, onKs, onY, onI, onN, dctOf, keyOf, gNm, DL.gNil, DL.gCons, gTp, gSubL, gSubD, dNx, dSeq, dBk, dCt, dDrop, dRet, dRetN, dIfS, dAsg, dPar, dPar3, dFor, dWhile, dLc, dLc2, dDc, dItemsT, dDGet, dDGet2, dApp, dPopAt, dPart, dNoPart, dSlc, fSlc, insOf, dFld, dFldS, dCall, dMeth, dMk, mkEnd, dRevT, dNever, dBits, dDictT, dDict1, fSortD, fListD, sl, wipeD, seqOf, IsLst, getFD, putFD, fIx, List.set, List.length_cons, List.length_nil, List.cons.injEq, and_true, true_and, Nat.reduceAdd, reduceCtorEq, if_true, if_false, Bool.false_eq_true, ne_eq, not_false_eq_true, ite_true, ite_false]
  refine istab_due hw0 hw (by omega) hc.len ?_
  rw [ht]
  simp only [decide_true, Bool.not_true, Bool.false_eq_true, if_false, ite_false]
  refine istab_due hw0 hw (by omega) hc.len ?_
  rw [ht]
  simp only [decide_true, Bool.not_true, Bool.false_eq_true, if_false, ite_false]
  refine ⟨u, due, w, rfl, hw0, hw, by omega, hc, hb, fun xs hxl hx => ?_⟩
  intro p hp
  refine lc_fm (fun _ => false) (fun _ => .int 1) (size_le hxl) hp (fun x hxm G' K1 K0 he hk => ?_) ?_
  · simp only [dVar, dC, dOp, dB, dAnd, dOr, dNot, dAndV, dOrV, dNotV, dIf, dNil, dCons, dTup, dLst, dLstT, fAdd, fSub, fDiv, fMod, fPow, fMul, fCmp, fLt, fLe, fGt, fGe, fEq, fNe, fIs, fIsNot, isNonD, dNeg, dCB, on1, fLen, fTup, fLstF, fLstT, fAbs, fInt, onI2, fGcd, fMax2, fMin2, fIsi, frzOf, dSq, dRng1, dRng2, dEnum, dZip, dKeys, dVals, dItems, onK, onS, onD, onB, onKs, onY, onI, onN, dctOf, keyOf, gNm, DL.gNil, DL.gCons, gTp, gSubL, gSubD, dNx, dSeq, dBk, dCt, dDrop, dRet, dRetN, dIfS, dAsg, dPar, dPar3, dFor, dWhile, dLc, dLc2, dDc, dItemsT, dDGet, dDGet2, dApp, dPopAt, dPart, dNoPart, dSlc, fSlc, insOf, dFld, dFldS, dCall, dMeth, dMk, mkEnd, dRevT, dNever, dBits, dDictT, dDict1, fSortD, fListD, sl, wipeD, seqOf, IsLst, getFD, putFD, fIx, List.set, List.length_cons, List.length_nil, List.cons.injEq, and_true, true_and, Nat.reduceAdd, reduceCtorEq, if_true, if_false, Bool.false_eq_true, ne_eq, not_false_eq_true, ite_true, ite_false]
    obtain ⟨ho, hor⟩ := hx x hxm
    refine ⟨x, rfl, ho, ?_⟩
    rcases hor with h | ⟨t, w', h1, h2, h3, h4, h5⟩
    · exact .inl ⟨h, hk⟩
    · refine .inr ⟨t, w', h1, h2, h3, h4, ?_⟩
      rw [h5]
      exact hk
  · have e : xs.filter (fun _ => false) = [] := List.filter_eq_nil_iff.mpr fun _ _ => by decide
    rw [e]
    exact ⟨Nat.zero_le _, rfl, hq⟩
theorem ev_rC3 (hw0 : 0 < w) (hw : w ≤ 8) (hrl : rows.length ≤ 8) (hl : ∀ r ∈ rows, r.length = w) (hd : IsRref w rows due) {Q : Bool → GH → Prop} (hq : Q false G) :
    rC3 [x0, x1, x2, some (dTab rows), some (dTab due), x5, x6] G Q := by
  obtain ⟨hc, hs⟩ := hd
  have hfew := canon_few hc
  simp only [rC3, dVar, dC, dOp, dB, dAnd, dOr, dNot, dAndV, dOrV, dNotV, dIf, dNil, dCons, dTup, dLst, dLstT, fAdd, fSub, fDiv, fMod, fPow, fMul, fCmp, fLt, fLe, fGt, fGe, fEq, fNe, fIs, fIsNot, isNonD, dNeg, dCB, on1, fLen, fTup, fLstF, fLstT, fAbs, fInt, onI2, fGcd, fMax2, fMin2, fIsi, frzOf, dSq, dRng1, dRng2, dEnum, dZip, dKeys, dVals, dItems, onK, onS, onD, onB, onKs, onY, onI, onN, dctOf, keyOf, gNm, DL.gNil, DL.gCons, gTp, gSubL, gSubD, dNx, dSeq, dBk, dCt, dDrop, dRet, dRetN, dIfS, dAsg, dPar, dPar3, dFor, dWhile, dLc, dLc2, dDc, dItemsT, dDGet, dDGet2, dApp, dPopAt, dPart, dNoPart, dSlc, fSlc, insOf, dFld, dFldS, dCall, dMeth, dMk, mkEnd, dRevT, dNever, dBits, dDictT, dDict1, fSortD, fListD, sl, wipeD, seqOf, IsLst, getFD, putFD, fIx, List.set, List.length_cons, List.length_nil, List.cons.injEq, and_true, true_and, Nat.reduceAdd, reduceCtorEq, if_true, if_false, Bool.false_eq_true, ne_eq, not_false_eq_true, ite_true, ite_false]
  refine istab_due hw0 hw (by omega) hl ⟨?_, ?_⟩
  · rw [okn_dok (show okn 60 (dTab rows) = true from okn_table (by omega) (fun r hr => by rw [hl r hr]; omega) 57), okn_dok (show okn 60 (dTab due) = true from okn_table (by omega) (fun r hr => by rw [hc.len r hr]; omega) 57)]
    rfl
  · refine ⟨_, _, rfl, rfl, rfl, fun c hc' => ?_⟩
    have e : isTabQ rows = deq (dTab rows) (dTab due) := by
      rw [deq_tab, Bool.eq_iff_iff, istab_canon hl, decide_eq_true_eq]
      constructor
      · intro h
        exact canon_unique h hc hs
      · intro h
        rw [h]
        exact hc
    rw [e] at hc'
    rw [hc'.mpr rfl]
    exact hq
end
theorem seq_C {t : DTE} {i : Nat} {s : DTS} {E : DEnds} {ρ : Dt} {G : GH} (h : t ρ G fun d G1 => s E (ρ.set i (some d)) G1) : dSeq (dAsg t (gNm i)) s E ρ G := h
theorem if_C {c : DTT} {A B s : DTS} {E : DEnds} {ρ : Dt} {G : GH} (h : c ρ G fun b G1 => if b = true then dSeq A s E ρ G1 else dSeq B s E ρ G1) : dSeq (dIfS c A B) s E ρ G := h
theorem one_if {c : DTT} {A B : DTS} {E : DEnds} {ρ : Dt} {G : GH} (h : c ρ G fun b G1 => if b = true then A E ρ G1 else B E ρ G1) : dIfS c A B E ρ G := h
theorem seq_for {t : DTA} {g : DTG} {b s : DTS} {E : DEnds} {ρ : Dt} {G : GH} (h : t ρ G fun xs G1 => forGo g b { E with nx := s E } xs ρ G1) : dSeq (dFor t g b) s E ρ G := h
theorem l_law_right {ds G Q} (h : S_law_right ds G Q) : r_law_right (Ends1 Q) (startD N_law_right ds) G := by
  obtain ⟨u, rfl, hu, hq⟩ := h
  rw [show startD N_law_right [.ref u] = [some (.ref u), none, none, none, none, none, none] from rfl]
  refine seq_for ⟨by decide, ?_⟩
  refine for_run (fun rest ρ G' => (∃ x1 x2 x3 x4 x5 x6, ρ = [some (.ref u), x1, x2, x3, x4, x5, x6]) ∧ UrnOk G' u) ?_ ?_ _ _ _ ⟨⟨_, _, _, _, _, _, rfl⟩, hu⟩
  · rintro ρ G' ⟨_, _⟩
    exact hq G'
  · rintro x rest ρ G1 C ⟨⟨x1, x2, x3, x4, x5, x6, rfl⟩, hu1⟩ hC
    refine seq_C (ev_rW hu1 fun w G2 hw0 hw hE2 => ?_)
    refine seq_C (ev_rR hE2.1 hw0 hw fun rows G3 hrl hr hE3 => ?_)
    have hl : ∀ r ∈ rows, r.length = w := fun r h => (hr r h).1
    refine seq_C (ev_rT ⟨rows, w, rfl, hw0, hw, by omega, (fun r h => any_ok (hr r h)), fun due G4 he4 hd hb => ?_⟩)
    have hE4 := Ext.urn hE3.1 he4
    refine if_C (ev_rC1 hE4.1 hw0 hw hrl hr hd hb fun G5 hE5 => ?_)
    refine if_C (ev_rC2 hE5.1 hw0 hw hd.1 hb ?_)
    refine seq_nx (one_if (ev_rC3 hw0 hw hrl hl hd ?_))
    exact hC _ _ ⟨⟨_, _, _, _, _, _, rfl⟩, hE5.1⟩
end K43
set_option Elab.async false
set_option linter.all false
set_option maxRecDepth 100000
set_option maxHeartbeats 4000000
namespace K43
open PySem PySem.Spec PyProof.Rows L2 DL
section
variable {G : GH} {Q : DE}
theorem call_t1 (hq : ∀ G', Ext G G' → Q (.tup []) G') : S_table [.tup []] G Q :=
  table_due (w := 1) (rows' := []) (due := []) (by decide) (by decide) ⟨by decide, 1, by decide, by decide, .inl fun r h => nomatch h⟩ (fun r h => nomatch h) (canon_nil 1) (fun v => Iff.rfl) hq
theorem vec_zz (i : Nat) : vecQ [0, 0] i = 0 := by
  match i with
  | 0 => rfl
  | 1 => rfl
  | n + 2 => rfl
theorem call_t2 (hq : ∀ G', Ext G G' → Q (.tup []) G') : S_table [.tup [.tup [.tup [.int 0, .int 1], .tup [.int 0, .int 1]]]] G Q := by
  refine table_due (w := 2) (rows' := [[0, 0]]) (due := []) (by decide) (by decide) ⟨by decide, 2, by decide, by decide, .inl fun r h => ?_⟩ (fun r h => ?_) (canon_nil 2) (Same.of (fun v h => ?_) fun v h => ?_) hq
  · rw [List.mem_singleton.mp h]
    exact ⟨rfl, 1, by decide, by decide, by decide⟩
  · rw [List.mem_singleton.mp h]; rfl
  · obtain ⟨r, hr, rfl⟩ := h
    rw [List.mem_singleton.mp hr, show vecQ [0, 0] = fun _ => (0 : Rat) from funext vec_zz]
    exact .zero
  · obtain ⟨r, hr, _⟩ := h
    cases hr
theorem v3 {a b c d e f g h k x y : Rat} (h0 : a = x * d + y * g) (h1 : b = x * e + y * h) (h2 : c = x * f + y * k) (i : Nat) : vecQ [a, b, c] i = x * vecQ [d, e, f] i + y * vecQ [g, h, k] i := by
  match i with
  | 0 => exact h0
  | 1 => exact h1
  | 2 => exact h2
  | n + 3 =>
    show (0 : Rat) = x * 0 + y * 0
    grind
theorem canon3 : Canon 3 [[1, 2, 0], [0, 0, 1]] := (istab_canon (w := 3) (fun r h => by
  rcases List.mem_cons.mp h with rfl | h
  · rfl
  rw [List.mem_singleton.mp h]; rfl)).mp (by decide)
theorem call_t3 (hq : ∀ G', Ext G G' → Q (dTab [[1, 2, 0], [0, 0, 1]]) G') : S_table [.tup [.tup [.tup [.int 2, .int 1], .tup [.int 4, .int 1], .tup [.int 0, .int 1]], .tup [.tup [.int 1, .int 1], .tup [.int 2, .int 1], .tup [.int 3, .int 1]]]] G Q := by
  refine table_due (w := 3) (rows' := [[2, 4, 0], [1, 2, 3]]) (due := [[1, 2, 0], [0, 0, 1]]) (by decide) (by decide) ⟨by decide, 3, by decide, by decide, .inl fun r h => ?_⟩ (fun r h => ?_) canon3 (Same.of (fun v h => ?_) fun v h => ?_) hq
  · rcases List.mem_cons.mp h with rfl | h
    · exact ⟨rfl, 1, by decide, by decide, by decide⟩
    rw [List.mem_singleton.mp h]
    exact ⟨rfl, 1, by decide, by decide, by decide⟩
  · rcases List.mem_cons.mp h with rfl | h
    · rfl
    rw [List.mem_singleton.mp h]; rfl
  · have s1 : Sp (inRows [[1, 2, 0], [0, 0, 1]]) (vecQ [1, 2, 0]) := Sp.one ⟨_, List.mem_cons_self .., rfl⟩
    have s2 : Sp (inRows [[1, 2, 0], [0, 0, 1]]) (vecQ [0, 0, 1]) := Sp.one ⟨_, List.mem_cons_of_mem _ (List.mem_cons_self ..), rfl⟩
    obtain ⟨r, hr, rfl⟩ := h
    rcases List.mem_cons.mp hr with rfl | hr
    · exact Sp.two 2 0 s1 s2 fun i => v3 (by grind) (by grind) (by grind) i
    rw [List.mem_singleton.mp hr]
    exact Sp.two 1 3 s1 s2 fun i => v3 (by grind) (by grind) (by grind) i
  · have s1 : Sp (inRows [[2, 4, 0], [1, 2, 3]]) (vecQ [2, 4, 0]) := Sp.one ⟨_, List.mem_cons_self .., rfl⟩
    have s2 : Sp (inRows [[2, 4, 0], [1, 2, 3]]) (vecQ [1, 2, 3]) := Sp.one ⟨_, List.mem_cons_of_mem _ (List.mem_cons_self ..), rfl⟩
    obtain ⟨r, hr, rfl⟩ := h
    rcases List.mem_cons.mp hr with rfl | hr
    · exact Sp.two (1 / 2) 0 s1 s2 fun i => v3 (by grind) (by grind) (by grind) i
    rw [List.mem_singleton.mp hr]
    exact Sp.two (-1 / 6) (1 / 3) s1 s2 fun i => v3 (by grind) (by grind) (by grind) i
theorem call_i {t : List (List Rat)} {w : Nat} {b : Bool} {d : D} (hd : d = dTab t) (hw0 : 0 < w) (hw : w ≤ 8) (htl : t.length ≤ 1000) (hl : ∀ r ∈ t, r.length = w) (hb : isTabQ t = b) (hq : Q (.bl b) G) : S_is_table [d] G Q := by
  rw [hd]
  exact istab_due hw0 hw htl hl (by rw [hb]; exact hq)
theorem call_i1 (hq : Q (.bl true) G) : S_is_table [.tup []] G Q := call_i (t := []) (w := 1) rfl (by decide) (by decide) (by decide) (by decide) (by decide) hq
theorem call_i2 (hq : Q (.bl true) G) : S_is_table [.tup [.tup [.tup [.int 1, .int 1], .tup [.int 0, .int 1]], .tup [.tup [.int 0, .int 1], .tup [.int 1, .int 1]]]] G Q := call_i (t := [[1, 0], [0, 1]]) (w := 2) rfl (by decide) (by decide) (by decide) (by decide) (by decide) hq
theorem call_i3 (hq : Q (.bl false) G) : S_is_table [.tup [.tup [.tup [.int 0, .int 1], .tup [.int 1, .int 1]], .tup [.tup [.int 1, .int 1], .tup [.int 0, .int 1]]]] G Q := call_i (t := [[0, 1], [1, 0]]) (w := 2) rfl (by decide) (by decide) (by decide) (by decide) (by decide) hq
theorem call_i4 (hq : Q (.bl false) G) : S_is_table [.tup [.tup [.tup [.int 1, .int 1], .tup [.int 1, .int 1]], .tup [.tup [.int 0, .int 1], .tup [.int 1, .int 1]]]] G Q := call_i (t := [[1, 1], [0, 1]]) (w := 2) rfl (by decide) (by decide) (by decide) (by decide) (by decide) hq
theorem call_i5 (hq : Q (.bl false) G) : S_is_table [.tup [.tup [.tup [.int 2, .int 1], .tup [.int 0, .int 1]]]] G Q := call_i (t := [[2, 0]]) (w := 2) rfl (by decide) (by decide) (by decide) (by decide) (by decide) hq
abbrev lW : DTA := dRng1 (dCB (onI2 fMax2) (dCons (dC (.int 2)) (dCons (dCB (onI2 fMin2) (dCons (dC (.int 3)) (dCons (dCB (on1 fLen) (dCons (dVar 0) dNil)) dNil))) dNil)))
theorem ev_lW {ns : List Int} {x1 x2 x3 x4 : Option D} {Q : List D → GH → Prop} (hq : ∀ n : Nat, n ≤ 3 → Q (rngD 0 n) G) : lW [some (.frl (ns.map D.int)), x1, x2, x3, x4] G Q := by
  simp only [lW, dVar, dC, dOp, dB, dAnd, dOr, dNot, dAndV, dOrV, dNotV, dIf, dNil, dCons, dTup, dLst, dLstT, fAdd, fSub, fDiv, fMod, fPow, fMul, fCmp, fLt, fLe, fGt, fGe, fEq, fNe, fIs, fIsNot, isNonD, dNeg, dCB, on1, fLen, fTup, fLstF, fLstT, fAbs, fInt, onI2, fGcd, fMax2, fMin2, fIsi, frzOf, dSq, dRng1, dRng2, dEnum, dZip, dKeys, dVals, dItems, onK, onS, onD, onB, onKs, onY, onI, onN, dctOf, keyOf, gNm, DL.gNil, DL.gCons, gTp, gSubL, gSubD, dNx, dSeq, dBk, dCt, dDrop, dRet, dRetN, dIfS, dAsg, dPar, dPar3, dFor, dWhile, dLc, dLc2, dDc, dItemsT, dDGet, dDGet2, dApp, dPopAt, dPart, dNoPart, dSlc, fSlc, insOf, dFld, dFldS, dCall, dMeth, dMk, mkEnd, dRevT, dNever, dBits, dDictT, dDict1, fSortD, fListD, sl, wipeD, seqOf, IsLst, getFD, putFD, fIx, List.set, List.length_cons, List.length_nil, List.cons.injEq, and_true, true_and, Nat.reduceAdd, reduceCtorEq, if_true, if_false, Bool.false_eq_true, ne_eq, not_false_eq_true, ite_true, ite_false, List.length_map]
  have e : max (2 : Int) (min 3 (ns.length : Int)) ≤ 3 := by omega
  have e2 : 2 ≤ max (2 : Int) (min 3 (ns.length : Int)) := by omega
  exact ⟨by omega, hq _ (by omega)⟩
abbrev lB : DTT := (dNot (dB (dCall 1 (S_law_right) (dCons (dCall 2 (S_law_urn) (dCons (dVar 0) (dCons (dVar 1) dNil))) dNil))))
theorem ev_lB {ns : List Int} {k : Int} {x2 x3 x4 : Option D} (hl : ns.length ≤ 2 ^ 20) (hb : ∀ n ∈ ns, n.natAbs < 2 ^ 1048576) (k0 : 0 ≤ k) (k1 : k ≤ 3) {Q : Bool → GH → Prop} (hq : ∀ G', Q false G') : lB [some (.frl (ns.map D.int)), some (.int k), x2, x3, x4] G Q := by
  simp only [lB, dVar, dC, dOp, dB, dAnd, dOr, dNot, dAndV, dOrV, dNotV, dIf, dNil, dCons, dTup, dLst, dLstT, fAdd, fSub, fDiv, fMod, fPow, fMul, fCmp, fLt, fLe, fGt, fGe, fEq, fNe, fIs, fIsNot, isNonD, dNeg, dCB, on1, fLen, fTup, fLstF, fLstT, fAbs, fInt, onI2, fGcd, fMax2, fMin2, fIsi, frzOf, dSq, dRng1, dRng2, dEnum, dZip, dKeys, dVals, dItems, onK, onS, onD, onB, onKs, onY, onI, onN, dctOf, keyOf, gNm, DL.gNil, DL.gCons, gTp, gSubL, gSubD, dNx, dSeq, dBk, dCt, dDrop, dRet, dRetN, dIfS, dAsg, dPar, dPar3, dFor, dWhile, dLc, dLc2, dDc, dItemsT, dDGet, dDGet2, dApp, dPopAt, dPart, dNoPart, dSlc, fSlc, insOf, dFld, dFldS, dCall, dMeth, dMk, mkEnd, dRevT, dNever, dBits, dDictT, dDict1, fSortD, fListD, sl, wipeD, seqOf, IsLst, getFD, putFD, fIx, List.set, List.length_cons, List.length_nil, List.cons.injEq, and_true, true_and, Nat.reduceAdd, reduceCtorEq, if_true, if_false, Bool.false_eq_true, ne_eq, not_false_eq_true, ite_true, ite_false]
  exact ⟨ns, k, rfl, k0, by omega, hl, hb, fun u G' hu hE => ⟨u, rfl, hE.1, fun G2 => hq G2⟩⟩
abbrev lT : DTE := (dTup (dCons (dCall 1 (S_table) (dCons (dTup dNil) dNil)) (dCons (dCall 1 (S_table) (dCons (dTup (dCons (dTup (dCons (dVar 2) (dCons (dVar 2) dNil))) dNil)) dNil)) (dCons (dCall 1 (S_table) (dCons (dTup (dCons (dTup (dCons (dTup (dCons (dC (.int 2)) (dCons (dC (.int 1)) dNil))) (dCons (dTup (dCons (dC (.int 4)) (dCons (dC (.int 1)) dNil))) (dCons (dVar 2) dNil)))) (dCons (dTup (dCons (dVar 3) (dCons (dTup (dCons (dC (.int 2)) (dCons (dC (.int 1)) dNil))) (dCons (dTup (dCons (dC (.int 3)) (dCons (dC (.int 1)) dNil))) dNil)))) dNil))) dNil)) (dCons (dCall 1 (S_is_table) (dCons (dTup dNil) dNil)) (dCons (dCall 1 (S_is_table) (dCons (dTup (dCons (dTup (dCons (dVar 3) (dCons (dVar 2) dNil))) (dCons (dTup (dCons (dVar 2) (dCons (dVar 3) dNil))) dNil))) dNil)) (dCons (dCall 1 (S_is_table) (dCons (dTup (dCons (dTup (dCons (dVar 2) (dCons (dVar 3) dNil))) (dCons (dTup (dCons (dVar 3) (dCons (dVar 2) dNil))) dNil))) dNil)) (dCons (dCall 1 (S_is_table) (dCons (dTup (dCons (dTup (dCons (dVar 3) (dCons (dVar 3) dNil))) (dCons (dTup (dCons (dVar 2) (dCons (dVar 3) dNil))) dNil))) dNil)) (dCons (dCall 1 (S_is_table) (dCons (dTup (dCons (dTup (dCons (dTup (dCons (dC (.int 2)) (dCons (dC (.int 1)) dNil))) (dCons (dVar 2) dNil))) dNil)) dNil)) dNil)))))))))
abbrev dueD : D := .tup [.tup [], .tup [], dTab [[1, 2, 0], [0, 0, 1]], .bl true, .bl true, .bl false, .bl false, .bl false]
theorem ev_lT {x0 x1 x4 : Option D} (hq : ∀ G', Q dueD G') : lT [x0, x1, some (.tup [.int 0, .int 1]), some (.tup [.int 1, .int 1]), x4] G Q := by
  have s1 : 1 ≤ sizeLine := size_le (by decide)
  have s2 : 2 ≤ sizeLine := size_le (by decide)
  have s3 : 3 ≤ sizeLine := size_le (by decide)
  have s8 : 8 ≤ sizeLine := size_le (by decide)
  simp only [lT, dVar, dC, dOp, dB, dAnd, dOr, dNot, dAndV, dOrV, dNotV, dIf, dNil, dCons, dTup, dLst, dLstT, fAdd, fSub, fDiv, fMod, fPow, fMul, fCmp, fLt, fLe, fGt, fGe, fEq, fNe, fIs, fIsNot, isNonD, dNeg, dCB, on1, fLen, fTup, fLstF, fLstT, fAbs, fInt, onI2, fGcd, fMax2, fMin2, fIsi, frzOf, dSq, dRng1, dRng2, dEnum, dZip, dKeys, dVals, dItems, onK, onS, onD, onB, onKs, onY, onI, onN, dctOf, keyOf, gNm, DL.gNil, DL.gCons, gTp, gSubL, gSubD, dNx, dSeq, dBk, dCt, dDrop, dRet, dRetN, dIfS, dAsg, dPar, dPar3, dFor, dWhile, dLc, dLc2, dDc, dItemsT, dDGet, dDGet2, dApp, dPopAt, dPart, dNoPart, dSlc, fSlc, insOf, dFld, dFldS, dCall, dMeth, dMk, mkEnd, dRevT, dNever, dBits, dDictT, dDict1, fSortD, fListD, sl, wipeD, seqOf, IsLst, getFD, putFD, fIx, List.set, List.length_cons, List.length_nil, List.cons.injEq, and_true, true_and, Nat.reduceAdd, reduceCtorEq, if_true, if_false, Bool.false_eq_true, ne_eq, not_false_eq_true, ite_true, ite_false]
  refine ⟨Nat.zero_le _, call_t1 fun G1 _ => ⟨s2, s1, call_t2 fun G2 _ => ⟨s2, s2, s3, s2, s2, s3, s2, call_t3 fun G3 _ => ?_⟩⟩⟩
  refine ⟨Nat.zero_le _, call_i1 ⟨s2, s2, s2, call_i2 ⟨s2, s2, s2, call_i3 ⟨s2, s2, s2, call_i4 ⟨s2, s2, s1, call_i5 ⟨s8, ?_⟩⟩⟩⟩⟩⟩
  exact hq G3
abbrev lE : DTE := (dCall 2 (S_law_equals 5) (dCons (dVar 4) (dCons (dTup (dCons (dTup dNil) (dCons (dTup dNil) (dCons (dTup (dCons (dTup (dCons (dVar 3) (dCons (dTup (dCons (dC (.int 2)) (dCons (dC (.int 1)) dNil))) (dCons (dVar 2) dNil)))) (dCons (dTup (dCons (dVar 2) (dCons (dVar 2) (dCons (dVar 3) dNil)))) dNil))) (dCons (dC (.bl true)) (dCons (dC (.bl true)) (dCons (dC (.bl false)) (dCons (dC (.bl false)) (dCons (dC (.bl false)) dNil))))))))) dNil)))
theorem ev_lE {x0 x1 : Option D} (hq : Q (.bl true) G) : lE [x0, x1, some (.tup [.int 0, .int 1]), some (.tup [.int 1, .int 1]), some dueD] G Q := by
  have s2 : 2 ≤ sizeLine := size_le (by decide)
  have s3 : 3 ≤ sizeLine := size_le (by decide)
  have s8 : 8 ≤ sizeLine := size_le (by decide)
  simp only [lE, dVar, dC, dOp, dB, dAnd, dOr, dNot, dAndV, dOrV, dNotV, dIf, dNil, dCons, dTup, dLst, dLstT, fAdd, fSub, fDiv, fMod, fPow, fMul, fCmp, fLt, fLe, fGt, fGe, fEq, fNe, fIs, fIsNot, isNonD, dNeg, dCB, on1, fLen, fTup, fLstF, fLstT, fAbs, fInt, onI2, fGcd, fMax2, fMin2, fIsi, frzOf, dSq, dRng1, dRng2, dEnum, dZip, dKeys, dVals, dItems, onK, onS, onD, onB, onKs, onY, onI, onN, dctOf, keyOf, gNm, DL.gNil, DL.gCons, gTp, gSubL, gSubD, dNx, dSeq, dBk, dCt, dDrop, dRet, dRetN, dIfS, dAsg, dPar, dPar3, dFor, dWhile, dLc, dLc2, dDc, dItemsT, dDGet, dDGet2, dApp, dPopAt, dPart, dNoPart, dSlc, fSlc, insOf, dFld, dFldS, dCall, dMeth, dMk, mkEnd, dRevT, dNever, dBits, dDictT, dDict1, fSortD, fListD, sl, wipeD, seqOf, IsLst, getFD, putFD, fIx, List.set, List.length_cons, List.length_nil, List.cons.injEq, and_true, true_and, Nat.reduceAdd, reduceCtorEq, if_true, if_false, Bool.false_eq_true, ne_eq, not_false_eq_true, ite_true, ite_false]
  refine ⟨Nat.zero_le _, Nat.zero_le _, s2, s3, s3, s2, s8, _, _, rfl, by decide, by decide, fun c hc => ?_⟩
  rw [hc.mpr rfl]
  exact hq
theorem rng_cons : ∀ {lo : Int} {n : Nat} {x : D} {r : List D}, x :: r = rngD lo n → x = .int lo ∧ ∃ m, n = m + 1 ∧ r = rngD (lo + 1) m
  | lo, n + 1, x, r, h => by
    unfold rngD at h
    cases h
    exact ⟨rfl, n, rfl, rfl⟩
theorem l_law {ds} (h : S_law ds G Q) : r_law (Ends1 Q) (startD N_law ds) G := by
  obtain ⟨ns, rfl, hl, hb, hq⟩ := h
  rw [show startD N_law [.frl (ns.map D.int)] = [some (.frl (ns.map D.int)), none, none, none, none] from rfl]
  refine seq_for (ev_lW fun n hn => ?_)
  refine for_run (fun rest ρ G' => ∃ (lo : Int) (n : Nat) (o1 : Option D), rest = rngD lo n ∧ 0 ≤ lo ∧ lo + n ≤ 3 ∧ ρ = [some (.frl (ns.map D.int)), o1, none, none, none]) ?_ ?_ _ _ _ ⟨0, n, none, rfl, by decide, by omega, rfl⟩
  · rintro ρ G' ⟨lo, n, o1, _, _, _, rfl⟩
    dsimp only
    refine seq_tp2 (x := .tup [.int 0, .int 1]) (y := .tup [.int 1, .int 1]) (fun Q' h => ⟨size_le (by decide), size_le (by decide), size_le (by decide), h⟩) ?_
    refine seq_C (ev_lT fun G2 => ?_)
    exact ev_lE (hq G2)
  · rintro x r ρ G' C ⟨lo, n, o1, e, h0, h1, rfl⟩ hC
    obtain ⟨rfl, m, rfl, rfl⟩ := rng_cons e
    refine one_if (ev_lB hl hb h0 (by omega) fun G2 => ?_)
    exact hC _ _ ⟨lo + 1, m, some (.int lo), rfl, by omega, by omega, rfl⟩
end
end K43
set_option Elab.async false
set_option linter.all false
set_option maxRecDepth 100000
set_option maxHeartbeats 4000000
namespace K43
open PySem PySem.Spec PyProof.Rows L2 DL
theorem gblt_ok {K : PySem.W.Frag} {h : Heap} {mg : Str → Option Value} (X : K.In h) (G : h.Ns mainGlobals mg) {x : Str} {id : String} (e : KHead.gblt K x id = true) : mg x = some (.builtin id) := by
  unfold KHead.gblt at e
  split at e
  · rename_i j q
    have e2 : j = id := of_decide_eq_true e
    rw [← e2]
    exact PySem.W.mg_of X G q
  · cases e
section
variable {P : Program} {w : World} {K : PySem.W.Frag} {mg : Str → Option Value} {base h : Heap}
theorem _root_.L2.DLba {a b : Bool} (h : (a && b) = true) : a = true ∧ b = true := Bool.and_eq_true_iff.mp h
theorem J_m_isinstance (X : K.In h) (G : h.Ns mainGlobals mg) (c : He.SaysX KHead.fa KHead.fn [] [] KHead.ex w h K) : mg "isinstance" = none := He.free_ok X G (c.t.d.fact 41 (f := .free "isinstance") rfl)
theorem J_m_int (X : K.In h) (G : h.Ns mainGlobals mg) (c : He.SaysX KHead.fa KHead.fn [] [] KHead.ex w h K) : mg "int" = none := He.free_ok X G (c.t.d.fact 40 (f := .free "int") rfl)
theorem J_m_bool (X : K.In h) (G : h.Ns mainGlobals mg) (c : He.SaysX KHead.fa KHead.fn [] [] KHead.ex w h K) : mg "bool" = none := He.free_ok X G (c.t.d.fact 38 (f := .free "bool") rfl)
theorem J_m_tuple (X : K.In h) (G : h.Ns mainGlobals mg) (c : He.SaysX KHead.fa KHead.fn [] [] KHead.ex w h K) : mg "tuple" = none := He.free_ok X G (c.t.d.fact 50 (f := .free "tuple") rfl)
theorem J_m_len (X : K.In h) (G : h.Ns mainGlobals mg) (c : He.SaysX KHead.fa KHead.fn [] [] KHead.ex w h K) : mg "len" = none := He.free_ok X G (c.t.d.fact 42 (f := .free "len") rfl)
theorem J_m_all (X : K.In h) (G : h.Ns mainGlobals mg) (c : He.SaysX KHead.fa KHead.fn [] [] KHead.ex w h K) : mg "all" = none := He.free_ok X G (c.t.d.fact 36 (f := .free "all") rfl)
theorem J_m_zip (X : K.In h) (G : h.Ns mainGlobals mg) (c : He.SaysX KHead.fa KHead.fn [] [] KHead.ex w h K) : mg "zip" = none := He.free_ok X G (c.t.d.fact 51 (f := .free "zip") rfl)
theorem J_m_gcd (X : K.In h) (G : h.Ns mainGlobals mg) (c : He.SaysX KHead.fa KHead.fn [] [] KHead.ex w h K) : mg "gcd" = some (.builtin "math.gcd") := gblt_ok X G (L2.DLba (L2.DLba c.more).1).2
theorem J_cls_Line (X : K.In h) (G : h.Ns mainGlobals mg) (c : He.SaysX KHead.fa KHead.fn [] [] KHead.ex w h K) : Cls K (He.ga K "Line") := He.cls_ok (c.t.d.fact 52 (f := .cls "Line") rfl)
theorem J_na_Line_numbers (X : K.In h) (G : h.Ns mainGlobals mg) (c : He.SaysX KHead.fa KHead.fn [] [] KHead.ex w h K) : NoAttr K (He.ga K "Line") "numbers" := He.noat_ok (c.t.d.fact 53 (f := .noat "Line" "numbers") rfl)
theorem J_na_Line_shares (X : K.In h) (G : h.Ns mainGlobals mg) (c : He.SaysX KHead.fa KHead.fn [] [] KHead.ex w h K) : NoAttr K (He.ga K "Line") "shares" := He.noat_ok (c.t.d.fact 54 (f := .noat "Line" "shares") rfl)
theorem J_cls_Reducer (X : K.In h) (G : h.Ns mainGlobals mg) (c : He.SaysX KHead.fa KHead.fn [] [] KHead.ex w h K) : Cls K (He.ga K "Reducer") := He.cls_ok (c.t.d.fact 59 (f := .cls "Reducer") rfl)
theorem J_na_Reducer_lines (X : K.In h) (G : h.Ns mainGlobals mg) (c : He.SaysX KHead.fa KHead.fn [] [] KHead.ex w h K) : NoAttr K (He.ga K "Reducer") "lines" := He.noat_ok (c.t.d.fact 60 (f := .noat "Reducer" "lines") rfl)
theorem J_m_sorted (X : K.In h) (G : h.Ns mainGlobals mg) (c : He.SaysX KHead.fa KHead.fn [] [] KHead.ex w h K) : mg "sorted" = none := He.free_ok X G (c.t.d.fact 47 (f := .free "sorted") rfl)
theorem J_m_list (X : K.In h) (G : h.Ns mainGlobals mg) (c : He.SaysX KHead.fa KHead.fn [] [] KHead.ex w h K) : mg "list" = none := He.free_ok X G (c.t.d.fact 43 (f := .free "list") rfl)
theorem J_m_enumerate (X : K.In h) (G : h.Ns mainGlobals mg) (c : He.SaysX KHead.fa KHead.fn [] [] KHead.ex w h K) : mg "enumerate" = none := He.free_ok X G (c.t.d.fact 39 (f := .free "enumerate") rfl)
theorem J_m_any (X : K.In h) (G : h.Ns mainGlobals mg) (c : He.SaysX KHead.fa KHead.fn [] [] KHead.ex w h K) : mg "any" = none := He.free_ok X G (c.t.d.fact 37 (f := .free "any") rfl)
theorem J_c_ONE (X : K.In h) (G : h.Ns mainGlobals mg) (c : He.SaysX KHead.fa KHead.fn [] [] KHead.ex w h K) : ConD K mg "ONE" (.tup [.int 1, .int 1]) := ⟨.ref (He.ga K "ONE"), .ref (He.ga K "ONE"), He.glo_ok X G (c.t.d.fact 33 (f := .glo "ONE") rfl), rfl, fun G' H => .tup (.inr (He.tupB_ok (L2.DLba c.more).2 fun _ => none)) (by decide) (.cons (.int _) (.cons (.int _) .nil))⟩
theorem J_m_abs (X : K.In h) (G : h.Ns mainGlobals mg) (c : He.SaysX KHead.fa KHead.fn [] [] KHead.ex w h K) : mg "abs" = none := He.free_ok X G (c.t.d.fact 35 (f := .free "abs") rfl)
theorem J_m_str (X : K.In h) (G : h.Ns mainGlobals mg) (c : He.SaysX KHead.fa KHead.fn [] [] KHead.ex w h K) : mg "str" = none := He.free_ok X G (c.t.d.fact 48 (f := .free "str") rfl)
theorem J_m_range (X : K.In h) (G : h.Ns mainGlobals mg) (c : He.SaysX KHead.fa KHead.fn [] [] KHead.ex w h K) : mg "range" = none := He.free_ok X G (c.t.d.fact 46 (f := .free "range") rfl)
theorem J_m_max (X : K.In h) (G : h.Ns mainGlobals mg) (c : He.SaysX KHead.fa KHead.fn [] [] KHead.ex w h K) : mg "max" = none := He.free_ok X G (c.t.d.fact 44 (f := .free "max") rfl)
theorem J_m_min (X : K.In h) (G : h.Ns mainGlobals mg) (c : He.SaysX KHead.fa KHead.fn [] [] KHead.ex w h K) : mg "min" = none := He.free_ok X G (c.t.d.fact 45 (f := .free "min") rfl)
theorem sc_law_ball : FnScope N_law_ball ["urn", "many"] (defScope KHead.s_law_ball) := ⟨rfl, rfl, rfl, by decide +kernel, rfl, by decide +kernel, by decide +kernel⟩
theorem o_law_ball (X : K.In h) (G : h.Ns mainGlobals mg) (c : He.SaysX KHead.fa KHead.fn [] [] KHead.ex w h K) : ∃ fd, FnOk P w K mg base CX0 1 (He.fAd K ("_law_ball", none)) fd ["urn", "many"] (lowSp K 2 (S_law_ball)) ∧ PySem.W.keepIn K (.ref (He.fAd K ("_law_ball", none))) = true ∧ Binds K fd ["urn", "many"] [] := by
  obtain ⟨fd, F⟩ : ∃ fd, FunD K "_law_ball" "_law_ball" (defArgs KHead.s_law_ball) (defBody KHead.s_law_ball) (defScope KHead.s_law_ball) [] [] (He.fAd K ("_law_ball", none)) fd := c.t.d.def_ 26 (d := KHead.d_law_ball) rfl
  exact ⟨fd, Body.ok F sc_law_ball rfl fun cdv A outer s H E hr => ⟨_, w_law_ball (J_m_int X G c) hr, fun ds G Q _ h => l_law_ball h⟩, F.kp, F.bindsN fun _ _ _ _ _ _ us hl => match us, hl with | [_, _], _ => rfl⟩
theorem J_d_law_ball (X : K.In h) (G : h.Ns mainGlobals mg) (c : He.SaysX KHead.fa KHead.fn [] [] KHead.ex w h K) : CalD P w K mg base 1 "_law_ball" 2 (S_law_ball) := by
  obtain ⟨fd, F, kp, b⟩ := o_law_ball (P := P) (base := base) X G c
  exact ⟨⟨_, fd, _, F, He.glo_ok X G (c.t.d.fact 15 (f := .glo "_law_ball") rfl), kp, b⟩⟩
theorem sc_law_one_of : FnScope N_law_one_of ["urn", "things"] (defScope KHead.s_law_one_of) := ⟨rfl, rfl, rfl, by decide +kernel, rfl, by decide +kernel, by decide +kernel⟩
theorem o_law_one_of (X : K.In h) (G : h.Ns mainGlobals mg) (c : He.SaysX KHead.fa KHead.fn [] [] KHead.ex w h K) : ∃ fd, FnOk P w K mg base CX0 2 (He.fAd K ("_law_one_of", none)) fd ["urn", "things"] (lowSp K 2 (S_law_one_of)) ∧ PySem.W.keepIn K (.ref (He.fAd K ("_law_one_of", none))) = true ∧ Binds K fd ["urn", "things"] [] := by
  obtain ⟨fd, F⟩ : ∃ fd, FunD K "_law_one_of" "_law_one_of" (defArgs KHead.s_law_one_of) (defBody KHead.s_law_one_of) (defScope KHead.s_law_one_of) [] [] (He.fAd K ("_law_one_of", none)) fd := c.t.d.def_ 27 (d := KHead.d_law_one_of) rfl
  exact ⟨fd, Body.ok F sc_law_one_of rfl fun cdv A outer s H E hr => ⟨_, w_law_one_of (J_d_law_ball X G c) (J_m_len X G c) hr, fun ds G Q _ h => l_law_one_of h⟩, F.kp, F.bindsN fun _ _ _ _ _ _ us hl => match us, hl with | [_, _], _ => rfl⟩
theorem J_d_law_one_of (X : K.In h) (G : h.Ns mainGlobals mg) (c : He.SaysX KHead.fa KHead.fn [] [] KHead.ex w h K) : CalD P w K mg base 2 "_law_one_of" 2 (S_law_one_of) := by
  obtain ⟨fd, F, kp, b⟩ := o_law_one_of (P := P) (base := base) X G c
  exact ⟨⟨_, fd, _, F, He.glo_ok X G (c.t.d.fact 16 (f := .glo "_law_one_of") rfl), kp, b⟩⟩
theorem sc_law_part : FnScope N_law_part ["one", "two"] (defScope KHead.s_law_part) := ⟨rfl, rfl, rfl, by decide +kernel, rfl, by decide +kernel, by decide +kernel⟩
theorem o_law_part (X : K.In h) (G : h.Ns mainGlobals mg) (c : He.SaysX KHead.fa KHead.fn [] [] KHead.ex w h K) : ∃ fd, FnOk P w K mg base CX0 1 (He.fAd K ("_law_part", none)) fd ["one", "two"] (lowSp K 2 (S_law_part)) ∧ PySem.W.keepIn K (.ref (He.fAd K ("_law_part", none))) = true ∧ Binds K fd ["one", "two"] [] := by
  obtain ⟨fd, F⟩ : ∃ fd, FunD K "_law_part" "_law_part" (defArgs KHead.s_law_part) (defBody KHead.s_law_part) (defScope KHead.s_law_part) [] [] (He.fAd K ("_law_part", none)) fd := c.t.d.def_ 29 (d := KHead.d_law_part) rfl
  exact ⟨fd, Body.ok F sc_law_part rfl fun cdv A outer s H E hr => ⟨_, w_law_part (J_m_abs X G c) (J_m_range X G c) (J_m_int X G c) hr, fun ds G Q _ h => l_law_part h⟩, F.kp, F.bindsN fun _ _ _ _ _ _ us hl => match us, hl with | [_, _], _ => rfl⟩
theorem J_d_law_part (X : K.In h) (G : h.Ns mainGlobals mg) (c : He.SaysX KHead.fa KHead.fn [] [] KHead.ex w h K) : CalD P w K mg base 1 "_law_part" 2 (S_law_part) := by
  obtain ⟨fd, F, kp, b⟩ := o_law_part (P := P) (base := base) X G c
  exact ⟨⟨_, fd, _, F, He.glo_ok X G (c.t.d.fact 18 (f := .glo "_law_part") rfl), kp, b⟩⟩
theorem sc_law_any_row : FnScope N_law_any_row ["urn", "wide"] (defScope KHead.s_law_any_row) := ⟨rfl, rfl, rfl, by decide +kernel, rfl, by decide +kernel, by decide +kernel⟩
theorem o_law_any_row (X : K.In h) (G : h.Ns mainGlobals mg) (c : He.SaysX KHead.fa KHead.fn [] [] KHead.ex w h K) : ∃ fd, FnOk P w K mg base CX0 3 (He.fAd K ("_law_any_row", none)) fd ["urn", "wide"] (lowSp K 2 (S_law_any_row)) ∧ PySem.W.keepIn K (.ref (He.fAd K ("_law_any_row", none))) = true ∧ Binds K fd ["urn", "wide"] [] := by
  obtain ⟨fd, F⟩ : ∃ fd, FunD K "_law_any_row" "_law_any_row" (defArgs KHead.s_law_any_row) (defBody KHead.s_law_any_row) (defScope KHead.s_law_any_row) [] [] (He.fAd K ("_law_any_row", none)) fd := c.t.d.def_ 35 (d := KHead.d_law_any_row) rfl
  exact ⟨fd, Body.ok F sc_law_any_row rfl fun cdv A outer s H E hr => ⟨_, w_law_any_row (J_d_law_ball X G c) (J_m_tuple X G c) (J_m_range X G c) (J_d_law_one_of X G c) (J_d_law_part X G c) hr, fun ds G Q _ h => l_law_any_row h⟩, F.kp, F.bindsN fun _ _ _ _ _ _ us hl => match us, hl with | [_, _], _ => rfl⟩
theorem J_d_law_any_row (X : K.In h) (G : h.Ns mainGlobals mg) (c : He.SaysX KHead.fa KHead.fn [] [] KHead.ex w h K) : CalD P w K mg base 3 "_law_any_row" 2 (S_law_any_row) := by
  obtain ⟨fd, F, kp, b⟩ := o_law_any_row (P := P) (base := base) X G c
  exact ⟨⟨_, fd, _, F, He.glo_ok X G (c.t.d.fact 24 (f := .glo "_law_any_row") rfl), kp, b⟩⟩
theorem sc_law_plus : FnScope N_law_plus ["one", "two"] (defScope KHead.s_law_plus) := ⟨rfl, rfl, rfl, by decide +kernel, rfl, by decide +kernel, by decide +kernel⟩
theorem o_law_plus (X : K.In h) (G : h.Ns mainGlobals mg) (c : He.SaysX KHead.fa KHead.fn [] [] KHead.ex w h K) : ∃ fd, FnOk P w K mg base CX0 2 (He.fAd K ("_law_plus", none)) fd ["one", "two"] (lowSp K 2 (S_law_plus)) ∧ PySem.W.keepIn K (.ref (He.fAd K ("_law_plus", none))) = true ∧ Binds K fd ["one", "two"] [] := by
  obtain ⟨fd, F⟩ : ∃ fd, FunD K "_law_plus" "_law_plus" (defArgs KHead.s_law_plus) (defBody KHead.s_law_plus) (defScope KHead.s_law_plus) [] [] (He.fAd K ("_law_plus", none)) fd := c.t.d.def_ 30 (d := KHead.d_law_plus) rfl
  exact ⟨fd, Body.ok F sc_law_plus rfl fun cdv A outer s H E hr => ⟨_, w_law_plus (J_d_law_part X G c) hr, fun ds G Q _ h => l_law_plus h⟩, F.kp, F.bindsN fun _ _ _ _ _ _ us hl => match us, hl with | [_, _], _ => rfl⟩
theorem J_d_law_plus (X : K.In h) (G : h.Ns mainGlobals mg) (c : He.SaysX KHead.fa KHead.fn [] [] KHead.ex w h K) : CalD P w K mg base 2 "_law_plus" 2 (S_law_plus) := by
  obtain ⟨fd, F, kp, b⟩ := o_law_plus (P := P) (base := base) X G c
  exact ⟨⟨_, fd, _, F, He.glo_ok X G (c.t.d.fact 19 (f := .glo "_law_plus") rfl), kp, b⟩⟩
theorem sc_law_by : FnScope N_law_by ["one", "two"] (defScope KHead.s_law_by) := ⟨rfl, rfl, rfl, by decide +kernel, rfl, by decide +kernel, by decide +kernel⟩
theorem o_law_by (X : K.In h) (G : h.Ns mainGlobals mg) (c : He.SaysX KHead.fa KHead.fn [] [] KHead.ex w h K) : ∃ fd, FnOk P w K mg base CX0 2 (He.fAd K ("_law_by", none)) fd ["one", "two"] (lowSp K 2 (S_law_by)) ∧ PySem.W.keepIn K (.ref (He.fAd K ("_law_by", none))) = true ∧ Binds K fd ["one", "two"] [] := by
  obtain ⟨fd, F⟩ : ∃ fd, FunD K "_law_by" "_law_by" (defArgs KHead.s_law_by) (defBody KHead.s_law_by) (defScope KHead.s_law_by) [] [] (He.fAd K ("_law_by", none)) fd := c.t.d.def_ 31 (d := KHead.d_law_by) rfl
  exact ⟨fd, Body.ok F sc_law_by rfl fun cdv A outer s H E hr => ⟨_, w_law_by (J_d_law_part X G c) hr, fun ds G Q _ h => l_law_by h⟩, F.kp, F.bindsN fun _ _ _ _ _ _ us hl => match us, hl with | [_, _], _ => rfl⟩
theorem J_d_law_by (X : K.In h) (G : h.Ns mainGlobals mg) (c : He.SaysX KHead.fa KHead.fn [] [] KHead.ex w h K) : CalD P w K mg base 2 "_law_by" 2 (S_law_by) := by
  obtain ⟨fd, F, kp, b⟩ := o_law_by (P := P) (base := base) X G c
  exact ⟨⟨_, fd, _, F, He.glo_ok X G (c.t.d.fact 20 (f := .glo "_law_by") rfl), kp, b⟩⟩
theorem sc_law_less_row : FnScope N_law_less_row ["row", "other", "by"] (defScope KHead.s_law_less_row) := ⟨rfl, rfl, rfl, by decide +kernel, rfl, by decide +kernel, by decide +kernel⟩
theorem o_law_less_row (X : K.In h) (G : h.Ns mainGlobals mg) (c : He.SaysX KHead.fa KHead.fn [] [] KHead.ex w h K) : ∃ fd, FnOk P w K mg base CX0 3 (He.fAd K ("_law_less_row", none)) fd ["row", "other", "by"] (lowSp K 3 (S_law_less_row)) ∧ PySem.W.keepIn K (.ref (He.fAd K ("_law_less_row", none))) = true ∧ Binds K fd ["row", "other", "by"] [] := by
  obtain ⟨fd, F⟩ : ∃ fd, FunD K "_law_less_row" "_law_less_row" (defArgs KHead.s_law_less_row) (defBody KHead.s_law_less_row) (defScope KHead.s_law_less_row) [] [] (He.fAd K ("_law_less_row", none)) fd := c.t.d.def_ 33 (d := KHead.d_law_less_row) rfl
  exact ⟨fd, Body.ok F sc_law_less_row rfl fun cdv A outer s H E hr => ⟨_, w_law_less_row (J_m_zip X G c) (J_d_law_plus X G c) (J_d_law_by X G c) hr, fun ds G Q _ h => l_law_less_row h⟩, F.kp, F.bindsN fun _ _ _ _ _ _ us hl => match us, hl with | [_, _, _], _ => rfl⟩
theorem J_d_law_less_row (X : K.In h) (G : h.Ns mainGlobals mg) (c : He.SaysX KHead.fa KHead.fn [] [] KHead.ex w h K) : CalD P w K mg base 3 "_law_less_row" 3 (S_law_less_row) := by
  obtain ⟨fd, F, kp, b⟩ := o_law_less_row (P := P) (base := base) X G c
  exact ⟨⟨_, fd, _, F, He.glo_ok X G (c.t.d.fact 22 (f := .glo "_law_less_row") rfl), kp, b⟩⟩
theorem sc_law_head : FnScope N_law_head ["row"] (defScope KHead.s_law_head) := ⟨rfl, rfl, rfl, by decide +kernel, rfl, by decide +kernel, by decide +kernel⟩
theorem o_law_head (X : K.In h) (G : h.Ns mainGlobals mg) (c : He.SaysX KHead.fa KHead.fn [] [] KHead.ex w h K) : ∃ fd, FnOk P w K mg base CX0 1 (He.fAd K ("_law_head", none)) fd ["row"] (lowSp K 1 (S_law_head)) ∧ PySem.W.keepIn K (.ref (He.fAd K ("_law_head", none))) = true ∧ Binds K fd ["row"] [] := by
  obtain ⟨fd, F⟩ : ∃ fd, FunD K "_law_head" "_law_head" (defArgs KHead.s_law_head) (defBody KHead.s_law_head) (defScope KHead.s_law_head) [] [] (He.fAd K ("_law_head", none)) fd := c.t.d.def_ 32 (d := KHead.d_law_head) rfl
  exact ⟨fd, Body.ok F sc_law_head rfl fun cdv A outer s H E hr => ⟨_, w_law_head (J_m_enumerate X G c) hr, fun ds G Q _ h => l_law_head h⟩, F.kp, F.bindsN fun _ _ _ _ _ _ us hl => match us, hl with | [_], _ => rfl⟩
theorem J_d_law_head (X : K.In h) (G : h.Ns mainGlobals mg) (c : He.SaysX KHead.fa KHead.fn [] [] KHead.ex w h K) : CalD P w K mg base 1 "_law_head" 1 (S_law_head) := by
  obtain ⟨fd, F, kp, b⟩ := o_law_head (P := P) (base := base) X G c
  exact ⟨⟨_, fd, _, F, He.glo_ok X G (c.t.d.fact 21 (f := .glo "_law_head") rfl), kp, b⟩⟩
theorem sc_law_table : FnScope N_law_table ["rows"] (defScope KHead.s_law_table) := ⟨rfl, rfl, rfl, by decide +kernel, rfl, by decide +kernel, by decide +kernel⟩
theorem o_law_table (X : K.In h) (G : h.Ns mainGlobals mg) (c : He.SaysX KHead.fa KHead.fn [] [] KHead.ex w h K) : ∃ fd, FnOk P w K mg base CX0 4 (He.fAd K ("_law_table", none)) fd ["rows"] (lowSp K 1 (S_law_table)) ∧ PySem.W.keepIn K (.ref (He.fAd K ("_law_table", none))) = true ∧ Binds K fd ["rows"] [] := by
  obtain ⟨fd, F⟩ : ∃ fd, FunD K "_law_table" "_law_table" (defArgs KHead.s_law_table) (defBody KHead.s_law_table) (defScope KHead.s_law_table) [] [] (He.fAd K ("_law_table", none)) fd := c.t.d.def_ 34 (d := KHead.d_law_table) rfl
  exact ⟨fd, Body.ok F sc_law_table rfl fun cdv A outer s H E hr => ⟨_, w_law_table (J_m_list X G c) (J_m_sorted X G c) (J_d_law_less_row X G c) (J_d_law_head X G c) (J_d_law_part X G c) (J_m_tuple X G c) hr, fun ds G Q _ h => l_law_table h⟩, F.kp, F.bindsN fun _ _ _ _ _ _ us hl => match us, hl with | [_], _ => rfl⟩
theorem J_d_law_table (X : K.In h) (G : h.Ns mainGlobals mg) (c : He.SaysX KHead.fa KHead.fn [] [] KHead.ex w h K) : CalD P w K mg base 4 "_law_table" 1 (S_law_table) := by
  obtain ⟨fd, F, kp, b⟩ := o_law_table (P := P) (base := base) X G c
  exact ⟨⟨_, fd, _, F, He.glo_ok X G (c.t.d.fact 23 (f := .glo "_law_table") rfl), kp, b⟩⟩
theorem sc_law_equals : FnScope N_law_equals ["heard", "other"] (defScope KHead.s_law_equals) := ⟨rfl, rfl, rfl, by decide +kernel, rfl, by decide +kernel, by decide +kernel⟩
theorem rec_law_equals (X : K.In h) (G : h.Ns mainGlobals mg) (c : He.SaysX KHead.fa KHead.fn [] [] KHead.ex w h K) {fd : FuncData} (F : FunD K "_law_equals" "_law_equals" (defArgs KHead.s_law_equals) (defBody KHead.s_law_equals) (defScope KHead.s_law_equals) [] [] (He.fAd K ("_law_equals", none)) fd) (kp : PySem.W.keepIn K (.ref (He.fAd K ("_law_equals", none))) = true) : ∀ n : Nat, FnOk P w K mg base CX0 (n + 1) (He.fAd K ("_law_equals", none)) fd ["heard", "other"] (lowSp K 2 (S_law_equals n))
  | 0 => Body.ok F sc_law_equals rfl fun cdv A outer s H E hr => ⟨dNever, xss_never, fun ds G Q _ h => h.elim⟩
  | n + 1 => Body.ok F sc_law_equals rfl fun cdv A outer s H E hr => ⟨_, w_law_equals (J_m_isinstance X G c) (J_m_tuple X G c) (J_m_len X G c) (J_m_zip X G c) (J_m_bool X G c) (J_m_str X G c) (J_m_int X G c) ⟨_, _, _, rec_law_equals X G c F kp n, He.glo_ok X G (c.t.d.fact 17 (f := .glo "_law_equals") rfl), kp, F.bindsN fun _ _ _ _ _ _ us hl => match us, hl with | [_, _], _ => rfl⟩ hr, fun ds G Q _ h => l_law_equals h⟩
theorem o_law_equals (X : K.In h) (G : h.Ns mainGlobals mg) (c : He.SaysX KHead.fa KHead.fn [] [] KHead.ex w h K) : ∃ fd, FnOk P w K mg base CX0 6 (He.fAd K ("_law_equals", none)) fd ["heard", "other"] (lowSp K 2 (S_law_equals 5)) ∧ PySem.W.keepIn K (.ref (He.fAd K ("_law_equals", none))) = true ∧ Binds K fd ["heard", "other"] [] := by
  obtain ⟨fd, F⟩ : ∃ fd, FunD K "_law_equals" "_law_equals" (defArgs KHead.s_law_equals) (defBody KHead.s_law_equals) (defScope KHead.s_law_equals) [] [] (He.fAd K ("_law_equals", none)) fd := c.t.d.def_ 28 (d := KHead.d_law_equals) rfl
  exact ⟨fd, rec_law_equals X G c F F.kp 5, F.kp, F.bindsN fun _ _ _ _ _ _ us hl => match us, hl with | [_, _], _ => rfl⟩
theorem J_d_law_equals (X : K.In h) (G : h.Ns mainGlobals mg) (c : He.SaysX KHead.fa KHead.fn [] [] KHead.ex w h K) : CalD P w K mg base 6 "_law_equals" 2 (S_law_equals 5) := by
  obtain ⟨fd, F, kp, b⟩ := o_law_equals (P := P) (base := base) X G c
  exact ⟨⟨_, fd, _, F, He.glo_ok X G (c.t.d.fact 17 (f := .glo "_law_equals") rfl), kp, b⟩⟩
theorem sc_is_whole : FnScope N_is_whole ["value"] (defScope KHead.s_is_whole) := ⟨rfl, rfl, rfl, by decide +kernel, rfl, by decide +kernel, by decide +kernel⟩
theorem o_is_whole (X : K.In h) (G : h.Ns mainGlobals mg) (c : He.SaysX KHead.fa KHead.fn [] [] KHead.ex w h K) : ∃ fd, FnOk P w K mg base CX0 1 (He.fAd K ("is_whole", none)) fd ["value"] (lowSp K 1 (S_is_whole)) ∧ PySem.W.keepIn K (.ref (He.fAd K ("is_whole", none))) = true ∧ Binds K fd ["value"] [] := by
  obtain ⟨fd, F⟩ : ∃ fd, FunD K "is_whole" "is_whole" (defArgs KHead.s_is_whole) (defBody KHead.s_is_whole) (defScope KHead.s_is_whole) [] [] (He.fAd K ("is_whole", none)) fd := c.t.d.def_ 1 (d := KHead.d_is_whole) rfl
  exact ⟨fd, Body.ok F sc_is_whole rfl fun cdv A outer s H E hr => ⟨_, w_is_whole (J_m_isinstance X G c) (J_m_int X G c) (J_m_bool X G c) hr, fun ds G Q _ h => l_is_whole h⟩, F.kp, F.bindsN fun _ _ _ _ _ _ us hl => match us, hl with | [_], _ => rfl⟩
theorem J_d_is_whole (X : K.In h) (G : h.Ns mainGlobals mg) (c : He.SaysX KHead.fa KHead.fn [] [] KHead.ex w h K) : CalD P w K mg base 1 "is_whole" 1 (S_is_whole) := by
  obtain ⟨fd, F, kp, b⟩ := o_is_whole (P := P) (base := base) X G c
  exact ⟨⟨_, fd, _, F, He.glo_ok X G (c.t.d.fact 1 (f := .glo "is_whole") rfl), kp, b⟩⟩
theorem sc_are_wholes : FnScope N_are_wholes ["value", "many"] (defScope KHead.s_are_wholes) := ⟨rfl, rfl, rfl, by decide +kernel, rfl, by decide +kernel, by decide +kernel⟩
theorem o_are_wholes (X : K.In h) (G : h.Ns mainGlobals mg) (c : He.SaysX KHead.fa KHead.fn [] [] KHead.ex w h K) : ∃ fd, FnOk P w K mg base CX0 2 (He.fAd K ("are_wholes", none)) fd ["value", "many"] (lowSp K 2 (S_are_wholes)) ∧ PySem.W.keepIn K (.ref (He.fAd K ("are_wholes", none))) = true ∧ Binds K fd ["value", "many"] [] := by
  obtain ⟨fd, F⟩ : ∃ fd, FunD K "are_wholes" "are_wholes" (defArgs KHead.s_are_wholes) (defBody KHead.s_are_wholes) (defScope KHead.s_are_wholes) [] [] (He.fAd K ("are_wholes", none)) fd := c.t.d.def_ 2 (d := KHead.d_are_wholes) rfl
  exact ⟨fd, Body.ok F sc_are_wholes rfl fun cdv A outer s H E hr => ⟨_, w_are_wholes (J_m_isinstance X G c) (J_m_tuple X G c) (J_m_len X G c) (J_m_all X G c) (J_d_is_whole X G c) hr, fun ds G Q _ h => l_are_wholes h⟩, F.kp, F.bindsN fun _ _ _ _ _ _ us hl => match us, hl with | [_, _], _ => rfl⟩
theorem J_d_are_wholes (X : K.In h) (G : h.Ns mainGlobals mg) (c : He.SaysX KHead.fa KHead.fn [] [] KHead.ex w h K) : CalD P w K mg base 2 "are_wholes" 2 (S_are_wholes) := by
  obtain ⟨fd, F, kp, b⟩ := o_are_wholes (P := P) (base := base) X G c
  exact ⟨⟨_, fd, _, F, He.glo_ok X G (c.t.d.fact 2 (f := .glo "are_wholes") rfl), kp, b⟩⟩
theorem sc_is_fraction : FnScope N_is_fraction ["value"] (defScope KHead.s_is_fraction) := ⟨rfl, rfl, rfl, by decide +kernel, rfl, by decide +kernel, by decide +kernel⟩
theorem o_is_fraction (X : K.In h) (G : h.Ns mainGlobals mg) (c : He.SaysX KHead.fa KHead.fn [] [] KHead.ex w h K) : ∃ fd, FnOk P w K mg base CX0 3 (He.fAd K ("is_fraction", none)) fd ["value"] (lowSp K 1 (S_is_fraction)) ∧ PySem.W.keepIn K (.ref (He.fAd K ("is_fraction", none))) = true ∧ Binds K fd ["value"] [] := by
  obtain ⟨fd, F⟩ : ∃ fd, FunD K "is_fraction" "is_fraction" (defArgs KHead.s_is_fraction) (defBody KHead.s_is_fraction) (defScope KHead.s_is_fraction) [] [] (He.fAd K ("is_fraction", none)) fd := c.t.d.def_ 5 (d := KHead.d_is_fraction) rfl
  exact ⟨fd, Body.ok F sc_is_fraction rfl fun cdv A outer s H E hr => ⟨_, w_is_fraction (J_d_are_wholes X G c) (J_m_gcd X G c) hr, fun ds G Q _ h => l_is_fraction h⟩, F.kp, F.bindsN fun _ _ _ _ _ _ us hl => match us, hl with | [_], _ => rfl⟩
theorem J_d_is_fraction (X : K.In h) (G : h.Ns mainGlobals mg) (c : He.SaysX KHead.fa KHead.fn [] [] KHead.ex w h K) : CalD P w K mg base 3 "is_fraction" 1 (S_is_fraction) := by
  obtain ⟨fd, F, kp, b⟩ := o_is_fraction (P := P) (base := base) X G c
  exact ⟨⟨_, fd, _, F, He.glo_ok X G (c.t.d.fact 5 (f := .glo "is_fraction") rfl), kp, b⟩⟩
theorem sc_are_fractions : FnScope N_are_fractions ["value", "many"] (defScope KHead.s_are_fractions) := ⟨rfl, rfl, rfl, by decide +kernel, rfl, by decide +kernel, by decide +kernel⟩
theorem o_are_fractions (X : K.In h) (G : h.Ns mainGlobals mg) (c : He.SaysX KHead.fa KHead.fn [] [] KHead.ex w h K) : ∃ fd, FnOk P w K mg base CX0 4 (He.fAd K ("are_fractions", none)) fd ["value", "many"] (lowSp K 2 (S_are_fractions)) ∧ PySem.W.keepIn K (.ref (He.fAd K ("are_fractions", none))) = true ∧ Binds K fd ["value", "many"] [] := by
  obtain ⟨fd, F⟩ : ∃ fd, FunD K "are_fractions" "are_fractions" (defArgs KHead.s_are_fractions) (defBody KHead.s_are_fractions) (defScope KHead.s_are_fractions) [] [] (He.fAd K ("are_fractions", none)) fd := c.t.d.def_ 6 (d := KHead.d_are_fractions) rfl
  exact ⟨fd, Body.ok F sc_are_fractions rfl fun cdv A outer s H E hr => ⟨_, w_are_fractions (J_m_isinstance X G c) (J_m_tuple X G c) (J_m_len X G c) (J_m_all X G c) (J_d_is_fraction X G c) hr, fun ds G Q _ h => l_are_fractions h⟩, F.kp, F.bindsN fun _ _ _ _ _ _ us hl => match us, hl with | [_, _], _ => rfl⟩
theorem J_d_are_fractions (X : K.In h) (G : h.Ns mainGlobals mg) (c : He.SaysX KHead.fa KHead.fn [] [] KHead.ex w h K) : CalD P w K mg base 4 "are_fractions" 2 (S_are_fractions) := by
  obtain ⟨fd, F, kp, b⟩ := o_are_fractions (P := P) (base := base) X G c
  exact ⟨⟨_, fd, _, F, He.glo_ok X G (c.t.d.fact 6 (f := .glo "are_fractions") rfl), kp, b⟩⟩
theorem sc_are_rows : FnScope N_are_rows ["value"] (defScope KHead.s_are_rows) := ⟨rfl, rfl, rfl, by decide +kernel, rfl, by decide +kernel, by decide +kernel⟩
theorem o_are_rows (X : K.In h) (G : h.Ns mainGlobals mg) (c : He.SaysX KHead.fa KHead.fn [] [] KHead.ex w h K) : ∃ fd, FnOk P w K mg base CX0 5 (He.fAd K ("are_rows", none)) fd ["value"] (lowSp K 1 (S_are_rows)) ∧ PySem.W.keepIn K (.ref (He.fAd K ("are_rows", none))) = true ∧ Binds K fd ["value"] [] := by
  obtain ⟨fd, F⟩ : ∃ fd, FunD K "are_rows" "are_rows" (defArgs KHead.s_are_rows) (defBody KHead.s_are_rows) (defScope KHead.s_are_rows) [] [] (He.fAd K ("are_rows", none)) fd := c.t.d.def_ 21 (d := KHead.d_are_rows) rfl
  exact ⟨fd, Body.ok F sc_are_rows rfl fun cdv A outer s H E hr => ⟨_, w_are_rows (J_m_isinstance X G c) (J_m_tuple X G c) (J_m_all X G c) (J_d_are_fractions X G c) (J_m_len X G c) hr, fun ds G Q _ h => l_are_rows h⟩, F.kp, F.bindsN fun _ _ _ _ _ _ us hl => match us, hl with | [_], _ => rfl⟩
theorem J_d_are_rows (X : K.In h) (G : h.Ns mainGlobals mg) (c : He.SaysX KHead.fa KHead.fn [] [] KHead.ex w h K) : CalD P w K mg base 5 "are_rows" 1 (S_are_rows) := by
  obtain ⟨fd, F, kp, b⟩ := o_are_rows (P := P) (base := base) X G c
  exact ⟨⟨_, fd, _, F, He.glo_ok X G (c.t.d.fact 10 (f := .glo "are_rows") rfl), kp, b⟩⟩
theorem sc_Reducer_initD : FnScope N_Reducer_initD ["self"] (defScope KHead.s_Reducer_initD) := ⟨rfl, rfl, rfl, by decide +kernel, rfl, by decide +kernel, by decide +kernel⟩
theorem o_Reducer_initD (X : K.In h) (G : h.Ns mainGlobals mg) (c : He.SaysX KHead.fa KHead.fn [] [] KHead.ex w h K) : ∃ fd, FnOk P w K mg base CX0 1 (He.fAd K ("Reducer", some "__init__")) fd ["self"] (lowSp K 1 (S_Reducer_initD (He.ga K "Reducer"))) ∧ PySem.W.keepIn K (.ref (He.fAd K ("Reducer", some "__init__"))) = true ∧ Binds K fd ["self"] [] := by
  obtain ⟨fd, F⟩ : ∃ fd, FunD K "__init__" "Reducer.__init__" (defArgs KHead.s_Reducer_initD) (defBody KHead.s_Reducer_initD) (defScope KHead.s_Reducer_initD) [] [] (He.fAd K ("Reducer", some "__init__")) fd := c.t.d.def_ 13 (d := KHead.d_Reducer_initD) rfl
  exact ⟨fd, Body.ok F sc_Reducer_initD rfl fun cdv A outer s H E hr => ⟨_, w_Reducer_initD (J_cls_Reducer X G c) (J_na_Reducer_lines X G c) hr, fun ds G Q _ h => l_Reducer_initD h⟩, F.kp, F.bindsN fun _ _ _ _ _ _ us hl => match us, hl with | [_], _ => rfl⟩
theorem J_mk_Reducer (X : K.In h) (G : h.Ns mainGlobals mg) (c : He.SaysX KHead.fa KHead.fn [] [] KHead.ex w h K) : MakD P w K mg base 1 "Reducer" (He.ga K "Reducer") 1 (S_Reducer_initD (He.ga K "Reducer")) := by
  obtain ⟨fd, F, kp, b⟩ := o_Reducer_initD (P := P) (base := base) X G c
  exact ⟨⟨_, fd, _, He.mkr_ok (c.t.d.fact 67 (f := .mkr "Reducer") rfl), F, He.glo_ok X G (c.t.d.fact 32 (f := .glo "Reducer") rfl), b⟩⟩
theorem sc_Line_initD : FnScope N_Line_initD ["self", "numbers", "shares"] (defScope KHead.s_Line_initD) := ⟨rfl, rfl, rfl, by decide +kernel, rfl, by decide +kernel, by decide +kernel⟩
theorem o_Line_initD (X : K.In h) (G : h.Ns mainGlobals mg) (c : He.SaysX KHead.fa KHead.fn [] [] KHead.ex w h K) : ∃ fd, FnOk P w K mg base CX0 1 (He.fAd K ("Line", some "__init__")) fd ["self", "numbers", "shares"] (lowSp K 3 (S_Line_initD (He.ga K "Line"))) ∧ PySem.W.keepIn K (.ref (He.fAd K ("Line", some "__init__"))) = true ∧ Binds K fd ["self", "numbers", "shares"] [] := by
  obtain ⟨fd, F⟩ : ∃ fd, FunD K "__init__" "Line.__init__" (defArgs KHead.s_Line_initD) (defBody KHead.s_Line_initD) (defScope KHead.s_Line_initD) [] [] (He.fAd K ("Line", some "__init__")) fd := c.t.d.def_ 8 (d := KHead.d_Line_initD) rfl
  exact ⟨fd, Body.ok F sc_Line_initD rfl fun cdv A outer s H E hr => ⟨_, w_Line_initD (J_cls_Line X G c) (J_na_Line_numbers X G c) (J_na_Line_shares X G c) hr, fun ds G Q _ h => l_Line_initD h⟩, F.kp, F.bindsN fun _ _ _ _ _ _ us hl => match us, hl with | [_, _, _], _ => rfl⟩
theorem J_mk_Line (X : K.In h) (G : h.Ns mainGlobals mg) (c : He.SaysX KHead.fa KHead.fn [] [] KHead.ex w h K) : MakD P w K mg base 1 "Line" (He.ga K "Line") 3 (S_Line_initD (He.ga K "Line")) := by
  obtain ⟨fd, F, kp, b⟩ := o_Line_initD (P := P) (base := base) X G c
  exact ⟨⟨_, fd, _, He.mkr_ok (c.t.d.fact 58 (f := .mkr "Line") rfl), F, He.glo_ok X G (c.t.d.fact 31 (f := .glo "Line") rfl), b⟩⟩
theorem sc_Line_small : FnScope N_Line_small ["self"] (defScope KHead.s_Line_small) := ⟨rfl, rfl, rfl, by decide +kernel, rfl, by decide +kernel, by decide +kernel⟩
theorem o_Line_small (X : K.In h) (G : h.Ns mainGlobals mg) (c : He.SaysX KHead.fa KHead.fn [] [] KHead.ex w h K) : ∃ fd, FnOk P w K mg base CX0 3 (He.fAd K ("Line", some "small")) fd ["self"] (lowSp K 1 (S_Line_small (He.ga K "Line"))) ∧ PySem.W.keepIn K (.ref (He.fAd K ("Line", some "small"))) = true ∧ Binds K fd ["self"] [] := by
  obtain ⟨fd, F⟩ : ∃ fd, FunD K "small" "Line.small" (defArgs KHead.s_Line_small) (defBody KHead.s_Line_small) (defScope KHead.s_Line_small) [] [] (He.fAd K ("Line", some "small")) fd := c.t.d.def_ 11 (d := KHead.d_Line_small) rfl
  exact ⟨fd, Body.ok F sc_Line_small rfl fun cdv A outer s H E hr => ⟨_, w_Line_small (J_cls_Line X G c) (J_na_Line_numbers X G c) (J_m_gcd X G c) (J_na_Line_shares X G c) (J_mk_Line X G c) hr, fun ds G Q _ h => l_Line_small h⟩, F.kp, F.bindsN fun _ _ _ _ _ _ us hl => match us, hl with | [_], _ => rfl⟩
theorem J_m_Line_small (X : K.In h) (G : h.Ns mainGlobals mg) (c : He.SaysX KHead.fa KHead.fn [] [] KHead.ex w h K) : MetD P w K mg base 3 (He.ga K "Line") "small" 1 (S_Line_small (He.ga K "Line")) := by
  obtain ⟨fd, F, kp, b⟩ := o_Line_small (P := P) (base := base) X G c
  exact ⟨⟨_, fd, _, J_cls_Line X G c, He.meth_ok (c.t.d.fact 57 (f := .meth "Line" "small") rfl), F, b⟩⟩
theorem sc_Line_less : FnScope N_Line_less ["self", "other", "at"] (defScope KHead.s_Line_less) := ⟨rfl, rfl, rfl, by decide +kernel, rfl, by decide +kernel, by decide +kernel⟩
theorem o_Line_less (X : K.In h) (G : h.Ns mainGlobals mg) (c : He.SaysX KHead.fa KHead.fn [] [] KHead.ex w h K) : ∃ fd, FnOk P w K mg base CX0 4 (He.fAd K ("Line", some "less")) fd ["self", "other", "at"] (lowSp K 3 (S_Line_less (He.ga K "Line"))) ∧ PySem.W.keepIn K (.ref (He.fAd K ("Line", some "less"))) = true ∧ Binds K fd ["self", "other", "at"] [] := by
  obtain ⟨fd, F⟩ : ∃ fd, FunD K "less" "Line.less" (defArgs KHead.s_Line_less) (defBody KHead.s_Line_less) (defScope KHead.s_Line_less) [] [] (He.fAd K ("Line", some "less")) fd := c.t.d.def_ 10 (d := KHead.d_Line_less) rfl
  exact ⟨fd, Body.ok F sc_Line_less rfl fun cdv A outer s H E hr => ⟨_, w_Line_less (J_cls_Line X G c) (J_na_Line_numbers X G c) (J_m_zip X G c) (J_na_Line_shares X G c) (J_m_Line_small X G c) (J_mk_Line X G c) hr, fun ds G Q _ h => l_Line_less h⟩, F.kp, F.bindsN fun _ _ _ _ _ _ us hl => match us, hl with | [_, _, _], _ => rfl⟩
theorem J_m_Line_less (X : K.In h) (G : h.Ns mainGlobals mg) (c : He.SaysX KHead.fa KHead.fn [] [] KHead.ex w h K) : MetD P w K mg base 4 (He.ga K "Line") "less" 3 (S_Line_less (He.ga K "Line")) := by
  obtain ⟨fd, F, kp, b⟩ := o_Line_less (P := P) (base := base) X G c
  exact ⟨⟨_, fd, _, J_cls_Line X G c, He.meth_ok (c.t.d.fact 56 (f := .meth "Line" "less") rfl), F, b⟩⟩
theorem sc_Reducer_left : FnScope N_Reducer_left ["self", "line"] (defScope KHead.s_Reducer_left) := ⟨rfl, rfl, rfl, by decide +kernel, rfl, by decide +kernel, by decide +kernel⟩
theorem o_Reducer_left (X : K.In h) (G : h.Ns mainGlobals mg) (c : He.SaysX KHead.fa KHead.fn [] [] KHead.ex w h K) : ∃ fd, FnOk P w K mg base CX0 5 (He.fAd K ("Reducer", some "left")) fd ["self", "line"] (lowSp K 2 (S_Reducer_left (He.ga K "Line") (He.ga K "Reducer"))) ∧ PySem.W.keepIn K (.ref (He.fAd K ("Reducer", some "left"))) = true ∧ Binds K fd ["self", "line"] [] := by
  obtain ⟨fd, F⟩ : ∃ fd, FunD K "left" "Reducer.left" (defArgs KHead.s_Reducer_left) (defBody KHead.s_Reducer_left) (defScope KHead.s_Reducer_left) [] [] (He.fAd K ("Reducer", some "left")) fd := c.t.d.def_ 14 (d := KHead.d_Reducer_left) rfl
  exact ⟨fd, Body.ok F sc_Reducer_left rfl fun cdv A outer s H E hr => ⟨_, w_Reducer_left (J_m_sorted X G c) (J_cls_Reducer X G c) (J_na_Reducer_lines X G c) (J_cls_Line X G c) (J_na_Line_numbers X G c) (J_m_Line_less X G c) hr, fun ds G Q _ h => l_Reducer_left h⟩, F.kp, F.bindsN fun _ _ _ _ _ _ us hl => match us, hl with | [_, _], _ => rfl⟩
theorem J_m_Reducer_left (X : K.In h) (G : h.Ns mainGlobals mg) (c : He.SaysX KHead.fa KHead.fn [] [] KHead.ex w h K) : MetD P w K mg base 5 (He.ga K "Reducer") "left" 2 (S_Reducer_left (He.ga K "Line") (He.ga K "Reducer")) := by
  obtain ⟨fd, F, kp, b⟩ := o_Reducer_left (P := P) (base := base) X G c
  exact ⟨⟨_, fd, _, J_cls_Reducer X G c, He.meth_ok (c.t.d.fact 61 (f := .meth "Reducer" "left") rfl), F, b⟩⟩
theorem sc_line_of : FnScope N_line_of ["row", "label"] (defScope KHead.s_line_of) := ⟨rfl, rfl, rfl, by decide +kernel, rfl, by decide +kernel, by decide +kernel⟩
theorem o_line_of (X : K.In h) (G : h.Ns mainGlobals mg) (c : He.SaysX KHead.fa KHead.fn [] [] KHead.ex w h K) : ∃ fd, FnOk P w K mg base CX0 3 (He.fAd K ("line_of", none)) fd ["row", "label"] (lowSp K 2 (S_line_of (He.ga K "Line"))) ∧ PySem.W.keepIn K (.ref (He.fAd K ("line_of", none))) = true ∧ Binds K fd ["row", "label"] [] := by
  obtain ⟨fd, F⟩ : ∃ fd, FunD K "line_of" "line_of" (defArgs KHead.s_line_of) (defBody KHead.s_line_of) (defScope KHead.s_line_of) [] [] (He.fAd K ("line_of", none)) fd := c.t.d.def_ 12 (d := KHead.d_line_of) rfl
  exact ⟨fd, Body.ok F sc_line_of rfl fun cdv A outer s H E hr => ⟨_, w_line_of (J_m_gcd X G c) (J_mk_Line X G c) hr, fun ds G Q _ h => l_line_of h⟩, F.kp, F.bindsN fun _ _ _ _ _ _ us hl => match us, hl with | [_, _], _ => rfl⟩
theorem J_d_line_of (X : K.In h) (G : h.Ns mainGlobals mg) (c : He.SaysX KHead.fa KHead.fn [] [] KHead.ex w h K) : CalD P w K mg base 3 "line_of" 2 (S_line_of (He.ga K "Line")) := by
  obtain ⟨fd, F, kp, b⟩ := o_line_of (P := P) (base := base) X G c
  exact ⟨⟨_, fd, _, F, He.glo_ok X G (c.t.d.fact 8 (f := .glo "line_of") rfl), kp, b⟩⟩
theorem sc_Line_lead : FnScope N_Line_lead ["self"] (defScope KHead.s_Line_lead) := ⟨rfl, rfl, rfl, by decide +kernel, rfl, by decide +kernel, by decide +kernel⟩
theorem o_Line_lead (X : K.In h) (G : h.Ns mainGlobals mg) (c : He.SaysX KHead.fa KHead.fn [] [] KHead.ex w h K) : ∃ fd, FnOk P w K mg base CX0 1 (He.fAd K ("Line", some "lead")) fd ["self"] (lowSp K 1 (S_Line_lead (He.ga K "Line"))) ∧ PySem.W.keepIn K (.ref (He.fAd K ("Line", some "lead"))) = true ∧ Binds K fd ["self"] [] := by
  obtain ⟨fd, F⟩ : ∃ fd, FunD K "lead" "Line.lead" (defArgs KHead.s_Line_lead) (defBody KHead.s_Line_lead) (defScope KHead.s_Line_lead) [] [] (He.fAd K ("Line", some "lead")) fd := c.t.d.def_ 9 (d := KHead.d_Line_lead) rfl
  exact ⟨fd, Body.ok F sc_Line_lead rfl fun cdv A outer s H E hr => ⟨_, w_Line_lead (J_m_len X G c) (J_cls_Line X G c) (J_na_Line_numbers X G c) hr, fun ds G Q _ h => l_Line_lead h⟩, F.kp, F.bindsN fun _ _ _ _ _ _ us hl => match us, hl with | [_], _ => rfl⟩
theorem J_m_Line_lead (X : K.In h) (G : h.Ns mainGlobals mg) (c : He.SaysX KHead.fa KHead.fn [] [] KHead.ex w h K) : MetD P w K mg base 1 (He.ga K "Line") "lead" 1 (S_Line_lead (He.ga K "Line")) := by
  obtain ⟨fd, F, kp, b⟩ := o_Line_lead (P := P) (base := base) X G c
  exact ⟨⟨_, fd, _, J_cls_Line X G c, He.meth_ok (c.t.d.fact 55 (f := .meth "Line" "lead") rfl), F, b⟩⟩
theorem sc_Reducer_add : FnScope N_Reducer_add ["self", "row", "label"] (defScope KHead.s_Reducer_add) := ⟨rfl, rfl, rfl, by decide +kernel, rfl, by decide +kernel, by decide +kernel⟩
theorem o_Reducer_add (X : K.In h) (G : h.Ns mainGlobals mg) (c : He.SaysX KHead.fa KHead.fn [] [] KHead.ex w h K) : ∃ fd, FnOk P w K mg base CX0 6 (He.fAd K ("Reducer", some "add")) fd ["self", "row", "label"] (lowSp K 3 (S_Reducer_add (He.ga K "Line") (He.ga K "Reducer"))) ∧ PySem.W.keepIn K (.ref (He.fAd K ("Reducer", some "add"))) = true ∧ Binds K fd ["self", "row", "label"] [] := by
  obtain ⟨fd, F⟩ : ∃ fd, FunD K "add" "Reducer.add" (defArgs KHead.s_Reducer_add) (defBody KHead.s_Reducer_add) (defScope KHead.s_Reducer_add) [] [] (He.fAd K ("Reducer", some "add")) fd := c.t.d.def_ 15 (d := KHead.d_Reducer_add) rfl
  exact ⟨fd, Body.ok F sc_Reducer_add rfl fun cdv A outer s H E hr => ⟨_, w_Reducer_add (J_m_Reducer_left X G c) (J_d_line_of X G c) (J_m_Line_lead X G c) (J_m_len X G c) (J_m_list X G c) (J_cls_Reducer X G c) (J_na_Reducer_lines X G c) (J_cls_Line X G c) (J_na_Line_numbers X G c) (J_m_Line_less X G c) hr, fun ds G Q _ h => l_Reducer_add h⟩, F.kp, F.bindsN fun _ _ _ _ _ _ us hl => match us, hl with | [_, _, _], _ => rfl⟩
theorem J_m_Reducer_add (X : K.In h) (G : h.Ns mainGlobals mg) (c : He.SaysX KHead.fa KHead.fn [] [] KHead.ex w h K) : MetD P w K mg base 6 (He.ga K "Reducer") "add" 3 (S_Reducer_add (He.ga K "Line") (He.ga K "Reducer")) := by
  obtain ⟨fd, F, kp, b⟩ := o_Reducer_add (P := P) (base := base) X G c
  exact ⟨⟨_, fd, _, J_cls_Reducer X G c, He.meth_ok (c.t.d.fact 62 (f := .meth "Reducer" "add") rfl), F, b⟩⟩
theorem sc_fraction : FnScope N_fraction ["top", "under"] (defScope KHead.s_fraction) := ⟨rfl, rfl, rfl, by decide +kernel, rfl, by decide +kernel, by decide +kernel⟩
theorem o_fraction (X : K.In h) (G : h.Ns mainGlobals mg) (c : He.SaysX KHead.fa KHead.fn [] [] KHead.ex w h K) : ∃ fd, FnOk P w K mg base CX0 1 (He.fAd K ("fraction", none)) fd ["top", "under"] (lowSp K 2 (S_fraction)) ∧ PySem.W.keepIn K (.ref (He.fAd K ("fraction", none))) = true ∧ Binds K fd ["top", "under"] [] := by
  obtain ⟨fd, F⟩ : ∃ fd, FunD K "fraction" "fraction" (defArgs KHead.s_fraction) (defBody KHead.s_fraction) (defScope KHead.s_fraction) [] [] (He.fAd K ("fraction", none)) fd := c.t.d.def_ 4 (d := KHead.d_fraction) rfl
  exact ⟨fd, Body.ok F sc_fraction rfl fun cdv A outer s H E hr => ⟨_, w_fraction (J_m_gcd X G c) hr, fun ds G Q _ h => l_fraction h⟩, F.kp, F.bindsN fun _ _ _ _ _ _ us hl => match us, hl with | [_, _], _ => rfl⟩
theorem J_d_fraction (X : K.In h) (G : h.Ns mainGlobals mg) (c : He.SaysX KHead.fa KHead.fn [] [] KHead.ex w h K) : CalD P w K mg base 1 "fraction" 2 (S_fraction) := by
  obtain ⟨fd, F, kp, b⟩ := o_fraction (P := P) (base := base) X G c
  exact ⟨⟨_, fd, _, F, He.glo_ok X G (c.t.d.fact 4 (f := .glo "fraction") rfl), kp, b⟩⟩
theorem sc_Reducer_row_at : FnScope N_Reducer_row_at ["self", "at"] (defScope KHead.s_Reducer_row_at) := ⟨rfl, rfl, rfl, by decide +kernel, rfl, by decide +kernel, by decide +kernel⟩
theorem o_Reducer_row_at (X : K.In h) (G : h.Ns mainGlobals mg) (c : He.SaysX KHead.fa KHead.fn [] [] KHead.ex w h K) : ∃ fd, FnOk P w K mg base CX0 2 (He.fAd K ("Reducer", some "row_at")) fd ["self", "at"] (lowSp K 2 (S_Reducer_row_at (He.ga K "Line") (He.ga K "Reducer"))) ∧ PySem.W.keepIn K (.ref (He.fAd K ("Reducer", some "row_at"))) = true ∧ Binds K fd ["self", "at"] [] := by
  obtain ⟨fd, F⟩ : ∃ fd, FunD K "row_at" "Reducer.row_at" (defArgs KHead.s_Reducer_row_at) (defBody KHead.s_Reducer_row_at) (defScope KHead.s_Reducer_row_at) [] [] (He.fAd K ("Reducer", some "row_at")) fd := c.t.d.def_ 16 (d := KHead.d_Reducer_row_at) rfl
  exact ⟨fd, Body.ok F sc_Reducer_row_at rfl fun cdv A outer s H E hr => ⟨_, w_Reducer_row_at (J_cls_Reducer X G c) (J_na_Reducer_lines X G c) (J_m_tuple X G c) (J_cls_Line X G c) (J_na_Line_numbers X G c) (J_d_fraction X G c) hr, fun ds G Q _ h => l_Reducer_row_at h⟩, F.kp, F.bindsN fun _ _ _ _ _ _ us hl => match us, hl with | [_, _], _ => rfl⟩
theorem J_m_Reducer_row_at (X : K.In h) (G : h.Ns mainGlobals mg) (c : He.SaysX KHead.fa KHead.fn [] [] KHead.ex w h K) : MetD P w K mg base 2 (He.ga K "Reducer") "row_at" 2 (S_Reducer_row_at (He.ga K "Line") (He.ga K "Reducer")) := by
  obtain ⟨fd, F, kp, b⟩ := o_Reducer_row_at (P := P) (base := base) X G c
  exact ⟨⟨_, fd, _, J_cls_Reducer X G c, He.meth_ok (c.t.d.fact 63 (f := .meth "Reducer" "row_at") rfl), F, b⟩⟩
theorem sc_Reducer_told_rows : FnScope N_Reducer_told_rows ["self"] (defScope KHead.s_Reducer_told_rows) := ⟨rfl, rfl, rfl, by decide +kernel, rfl, by decide +kernel, by decide +kernel⟩
theorem o_Reducer_told_rows (X : K.In h) (G : h.Ns mainGlobals mg) (c : He.SaysX KHead.fa KHead.fn [] [] KHead.ex w h K) : ∃ fd, FnOk P w K mg base CX0 3 (He.fAd K ("Reducer", some "told_rows")) fd ["self"] (lowSp K 1 (S_Reducer_told_rows (He.ga K "Line") (He.ga K "Reducer"))) ∧ PySem.W.keepIn K (.ref (He.fAd K ("Reducer", some "told_rows"))) = true ∧ Binds K fd ["self"] [] := by
  obtain ⟨fd, F⟩ : ∃ fd, FunD K "told_rows" "Reducer.told_rows" (defArgs KHead.s_Reducer_told_rows) (defBody KHead.s_Reducer_told_rows) (defScope KHead.s_Reducer_told_rows) [] [] (He.fAd K ("Reducer", some "told_rows")) fd := c.t.d.def_ 17 (d := KHead.d_Reducer_told_rows) rfl
  exact ⟨fd, Body.ok F sc_Reducer_told_rows rfl fun cdv A outer s H E hr => ⟨_, w_Reducer_told_rows (J_m_tuple X G c) (J_m_sorted X G c) (J_cls_Reducer X G c) (J_na_Reducer_lines X G c) (J_m_Reducer_row_at X G c) hr, fun ds G Q _ h => l_Reducer_told_rows h⟩, F.kp, F.bindsN fun _ _ _ _ _ _ us hl => match us, hl with | [_], _ => rfl⟩
theorem J_m_Reducer_told_rows (X : K.In h) (G : h.Ns mainGlobals mg) (c : He.SaysX KHead.fa KHead.fn [] [] KHead.ex w h K) : MetD P w K mg base 3 (He.ga K "Reducer") "told_rows" 1 (S_Reducer_told_rows (He.ga K "Line") (He.ga K "Reducer")) := by
  obtain ⟨fd, F, kp, b⟩ := o_Reducer_told_rows (P := P) (base := base) X G c
  exact ⟨⟨_, fd, _, J_cls_Reducer X G c, He.meth_ok (c.t.d.fact 64 (f := .meth "Reducer" "told_rows") rfl), F, b⟩⟩
theorem sc_reduced : FnScope N_reduced ["rows"] (defScope KHead.s_reduced) := ⟨rfl, rfl, rfl, by decide +kernel, rfl, by decide +kernel, by decide +kernel⟩
theorem o_reduced (X : K.In h) (G : h.Ns mainGlobals mg) (c : He.SaysX KHead.fa KHead.fn [] [] KHead.ex w h K) : ∃ fd, FnOk P w K mg base CX0 7 (He.fAd K ("reduced", none)) fd ["rows"] (lowSp K 1 (S_reduced)) ∧ PySem.W.keepIn K (.ref (He.fAd K ("reduced", none))) = true ∧ Binds K fd ["rows"] [] := by
  obtain ⟨fd, F⟩ : ∃ fd, FunD K "reduced" "reduced" (defArgs KHead.s_reduced) (defBody KHead.s_reduced) (defScope KHead.s_reduced) [] [] (He.fAd K ("reduced", none)) fd := c.t.d.def_ 20 (d := KHead.d_reduced) rfl
  exact ⟨fd, Body.ok F sc_reduced rfl fun cdv A outer s H E hr => ⟨_, w_reduced (J_mk_Reducer X G c) (J_m_enumerate X G c) (J_m_Reducer_add X G c) (J_m_Reducer_told_rows X G c) hr, fun ds G Q _ h => l_reduced h⟩, F.kp, F.bindsN fun _ _ _ _ _ _ us hl => match us, hl with | [_], _ => rfl⟩
theorem J_d_reduced (X : K.In h) (G : h.Ns mainGlobals mg) (c : He.SaysX KHead.fa KHead.fn [] [] KHead.ex w h K) : CalD P w K mg base 7 "reduced" 1 (S_reduced) := by
  obtain ⟨fd, F, kp, b⟩ := o_reduced (P := P) (base := base) X G c
  exact ⟨⟨_, fd, _, F, He.glo_ok X G (c.t.d.fact 9 (f := .glo "reduced") rfl), kp, b⟩⟩
theorem sc_table : FnScope N_table ["rows"] (defScope KHead.s_table) := ⟨rfl, rfl, rfl, by decide +kernel, rfl, by decide +kernel, by decide +kernel⟩
theorem o_table (X : K.In h) (G : h.Ns mainGlobals mg) (c : He.SaysX KHead.fa KHead.fn [] [] KHead.ex w h K) : ∃ fd, FnOk P w K mg base CX0 8 (He.fAd K ("table", none)) fd ["rows"] (lowSp K 1 (S_table)) ∧ PySem.W.keepIn K (.ref (He.fAd K ("table", none))) = true ∧ Binds K fd ["rows"] [] := by
  obtain ⟨fd, F⟩ : ∃ fd, FunD K "table" "table" (defArgs KHead.s_table) (defBody KHead.s_table) (defScope KHead.s_table) [] [] (He.fAd K ("table", none)) fd := c.t.d.def_ 23 (d := KHead.d_table) rfl
  exact ⟨fd, Body.ok F sc_table rfl fun cdv A outer s H E hr => ⟨_, w_table (J_d_are_rows X G c) (J_d_reduced X G c) hr, fun ds G Q _ h => l_table h⟩, F.kp, F.bindsN fun _ _ _ _ _ _ us hl => match us, hl with | [_], _ => rfl⟩
theorem J_d_table (X : K.In h) (G : h.Ns mainGlobals mg) (c : He.SaysX KHead.fa KHead.fn [] [] KHead.ex w h K) : CalD P w K mg base 8 "table" 1 (S_table) := by
  obtain ⟨fd, F, kp, b⟩ := o_table (P := P) (base := base) X G c
  exact ⟨⟨_, fd, _, F, He.glo_ok X G (c.t.d.fact 12 (f := .glo "table") rfl), kp, b⟩⟩
theorem J_k_table (X : K.In h) (G : h.Ns mainGlobals mg) (c : He.SaysX KHead.fa KHead.fn [] [] KHead.ex w h K) : CalK P w K mg base 8 "table" ["rows"] 1 (S_table) := by
  obtain ⟨fd, F⟩ : ∃ fd, FunD K "table" "table" (defArgs KHead.s_table) (defBody KHead.s_table) (defScope KHead.s_table) [] [] (He.fAd K ("table", none)) fd := c.t.d.def_ 23 (d := KHead.d_table) rfl
  exact ⟨⟨_, fd, _, Body.ok F sc_table rfl fun cdv A outer s H E hr => ⟨_, w_table (J_d_are_rows X G c) (J_d_reduced X G c) hr, fun ds G Q _ h => l_table h⟩, He.glo_ok X G (c.t.d.fact 12 (f := .glo "table") rfl), F.kp, kb1 F (fun _ _ _ _ _ _ _ => rfl) (fun _ _ _ _ _ _ _ => rfl)⟩⟩
theorem sc_law_mixed_rows : FnScope N_law_mixed_rows ["urn", "rows", "wide"] (defScope KHead.s_law_mixed_rows) := ⟨rfl, rfl, rfl, by decide +kernel, rfl, by decide +kernel, by decide +kernel⟩
theorem o_law_mixed_rows (X : K.In h) (G : h.Ns mainGlobals mg) (c : He.SaysX KHead.fa KHead.fn [] [] KHead.ex w h K) : ∃ fd, FnOk P w K mg base CX0 3 (He.fAd K ("_law_mixed_rows", none)) fd ["urn", "rows", "wide"] (lowSp K 3 (S_law_mixed_rows)) ∧ PySem.W.keepIn K (.ref (He.fAd K ("_law_mixed_rows", none))) = true ∧ Binds K fd ["urn", "rows", "wide"] [] := by
  obtain ⟨fd, F⟩ : ∃ fd, FunD K "_law_mixed_rows" "_law_mixed_rows" (defArgs KHead.s_law_mixed_rows) (defBody KHead.s_law_mixed_rows) (defScope KHead.s_law_mixed_rows) [] [] (He.fAd K ("_law_mixed_rows", none)) fd := c.t.d.def_ 36 (d := KHead.d_law_mixed_rows) rfl
  exact ⟨fd, Body.ok F sc_law_mixed_rows rfl fun cdv A outer s H E hr => ⟨_, w_law_mixed_rows (J_m_list X G c) (J_m_range X G c) (J_m_len X G c) (J_d_law_ball X G c) (J_d_law_part X G c) (J_d_law_one_of X G c) (J_m_tuple X G c) (J_d_law_by X G c) (J_m_zip X G c) (J_d_law_plus X G c) hr, fun ds G Q _ h => l_law_mixed_rows h⟩, F.kp, F.bindsN fun _ _ _ _ _ _ us hl => match us, hl with | [_, _, _], _ => rfl⟩
theorem J_d_law_mixed_rows (X : K.In h) (G : h.Ns mainGlobals mg) (c : He.SaysX KHead.fa KHead.fn [] [] KHead.ex w h K) : CalD P w K mg base 3 "_law_mixed_rows" 3 (S_law_mixed_rows) := by
  obtain ⟨fd, F, kp, b⟩ := o_law_mixed_rows (P := P) (base := base) X G c
  exact ⟨⟨_, fd, _, F, He.glo_ok X G (c.t.d.fact 25 (f := .glo "_law_mixed_rows") rfl), kp, b⟩⟩
theorem sc_is_nought_row : FnScope N_is_nought_row ["row"] (defScope KHead.s_is_nought_row) := ⟨rfl, rfl, rfl, by decide +kernel, rfl, by decide +kernel, by decide +kernel⟩
theorem o_is_nought_row (X : K.In h) (G : h.Ns mainGlobals mg) (c : He.SaysX KHead.fa KHead.fn [] [] KHead.ex w h K) : ∃ fd, FnOk P w K mg base CX0 1 (He.fAd K ("is_nought_row", none)) fd ["row"] (lowSp K 1 (S_is_nought_row)) ∧ PySem.W.keepIn K (.ref (He.fAd K ("is_nought_row", none))) = true ∧ Binds K fd ["row"] [] := by
  obtain ⟨fd, F⟩ : ∃ fd, FunD K "is_nought_row" "is_nought_row" (defArgs KHead.s_is_nought_row) (defBody KHead.s_is_nought_row) (defScope KHead.s_is_nought_row) [] [] (He.fAd K ("is_nought_row", none)) fd := c.t.d.def_ 7 (d := KHead.d_is_nought_row) rfl
  exact ⟨fd, Body.ok F sc_is_nought_row rfl fun cdv A outer s H E hr => ⟨_, w_is_nought_row (J_m_all X G c) hr, fun ds G Q _ h => l_is_nought_row h⟩, F.kp, F.bindsN fun _ _ _ _ _ _ us hl => match us, hl with | [_], _ => rfl⟩
theorem J_d_is_nought_row (X : K.In h) (G : h.Ns mainGlobals mg) (c : He.SaysX KHead.fa KHead.fn [] [] KHead.ex w h K) : CalD P w K mg base 1 "is_nought_row" 1 (S_is_nought_row) := by
  obtain ⟨fd, F, kp, b⟩ := o_is_nought_row (P := P) (base := base) X G c
  exact ⟨⟨_, fd, _, F, He.glo_ok X G (c.t.d.fact 7 (f := .glo "is_nought_row") rfl), kp, b⟩⟩
theorem sc_lead_of : FnScope N_lead_of ["row"] (defScope KHead.s_lead_of) := ⟨rfl, rfl, rfl, by decide +kernel, rfl, by decide +kernel, by decide +kernel⟩
theorem o_lead_of (X : K.In h) (G : h.Ns mainGlobals mg) (c : He.SaysX KHead.fa KHead.fn [] [] KHead.ex w h K) : ∃ fd, FnOk P w K mg base CX0 1 (He.fAd K ("lead_of", none)) fd ["row"] (lowSp K 1 (S_lead_of)) ∧ PySem.W.keepIn K (.ref (He.fAd K ("lead_of", none))) = true ∧ Binds K fd ["row"] [] := by
  obtain ⟨fd, F⟩ : ∃ fd, FunD K "lead_of" "lead_of" (defArgs KHead.s_lead_of) (defBody KHead.s_lead_of) (defScope KHead.s_lead_of) [] [] (He.fAd K ("lead_of", none)) fd := c.t.d.def_ 22 (d := KHead.d_lead_of) rfl
  exact ⟨fd, Body.ok F sc_lead_of rfl fun cdv A outer s H E hr => ⟨_, w_lead_of (J_m_enumerate X G c) hr, fun ds G Q _ h => l_lead_of h⟩, F.kp, F.bindsN fun _ _ _ _ _ _ us hl => match us, hl with | [_], _ => rfl⟩
theorem J_d_lead_of (X : K.In h) (G : h.Ns mainGlobals mg) (c : He.SaysX KHead.fa KHead.fn [] [] KHead.ex w h K) : CalD P w K mg base 1 "lead_of" 1 (S_lead_of) := by
  obtain ⟨fd, F, kp, b⟩ := o_lead_of (P := P) (base := base) X G c
  exact ⟨⟨_, fd, _, F, He.glo_ok X G (c.t.d.fact 11 (f := .glo "lead_of") rfl), kp, b⟩⟩
theorem sc_is_rising : FnScope N_is_rising ["some"] (defScope KHead.s_is_rising) := ⟨rfl, rfl, rfl, by decide +kernel, rfl, by decide +kernel, by decide +kernel⟩
theorem o_is_rising (X : K.In h) (G : h.Ns mainGlobals mg) (c : He.SaysX KHead.fa KHead.fn [] [] KHead.ex w h K) : ∃ fd, FnOk P w K mg base CX0 1 (He.fAd K ("is_rising", none)) fd ["some"] (lowSp K 1 (S_is_rising)) ∧ PySem.W.keepIn K (.ref (He.fAd K ("is_rising", none))) = true ∧ Binds K fd ["some"] [] := by
  obtain ⟨fd, F⟩ : ∃ fd, FunD K "is_rising" "is_rising" (defArgs KHead.s_is_rising) (defBody KHead.s_is_rising) (defScope KHead.s_is_rising) [] [] (He.fAd K ("is_rising", none)) fd := c.t.d.def_ 3 (d := KHead.d_is_rising) rfl
  exact ⟨fd, Body.ok F sc_is_rising rfl fun cdv A outer s H E hr => ⟨_, w_is_rising (J_m_all X G c) (J_m_zip X G c) hr, fun ds G Q _ h => l_is_rising h⟩, F.kp, F.bindsN fun _ _ _ _ _ _ us hl => match us, hl with | [_], _ => rfl⟩
theorem J_d_is_rising (X : K.In h) (G : h.Ns mainGlobals mg) (c : He.SaysX KHead.fa KHead.fn [] [] KHead.ex w h K) : CalD P w K mg base 1 "is_rising" 1 (S_is_rising) := by
  obtain ⟨fd, F, kp, b⟩ := o_is_rising (P := P) (base := base) X G c
  exact ⟨⟨_, fd, _, F, He.glo_ok X G (c.t.d.fact 3 (f := .glo "is_rising") rfl), kp, b⟩⟩
theorem sc_is_table : FnScope N_is_table ["value"] (defScope KHead.s_is_table) := ⟨rfl, rfl, rfl, by decide +kernel, rfl, by decide +kernel, by decide +kernel⟩
theorem o_is_table (X : K.In h) (G : h.Ns mainGlobals mg) (c : He.SaysX KHead.fa KHead.fn [] [] KHead.ex w h K) : ∃ fd, FnOk P w K mg base CX0 6 (He.fAd K ("is_table", none)) fd ["value"] (lowSp K 1 (S_is_table)) ∧ PySem.W.keepIn K (.ref (He.fAd K ("is_table", none))) = true ∧ Binds K fd ["value"] [] := by
  obtain ⟨fd, F⟩ : ∃ fd, FunD K "is_table" "is_table" (defArgs KHead.s_is_table) (defBody KHead.s_is_table) (defScope KHead.s_is_table) [] [] (He.fAd K ("is_table", none)) fd := c.t.d.def_ 24 (d := KHead.d_is_table) rfl
  exact ⟨fd, Body.ok F sc_is_table rfl fun cdv A outer s H E hr => ⟨_, w_is_table (J_d_are_rows X G c) (J_m_any X G c) (J_d_is_nought_row X G c) (J_d_lead_of X G c) (J_d_is_rising X G c) (J_m_zip X G c) (J_c_ONE X G c) (J_m_all X G c) hr, fun ds G Q _ h => l_is_table h⟩, F.kp, F.bindsN fun _ _ _ _ _ _ us hl => match us, hl with | [_], _ => rfl⟩
theorem J_d_is_table (X : K.In h) (G : h.Ns mainGlobals mg) (c : He.SaysX KHead.fa KHead.fn [] [] KHead.ex w h K) : CalD P w K mg base 6 "is_table" 1 (S_is_table) := by
  obtain ⟨fd, F, kp, b⟩ := o_is_table (P := P) (base := base) X G c
  exact ⟨⟨_, fd, _, F, He.glo_ok X G (c.t.d.fact 13 (f := .glo "is_table") rfl), kp, b⟩⟩
theorem J_k_is_table (X : K.In h) (G : h.Ns mainGlobals mg) (c : He.SaysX KHead.fa KHead.fn [] [] KHead.ex w h K) : CalK P w K mg base 6 "is_table" ["value"] 1 (S_is_table) := by
  obtain ⟨fd, F⟩ : ∃ fd, FunD K "is_table" "is_table" (defArgs KHead.s_is_table) (defBody KHead.s_is_table) (defScope KHead.s_is_table) [] [] (He.fAd K ("is_table", none)) fd := c.t.d.def_ 24 (d := KHead.d_is_table) rfl
  exact ⟨⟨_, fd, _, Body.ok F sc_is_table rfl fun cdv A outer s H E hr => ⟨_, w_is_table (J_d_are_rows X G c) (J_m_any X G c) (J_d_is_nought_row X G c) (J_d_lead_of X G c) (J_d_is_rising X G c) (J_m_zip X G c) (J_c_ONE X G c) (J_m_all X G c) hr, fun ds G Q _ h => l_is_table h⟩, He.glo_ok X G (c.t.d.fact 13 (f := .glo "is_table") rfl), F.kp, kb1 F (fun _ _ _ _ _ _ _ => rfl) (fun _ _ _ _ _ _ _ => rfl)⟩⟩
theorem sc_law_odd_tables : FnScope N_law_odd_tables ["urn", "rows", "wide"] (defScope KHead.s_law_odd_tables) := ⟨rfl, rfl, rfl, by decide +kernel, rfl, by decide +kernel, by decide +kernel⟩
theorem o_law_odd_tables (X : K.In h) (G : h.Ns mainGlobals mg) (c : He.SaysX KHead.fa KHead.fn [] [] KHead.ex w h K) : ∃ fd, FnOk P w K mg base CX0 3 (He.fAd K ("_law_odd_tables", none)) fd ["urn", "rows", "wide"] (lowSp K 3 (S_law_odd_tables)) ∧ PySem.W.keepIn K (.ref (He.fAd K ("_law_odd_tables", none))) = true ∧ Binds K fd ["urn", "rows", "wide"] [] := by
  obtain ⟨fd, F⟩ : ∃ fd, FunD K "_law_odd_tables" "_law_odd_tables" (defArgs KHead.s_law_odd_tables) (defBody KHead.s_law_odd_tables) (defScope KHead.s_law_odd_tables) [] [] (He.fAd K ("_law_odd_tables", none)) fd := c.t.d.def_ 37 (d := KHead.d_law_odd_tables) rfl
  exact ⟨fd, Body.ok F sc_law_odd_tables rfl fun cdv A outer s H E hr => ⟨_, w_law_odd_tables (J_m_list X G c) (J_m_tuple X G c) (J_m_len X G c) (J_d_law_by X G c) (J_m_zip X G c) (J_d_law_plus X G c) hr, fun ds G Q _ h => l_law_odd_tables h⟩, F.kp, F.bindsN fun _ _ _ _ _ _ us hl => match us, hl with | [_, _, _], _ => rfl⟩
theorem J_d_law_odd_tables (X : K.In h) (G : h.Ns mainGlobals mg) (c : He.SaysX KHead.fa KHead.fn [] [] KHead.ex w h K) : CalD P w K mg base 3 "_law_odd_tables" 3 (S_law_odd_tables) := by
  obtain ⟨fd, F, kp, b⟩ := o_law_odd_tables (P := P) (base := base) X G c
  exact ⟨⟨_, fd, _, F, He.glo_ok X G (c.t.d.fact 26 (f := .glo "_law_odd_tables") rfl), kp, b⟩⟩
theorem sc_law_right : FnScope N_law_right ["urn"] (defScope KHead.s_law_right) := ⟨rfl, rfl, rfl, by decide +kernel, rfl, by decide +kernel, by decide +kernel⟩
theorem o_law_right (X : K.In h) (G : h.Ns mainGlobals mg) (c : He.SaysX KHead.fa KHead.fn [] [] KHead.ex w h K) : ∃ fd, FnOk P w K mg base CX0 9 (He.fAd K ("_law_right", none)) fd ["urn"] (lowSp K 1 (S_law_right)) ∧ PySem.W.keepIn K (.ref (He.fAd K ("_law_right", none))) = true ∧ Binds K fd ["urn"] [] := by
  obtain ⟨fd, F⟩ : ∃ fd, FunD K "_law_right" "_law_right" (defArgs KHead.s_law_right) (defBody KHead.s_law_right) (defScope KHead.s_law_right) [] [] (He.fAd K ("_law_right", none)) fd := c.t.d.def_ 38 (d := KHead.d_law_right) rfl
  exact ⟨fd, Body.ok F sc_law_right rfl fun cdv A outer s H E hr => ⟨_, w_law_right (J_m_range X G c) (J_d_law_ball X G c) (J_m_tuple X G c) (J_d_law_any_row X G c) (J_d_law_table X G c) (J_d_law_equals X G c) (J_d_table X G c) (J_d_law_mixed_rows X G c) (J_k_table X G c) (J_d_is_table X G c) (J_k_is_table X G c) (J_d_law_odd_tables X G c) hr, fun ds G Q _ h => l_law_right h⟩, F.kp, F.bindsN fun _ _ _ _ _ _ us hl => match us, hl with | [_], _ => rfl⟩
theorem J_d_law_right (X : K.In h) (G : h.Ns mainGlobals mg) (c : He.SaysX KHead.fa KHead.fn [] [] KHead.ex w h K) : CalD P w K mg base 9 "_law_right" 1 (S_law_right) := by
  obtain ⟨fd, F, kp, b⟩ := o_law_right (P := P) (base := base) X G c
  exact ⟨⟨_, fd, _, F, He.glo_ok X G (c.t.d.fact 27 (f := .glo "_law_right") rfl), kp, b⟩⟩
theorem sc_law_urn : FnScope N_law_urn ["script", "lap"] (defScope KHead.s_law_urn) := ⟨rfl, rfl, rfl, by decide +kernel, rfl, by decide +kernel, by decide +kernel⟩
theorem o_law_urn (X : K.In h) (G : h.Ns mainGlobals mg) (c : He.SaysX KHead.fa KHead.fn [] [] KHead.ex w h K) : ∃ fd, FnOk P w K mg base CX0 1 (He.fAd K ("_law_urn", none)) fd ["script", "lap"] (lowSp K 2 (S_law_urn)) ∧ PySem.W.keepIn K (.ref (He.fAd K ("_law_urn", none))) = true ∧ Binds K fd ["script", "lap"] [] := by
  obtain ⟨fd, F⟩ : ∃ fd, FunD K "_law_urn" "_law_urn" (defArgs KHead.s_law_urn) (defBody KHead.s_law_urn) (defScope KHead.s_law_urn) [] [] (He.fAd K ("_law_urn", none)) fd := c.t.d.def_ 25 (d := KHead.d_law_urn) rfl
  exact ⟨fd, Body.ok F sc_law_urn rfl fun cdv A outer s H E hr => ⟨_, w_law_urn (J_m_len X G c) (J_m_int X G c) (J_m_enumerate X G c) (J_m_abs X G c) hr, fun ds G Q _ h => l_law_urn h⟩, F.kp, F.bindsN fun _ _ _ _ _ _ us hl => match us, hl with | [_, _], _ => rfl⟩
theorem J_d_law_urn (X : K.In h) (G : h.Ns mainGlobals mg) (c : He.SaysX KHead.fa KHead.fn [] [] KHead.ex w h K) : CalD P w K mg base 1 "_law_urn" 2 (S_law_urn) := by
  obtain ⟨fd, F, kp, b⟩ := o_law_urn (P := P) (base := base) X G c
  exact ⟨⟨_, fd, _, F, He.glo_ok X G (c.t.d.fact 14 (f := .glo "_law_urn") rfl), kp, b⟩⟩
theorem sc_law : FnScope N_law ["script"] (defScope KHead.s_law) := ⟨rfl, rfl, rfl, by decide +kernel, rfl, by decide +kernel, by decide +kernel⟩
theorem o_law (X : K.In h) (G : h.Ns mainGlobals mg) (c : He.SaysX KHead.fa KHead.fn [] [] KHead.ex w h K) : ∃ fd, FnOk P w K mg base CX0 10 (He.fAd K ("law", none)) fd ["script"] (lowSp K 1 (S_law)) ∧ PySem.W.keepIn K (.ref (He.fAd K ("law", none))) = true ∧ Binds K fd ["script"] [] := by
  obtain ⟨fd, F⟩ : ∃ fd, FunD K "law" "law" (defArgs KHead.s_law) (defBody KHead.s_law) (defScope KHead.s_law) [] [] (He.fAd K ("law", none)) fd := c.t.d.def_ 39 (d := KHead.d_law) rfl
  exact ⟨fd, Body.ok F sc_law rfl fun cdv A outer s H E hr => ⟨_, w_law (J_m_range X G c) (J_m_max X G c) (J_m_min X G c) (J_m_len X G c) (J_d_law_right X G c) (J_d_law_urn X G c) (J_d_is_table X G c) (J_d_table X G c) (J_d_law_equals X G c) hr, fun ds G Q _ h => l_law h⟩, F.kp, F.bindsN fun _ _ _ _ _ _ us hl => match us, hl with | [_], _ => rfl⟩
end
/-- a number of so many bits -/
theorem bits_small {z : Int} (hz : Builtin.Int.intBits z ≤ 1048576) : z.natAbs < 2 ^ 1048576 := by
  have e : Builtin.Int.intBits z = Builtin.Int.intBits ((z.natAbs : Nat) : Int) := by
    unfold Builtin.Int.intBits
    by_cases hz0 : z = 0
    · rw [hz0]; rfl
    · have h1 : (z == 0) = false := beq_false_of_ne hz0
      have h2 : (((z.natAbs : Nat) : Int) == 0) = false := beq_false_of_ne (by omega)
      rw [h1, h2, Int.natAbs_natCast]
  rw [e] at hz
  exact lt_up (bits_pow z.natAbs) hz
/-- the script as data -/
theorem law_start {K : PySem.W.Frag} {H : Hp} {a : Addr} {ns : List Int} (hl : ns.length ≤ 63) (hb : ∀ z ∈ ns, Builtin.Int.intBits z ≤ 1048576) (hS : SqL K H a (ns.map V.int)) : lowSp K 1 S_law [.ref a] H (fun v _ => v = .bl true) E0 := by
  have up : ns.length ≤ 2 ^ 20 := Nat.le_trans hl (by decide)
  have asInts : ∀ l : List Int, RpL K (fun _ => none) H (l.map D.int) (l.map V.int) := fun l => by
    induction l with
    | nil => exact .nil
    | cons n r ih => exact .cons (.int n) ih
  have hat : ListAt K (fun _ => none) H a (ns.map V.int) := by
    rcases hS with h | h
    · exact .inl ⟨rfl, h⟩
    · exact .inr (.inr h)
  refine ⟨[.frl (ns.map D.int)], fun _ => none, fun d _ => d = .bl true, rfl, .cons (.frl hat (size_le (by rw [List.length_map]; omega)) (asInts ns)) .nil, (fun _ _ h => nomatch h), ⟨ns, rfl, up, fun z hz => bits_small (hb z hz), fun _ => rfl⟩, fun v H' d G' _ _ r e => ?_⟩
  subst e
  cases r
  rfl
/-- a law of bounded bits, its part of the heap told by a hook -/
theorem walk_bits {lw : PySem.W.OpenLaw} {m j : Nat} {qq : Program} {lo : List Str} {XX : (Str → Option Value) → Heap → Prop} {YY : World → Heap → Prop} {dd : DefRec} {px : Str}
    (hm : lw.most = some m) (hm2 : m ≤ sizeLine) (hd0 : dd.params.defaults = []) (hrm : Room j callerA)
    (FF : ∀ (w : World) (mg : Str → Option Value) (f : Addr) (hp : Heap), YY w hp → hp.Ns mainGlobals mg → mg dd.name = some (.ref f) → ∃ (K : PySem.W.Frag) (fd : FuncData) (sq : L2.Sp), K.In hp ∧ (∀ (s : Shared) (v : Value), BindsTo s fd ⟨[v], []⟩ [(px, v)]) ∧
      (∀ (H : Hp) (a : Addr) (zs : List Int), zs.length ≤ m → (∀ z ∈ zs, Builtin.Int.intBits z ≤ 1048576) → SqL K H a (zs.map V.int) → sq [.ref a] H (fun v _ => v = .bl true) fun _ _ _ => False) ∧ ∀ b : Heap, K.In b → b.Ns mainGlobals mg → FnOk lw.prog w K mg b CX0 j f fd [px] sq) :
    PySem.W.WalkO qq lo XX YY lw.row.toRowW dd [] (fun f vs => PySem.call f vs) := by
  refine Att.attach_callB hm hd0 fun w s0 s1 mg mb f o pm cd doc a vs zs Gd Yh ho hdd hcd hmg hobj hin hlen hbt hgn => ?_
  obtain ⟨K, fd, sq, hK, hbd, hsq, hF⟩ := FF w mg f _ Yh Gd.T.g hmg
  exact law_call hK Gd.T.g Gd.T.b Gd.T.builtins Gd.T.nolimit hgn hobj hin (Nat.le_trans hlen hm2) hrm hF hbd (fun H _ hS => hsq H a zs hlen hbt hS) fun _ _ _ z => z
end K43
open PySem PySem.W PySem.Calls PyProof.Rows
theorem PySem.Challenge.cw_soughtforms_k43_whole_tables_holds : PySem.Challenge.rw_soughtforms_k43_whole_tables.Holds := by
  w_on; o_law
  refine HandSHeadRun.head_imp (r := OpenLaw.row PySem.Challenge.rw_soughtforms_k43_whole_tables) (q := KHead.qv) (H := KHead.hk) (ob := KHead.ob) (M := 8000) (loose := KHead.loose) (d := HandSHeadRun.topDef (OpenLaw.row PySem.Challenge.rw_soughtforms_k43_whole_tables).prog 40) (kwd := []) KHead.ob_eq
    KHead.run (by kernel_rfl) (by kernel_rfl) (by kernel_rfl) (by rfl) (by first | assumption | decide +kernel) (by decide +kernel) ⟨rfl, rfl, rfl, rfl, rfl, by decide +kernel⟩ ?hw ?hc
  case hw => w_witness2
  case hc =>
    refine K43.walk_bits (lw := PySem.Challenge.rw_soughtforms_k43_whole_tables) (m := 63) (j := 10) (px := "script") rfl (by decide) (by kernel_rfl) ⟨rfl, by decide, by decide⟩ ?F
    intro w mg fa h Y G hmg0
    obtain ⟨K, X, c⟩ := Y
    have hmg : mg ("law" : PySem.Str) = some (.ref fa) := by
      have e : (HandSHeadRun.topDef (OpenLaw.row PySem.Challenge.rw_soughtforms_k43_whole_tables).prog 40).name = ("law" : PySem.Str) := by kernel_rfl
      rw [← e]
      exact hmg0
    have e := hmg.symm.trans (He.glo_ok X G (c.t.d.fact 28 (f := .glo "law") rfl))
    cases e
    obtain ⟨fd, F⟩ : ∃ fd, L2.FunD K "law" "law" (L2.defArgs KHead.s_law) (L2.defBody KHead.s_law) (L2.defScope KHead.s_law) [] [] (He.fAd K ("law", none)) fd := c.t.d.def_ 39 (d := KHead.d_law) rfl
    have b := L2.FunD.bindsA (ps := ["script"]) F fun _ _ _ _ _ _ us hl => match us, hl with | [_], _ => rfl
    refine ⟨K, fd, DL.lowSp K 1 K43.S_law, X, fun s v => b s [v] rfl, fun H a zs hl hb hS => K43.law_start hl hb hS, fun base _ _ => ?_⟩
    exact DL.Body.ok F K43.sc_law rfl fun cdv A outer s H E hr => ⟨_, K43.w_law (K43.J_m_range X G c) (K43.J_m_max X G c) (K43.J_m_min X G c) (K43.J_m_len X G c) (K43.J_d_law_right X G c) (K43.J_d_law_urn X G c) (K43.J_d_is_table X G c) (K43.J_d_table X G c) (K43.J_d_law_equals X G c) hr, fun ds G Q _ h => K43.l_law h⟩
