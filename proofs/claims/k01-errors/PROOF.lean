import PyProof.Rows.All
import Wide.All
import OpenK.AllK
import Wide.FinOn
import HandS.ForMost
import HandS.Exc
import HandS.TryOnly
import HandS.TryMany
import HandS.ExcInit
import HandS.ExcField
import HandS.IsInst
import HandS.Lambda
import HandS.Zip
import HandS.StrMore
import HandS.Wide
import HandS.CallSlots
import HandS.WordsExc
import HandS.TupAny
import HandS.Style
import HandS.More
import HandS.ExcValue
import HandS.EndTab
import HandS.EndOwn
import KE.KExcIs
import PySem.Challenge.RW_bothanswer_k01_errors
set_option Elab.async false
set_option linter.all false
set_option maxRecDepth 100000
set_option maxHeartbeats 1000000
/-! DL1: the data layer's core: contents of slots, what a state is, the monad, the transformers. -/
namespace DL
open PySem PySem.Spec PyProof.Rows L2

/-- the addresses of the classes by their names -/
class ClsCtx where
  cls : Str → Option Addr
/-- the exception that is being looked at: where it is, its dict, its class -/
class XcCtx where
  a : Addr
  d : Addr
  C : Addr
variable [CC : ClsCtx] [XC : XcCtx]
/-- an object as data: its class's name, its attributes -/
abbrev objD (n : Str) (fs : List (Str × PyData)) : PyData := .dict ((.none, .str n) :: fs.map fun p => (.str p.1, p.2))

/-! ### data in a frozen heap -/
/-- what is known of an own exception's class, its fields l -/
structure XoF (K : PySem.W.Frag) (C : Addr) (n : Str) (l : List Str) : Prop where
  cl : CC.cls n = some C
  xf : XfC K C
  ic : PySem.W.isClsIn K C = true
  ca : PySem.W.findIn K (.ref C) "__class__" = some (some (.builtin "object.__class__"))
  cg : PySem.W.specialIn K (.builtin "object.__class__") "__get__" = some (some (.builtin "getset_descriptor.__get__"))
  ct : PySem.W.takesIn K (.builtin "object.__class__") = some true
  cm : PySem.W.mroIn K C (.type "object") = some true
  nf : ∀ f ∈ l, PySem.W.findIn K (.ref C) f = some none
mutual
inductive Dp (K : PySem.W.Frag) (F : Hp) : V → PyData → Prop
  | non : Dp K F .non .none
  | bl (b : Bool) : Dp K F (.bl b) (.bool b)
  | int (i : Int) : Dp K F (.int i) (.int i)
  | str (x : Str) : Dp K F (.str x) (.str x)
  | lst {a : Addr} {xs : List V} {ds : List PyData} : SqL K F a xs → DpAll K F xs ds → Dp K F (.ref a) (.list ds)
  | tup {a : Addr} {xs : List V} {ds : List PyData} : SqT K F a xs → DpAll K F xs ds → Dp K F (.ref a) (.tuple ds)
  /-- an own exception that has fields -/
  | exo {a C dx : Addr} {n : Str} {fs : List (Str × V)} {fds : List (Str × PyData)} : XoF K C n (fds.map (·.1)) → F a = some (exo a C (some dx)) → F dx = some (exd dx fs) → fs.map (·.1) = fds.map (·.1) → DpAll K F (fs.map (·.2)) (fds.map (·.2)) → Dp K F (.ref a) (objD n fds)
  /-- an own exception without fields -/
  | ex0 {a C : Addr} {n : Str} : XoF K C n [] → F a = some (ExO (.ref C) a) → Dp K F (.ref a) (objD n [])
inductive DpAll (K : PySem.W.Frag) (F : Hp) : List V → List PyData → Prop
  | nil : DpAll K F [] []
  | cons {v : V} {vs : List V} {d : PyData} {ds : List PyData} : Dp K F v d → DpAll K F vs ds → DpAll K F (v :: vs) (d :: ds)
end
theorem Same.tup {K : PySem.W.Frag} {H H' : Hp} {a : Addr} {xs : List V} (e : Same H H') (h : SqT K H a xs) : SqT K H' a xs := by
  rcases h with (h | ⟨o, h⟩) | h
  · exact .inl (.inl (e _ _ h))
  · exact .inl (.inr ⟨o, e _ _ h⟩)
  · exact .inr h
section
variable {K : PySem.W.Frag} {F F' : Hp}
mutual
theorem dp_mono' (e : Same F F') : ∀ {v : V} {d : PyData}, Dp K F v d → Dp K F' v d
  | _, _, .non => .non
  | _, _, .bl b => .bl b
  | _, _, .int i => .int i
  | _, _, .str x => .str x
  | _, _, .lst hs ha => .lst (e.seq hs) (dpa_mono' e ha)
  | _, _, .tup hs ha => .tup (Same.tup e hs) (dpa_mono' e ha)
  | _, _, .exo hc ha hd hn h => .exo hc (e _ _ ha) (e _ _ hd) hn (dpa_mono' e h)
  | _, _, .ex0 hc ha => .ex0 hc (e _ _ ha)
theorem dpa_mono' (e : Same F F') : ∀ {vs : List V} {ds : List PyData}, DpAll K F vs ds → DpAll K F' vs ds
  | _, _, .nil => .nil
  | _, _, .cons h1 h2 => .cons (dp_mono' e h1) (dpa_mono' e h2)
end
theorem dp_mono (e : Same F F') (d : PyData) {v : V} (h : Dp K F v d) : Dp K F' v d := dp_mono' e h
theorem dpa_mono (e : Same F F') (ds : List PyData) {vs : List V} (h : DpAll K F vs ds) : DpAll K F' vs ds := dpa_mono' e h
mutual
theorem Dp.toL2 : ∀ {v : V} {d : PyData}, Dp K F v d → d.hasDict = false → L2.Dp K F v d
  | _, _, .non, _ => .non
  | _, _, .bl b, _ => .bl b
  | _, _, .int i, _ => .int i
  | _, _, .str x, _ => .str x
  | _, _, .lst hs ha, n => .lst hs (ha.toL2 (by simpa [PyData.hasDict] using n))
  | _, _, .tup hs ha, n => .tup hs (ha.toL2 (by simpa [PyData.hasDict] using n))
  | _, _, .exo _ _ _ _ _, n => by simp [objD, PyData.hasDict] at n
  | _, _, .ex0 _ _, n => by simp [objD, PyData.hasDict] at n
theorem DpAll.toL2 : ∀ {vs : List V} {ds : List PyData}, DpAll K F vs ds → PyData.hasDictAll ds = false → L2.DpAll K F vs ds
  | _, _, .nil, _ => .nil
  | _, _, .cons (d := d) (ds := ds) h1 h2, n => by
    have n' : d.hasDict = false ∧ PyData.hasDictAll ds = false := by simpa [PyData.hasDictAll] using n
    exact .cons (h1.toL2 n'.1) (h2.toL2 n'.2)
end
theorem dpa_len : ∀ {ds : List PyData} {vs : List V}, DpAll K F vs ds → vs.length = ds.length
  | [], _, h => by cases h; rfl
  | d :: ds, _, h => by
    cases h with
    | cons h1 h2 => simp [dpa_len h2]
theorem dpa_get : ∀ {ds : List PyData} {vs : List V} {i : Nat} {d : PyData}, DpAll K F vs ds → ds[i]? = some d → ∃ v, vs[i]? = some v ∧ Dp K F v d
  | [], _, _, _, h, e => by simp at e
  | d :: ds, _, 0, _, h, e => by
    cases h with
    | cons h1 h2 => simp at e; subst e; exact ⟨_, rfl, h1⟩
  | d :: ds, _, i + 1, x, h, e => by
    cases h with
    | cons h1 h2 =>
      obtain ⟨v, h3, h4⟩ := dpa_get (i := i) h2 (by simpa using e)
      exact ⟨v, by simpa using h3, h4⟩
theorem dpa_app : ∀ {ds es : List PyData} {vs ws : List V}, DpAll K F vs ds → DpAll K F ws es → DpAll K F (vs ++ ws) (ds ++ es)
  | [], _, _, _, h, g => by cases h; exact g
  | d :: ds, _, _, _, h, g => by
    cases h with
    | cons h1 h2 => exact .cons h1 (dpa_app h2 g)
theorem dpa_take : ∀ {ds : List PyData} {vs : List V} (n : Nat), DpAll K F vs ds → DpAll K F (vs.take n) (ds.take n)
  | _, _, 0, _ => .nil
  | [], _, n + 1, h => by cases h; exact .nil
  | d :: ds, _, n + 1, h => by
    cases h with
    | cons h1 h2 => exact .cons h1 (dpa_take n h2)
theorem dpa_drop : ∀ {ds : List PyData} {vs : List V} (n : Nat), DpAll K F vs ds → DpAll K F (vs.drop n) (ds.drop n)
  | _, _, 0, h => h
  | [], _, n + 1, h => by cases h; exact .nil
  | d :: ds, _, n + 1, h => by
    cases h with
    | cons h1 h2 => exact dpa_drop n h2
theorem dpa_set : ∀ {ds : List PyData} {vs : List V} (n : Nat) {v : V} {d : PyData}, DpAll K F vs ds → Dp K F v d → DpAll K F (vs.set n v) (ds.set n d)
  | [], _, n, _, _, h, _ => by cases h; exact .nil
  | d :: ds, _, 0, _, _, h, g => by
    cases h with
    | cons h1 h2 => exact .cons g h2
  | d :: ds, _, n + 1, _, _, h, g => by
    cases h with
    | cons h1 h2 => exact .cons h1 (dpa_set n h2 g)
theorem dpa_erase : ∀ {ds : List PyData} {vs : List V} (n : Nat), DpAll K F vs ds → DpAll K F (vs.eraseIdx n) (ds.eraseIdx n)
  | [], _, n, h => by cases h; exact .nil
  | d :: ds, _, 0, h => by
    cases h with
    | cons h1 h2 => exact h2
  | d :: ds, _, n + 1, h => by
    cases h with
    | cons h1 h2 => exact .cons h1 (dpa_erase n h2)
/-- texts -/
theorem dpa_strs : ∀ {ss : List Str} {vs : List V}, DpAll K F vs (ss.map PyData.str) → vs = ss.map V.str
  | [], _, h => by cases h; rfl
  | s :: ss, _, h => by
    cases h with
    | cons h1 h2 => cases h1; rw [dpa_strs h2]; rfl
theorem dpa_of_strs : ∀ (ss : List Str), DpAll K F (ss.map V.str) (ss.map PyData.str)
  | [] => .nil
  | s :: ss => .cons (.str s) (dpa_of_strs ss)
theorem dpa_ints : ∀ {ss : List Int} {vs : List V}, DpAll K F vs (ss.map PyData.int) → vs = ss.map V.int
  | [], _, h => by cases h; rfl
  | s :: ss, _, h => by
    cases h with
    | cons h1 h2 => cases h1; rw [dpa_ints h2]; rfl
theorem dpa_of_ints : ∀ (ss : List Int), DpAll K F (ss.map V.int) (ss.map PyData.int)
  | [] => .nil
  | s :: ss => .cons (.int s) (dpa_of_ints ss)
theorem dpa_bools : ∀ {ss : List Bool} {vs : List V}, DpAll K F vs (ss.map PyData.bool) → vs = ss.map V.bl
  | [], _, h => by cases h; rfl
  | s :: ss, _, h => by
    cases h with
    | cons h1 h2 => cases h1; rw [dpa_bools h2]; rfl
end

/-! ### the law's pen -/
structure Pen where
  cells : List Int
  at_ : Int
  digits : Int
  count : Int
  fold : Int
def penKvs (ca : Addr) (P : Pen) : List (Key × V) :=
  [(Sum.inr "cells", .ref ca), (Sum.inr "at", .int P.at_), (Sum.inr "digits", .int P.digits), (Sum.inr "count", .int P.count), (Sum.inr "fold", .int P.fold)]

/-! ### what a slot is known to hold -/
inductive C where
  /-- nothing is known -/
  | un
  /-- shared data that nobody changes -/
  | sh (d : PyData)
  /-- a list of its own, its items shared data -/
  | ow (ds : List PyData)
  /-- a list of its own, its items lists of their own -/
  | ol (dss : List (List PyData))
  /-- the pen at p -/
  | pen (p : Addr) (P : Pen)
  /-- some value -/
  | rw (v : V)
  /-- a dict of its own, its values shared data -/
  | dk (kvs : List (Key × PyData))
  /-- no name's: the table of code objects at P -/
  | tb (P : Addr) (q : Str)
  /-- the exception that was caught -/
  | xc (n : Str) (fs : List (Str × PyData))
abbrev Sl := List C

inductive OlAll (K : PySem.W.Frag) (F H : Hp) : List Addr → List (List PyData) → Prop
  | nil : OlAll K F H [] []
  | cons {b : Addr} {bs : List Addr} {vs : List V} {ds : List PyData} {dss : List (List PyData)} : H b = some (.lst vs) → F b = none → DpAll K F vs ds → OlAll K F H bs dss → OlAll K F H (b :: bs) (ds :: dss)

inductive CRep (K : PySem.W.Frag) (F H : Hp) : Option V → C → List Addr → Prop
  | un {o : Option V} : CRep K F H o .un []
  | sh {v : V} {d : PyData} : Dp K F v d → CRep K F H (some v) (.sh d) []
  | ow {a : Addr} {vs : List V} {ds : List PyData} : H a = some (.lst vs) → F a = none → DpAll K F vs ds → CRep K F H (some (.ref a)) (.ow ds) [a]
  | ol {a : Addr} {bs : List Addr} {dss : List (List PyData)} : H a = some (.lst (bs.map V.ref)) → F a = none → OlAll K F H bs dss → CRep K F H (some (.ref a)) (.ol dss) (a :: bs)
  | pen {p ca : Addr} {P : Pen} : H p = some (.dK (penKvs ca P)) → F p = none → SqL K F ca (P.cells.map V.int) → CRep K F H (some (.ref p)) (.pen p P) [p]
  | rw {v : V} : CRep K F H (some v) (.rw v) []
  | dk {a : Addr} {kvv : List (Key × V)} {kvs : List (Key × PyData)} : H a = some (.dK kvv) → F a = none → kvv.map (·.1) = kvs.map (·.1) → DpAll K F (kvv.map (·.2)) (kvs.map (·.2)) → CRep K F H (some (.ref a)) (.dk kvs) [a]
  | tb {o : Option V} {P : Addr} {q : Str} {ps : Array Value} : H P = some (.tbl ps) → F P = none → TriplesOk ps.toList → (∀ pos cv, codeAmong pos ps.toList = some cv → ∃ c, cv = .ref c ∧ F c = some (LamX.CodeO c q)) → CRep K F H o (.tb P q) [P]
  | xc {n : Str} {fs : List (Str × PyData)} {vfs : List (Str × V)} : CC.cls n = some XC.C → F XC.d = some (.xd vfs) → (∀ f d, fs.lookup f = some d → ∃ v, vfs.lookup f = some v ∧ Dp K F v d) → CRep K F H (some (.ref XC.a)) (.xc n fs) []
inductive SRep (K : PySem.W.Frag) (F H : Hp) : L2.St → Sl → List Addr → Prop
  | nil : SRep K F H [] [] []
  | cons {o : Option V} {c : C} {fp fps : List Addr} {σ : L2.St} {δ : Sl} : CRep K F H o c fp → SRep K F H σ δ fps → SRep K F H (o :: σ) (c :: δ) (fp ++ fps)

/-- the state: F the frozen part of H, fp what the slots own -/
structure ER (K : PySem.W.Frag) (F H : Hp) (σ : L2.St) (δ : Sl) (fp : List Addr) : Prop where
  sub : Same F H
  rep : SRep K F H σ δ fp
  nd : fp.Nodup

/-- what may happen on the way -/
structure Go (fp : List Addr) (F H : Hp) (fp' : List Addr) (F' H' : Hp) : Prop where
  fz : Same F F'
  kp : ∀ a o, a ∉ fp → H a = some o → H' a = some o
  nw : ∀ a, F a = none → F' a ≠ none → H a = none ∨ a ∈ fp
  ow : ∀ a, a ∈ fp' → a ∈ fp ∨ H a = none
  al : ∀ a o, H a = some o → ∃ o', H' a = some o'
theorem Go.refl (fp : List Addr) (F H : Hp) : Go fp F H fp F H := ⟨Same.refl _, fun _ _ _ h => h, fun a h n => absurd h n, fun _ h => .inl h, fun _ o h => ⟨o, h⟩⟩
theorem Go.aside {fp fp' : List Addr} {F H F' H' : Hp} {D : Addr} {o : HO} (g : Go fp F H fp' F' H') (n : H D = none) : Go fp F H fp' F' (upd H' D o) :=
  ⟨g.fz, fun a u h e => by rw [upd_ne (ne_of_none e n)]; exact g.kp a u h e, g.nw, g.ow, fun a u e => by rw [upd_ne (ne_of_none e n)]; exact g.al a u e⟩
theorem Go.trans {fp fp1 fp2 : List Addr} {F H F1 H1 F2 H2 : Hp} (a : Go fp F H fp1 F1 H1) (b : Go fp1 F1 H1 fp2 F2 H2) : Go fp F H fp2 F2 H2 := by
  have nH : ∀ x, H1 x = none → x ∉ fp → H x = none := fun x n hx => by
    cases q : H x with
    | none => rfl
    | some o => rw [a.kp x o hx q] at n; cases n
  refine ⟨a.fz.trans b.fz, fun x o hx h => ?_, fun x h n => ?_, fun x hx => ?_, fun x o h => let ⟨_, h'⟩ := a.al x o h; b.al x _ h'⟩
  · refine b.kp x o (fun z => ?_) (a.kp x o hx h)
    rcases a.ow x z with z | z
    · exact hx z
    · rw [h] at z; cases z
  · by_cases hx : x ∈ fp
    · exact .inr hx
    · cases q : F1 x with
      | some o => exact a.nw x h (by rw [q]; exact fun z => nomatch z)
      | none =>
        rcases b.nw x q n with z | z
        · exact .inl (nH x z hx)
        · exact (a.ow x z).symm
  · rcases b.ow x hx with z | z
    · exact a.ow x z
    · by_cases hx' : x ∈ fp
      · exact .inl hx'
      · exact .inr (nH x z hx')

/-- only new things -/
structure Ext (F H F' H' : Hp) : Prop where
  fz : Same F F'
  kp : Same H H'
  nw : ∀ a, F a = none → F' a ≠ none → H a = none
  sub : Same F' H'
theorem Ext.refl {F H : Hp} (h : Same F H) : Ext F H F H := ⟨Same.refl _, Same.refl _, fun a h n => absurd h n, h⟩
theorem Ext.trans {F H F1 H1 F2 H2 : Hp} (a : Ext F H F1 H1) (b : Ext F1 H1 F2 H2) : Ext F H F2 H2 :=
  ⟨a.fz.trans b.fz, a.kp.trans b.kp, fun x h n => by
    cases q : F1 x with
    | some o => exact a.nw x h (by rw [q]; exact fun z => nomatch z)
    | none => exact a.kp.free (b.nw x q n), b.sub⟩
theorem same_upd {F H : Hp} {p : Addr} {o : HO} (h : Same F H) : Same (upd F p o) (upd H p o) := fun b u e => by
  by_cases hb : b = p
  · subst hb; rw [upd_same] at e ⊢; exact e
  · rw [upd_ne hb] at e ⊢; exact h b u e
theorem same_new {H : Hp} {p : Addr} {o : HO} (n : H p = none) : Same H (upd H p o) := fun b u e => by
  rw [upd_ne (ne_of_none e n)]; exact e
/-- a new object, frozen at once -/
theorem Ext.new {F H : Hp} {p : Addr} {o : HO} (h : Same F H) (n : H p = none) : Ext F H (upd F p o) (upd H p o) :=
  ⟨same_new (h.free n), same_new n, fun a e q => by
    by_cases hb : a = p
    · rw [hb]; exact n
    · rw [upd_ne hb] at q; exact absurd e q, same_upd h⟩
/-- a new object, not told of -/
theorem Ext.lost {F H : Hp} {p : Addr} {o : HO} (h : Same F H) (n : H p = none) : Ext F H F (upd H p o) :=
  ⟨Same.refl _, same_new n, fun a e q => absurd e q, h.trans (same_new n)⟩
theorem Ext.go {fp : List Addr} {F H F' H' : Hp} (x : Ext F H F' H') : Go fp F H fp F' H' :=
  ⟨x.fz, fun a o _ h => x.kp a o h, fun a h n => .inl (x.nw a h n), fun _ h => .inl h, fun a o h => ⟨o, x.kp a o h⟩⟩

section
variable {K : PySem.W.Frag} {F H F' H' : Hp} {σ : L2.St} {δ : Sl} {fp : List Addr}
theorem OlAll.tr : ∀ {bs : List Addr} {dss : List (List PyData)}, OlAll K F H bs dss → Same F F' → (∀ b o, b ∈ bs → H b = some o → H' b = some o) → (∀ b, b ∈ bs → F' b = none) → OlAll K F' H' bs dss
  | _, _, .nil, _, _, _ => .nil
  | _, _, .cons h n ds r, e, k, z => .cons (k _ _ (by simp) h) (z _ (by simp)) (dpa_mono e _ ds) (r.tr e (fun b o hb => k b o (by simp [hb])) fun b hb => z b (by simp [hb]))
theorem OlAll.there : ∀ {bs : List Addr} {dss : List (List PyData)}, OlAll K F H bs dss → ∀ b ∈ bs, F b = none ∧ ∃ o, H b = some o
  | _, _, .nil, b, hb => by simp at hb
  | _, _, .cons h n ds r, b, hb => by
    rcases List.mem_cons.mp hb with rfl | hb
    · exact ⟨n, _, h⟩
    · exact r.there b hb
theorem CRep.there {o : Option V} {c : C} (h : CRep K F H o c fp) : ∀ b ∈ fp, F b = none ∧ ∃ o, H b = some o := by
  cases h with
  | un => intro b hb; simp at hb
  | sh _ => intro b hb; simp at hb
  | ow h n ds => intro b hb; obtain rfl : b = _ := by simpa using hb
                 exact ⟨n, _, h⟩
  | ol h n r =>
    intro b hb
    rcases List.mem_cons.mp hb with rfl | hb
    · exact ⟨n, _, h⟩
    · exact r.there b hb
  | pen h n r => intro b hb; obtain rfl : b = _ := by simpa using hb
                 exact ⟨n, _, h⟩
  | rw => intro b hb; simp at hb
  | dk h n e ds => intro b hb; obtain rfl : b = _ := by simpa using hb
                   exact ⟨n, _, h⟩
  | tb h n t r => intro b hb; obtain rfl : b = _ := by simpa using hb
                  exact ⟨n, _, h⟩
  | xc _ _ _ => intro b hb; simp at hb
theorem CRep.tr {o : Option V} {c : C} (h : CRep K F H o c fp) (e : Same F F') (k : ∀ b o, b ∈ fp → H b = some o → H' b = some o) (z : ∀ b, b ∈ fp → F' b = none) : CRep K F' H' o c fp := by
  cases h with
  | un => exact .un
  | sh d => exact .sh (dp_mono e _ d)
  | ow h n ds => exact .ow (k _ _ (by simp) h) (z _ (by simp)) (dpa_mono e _ ds)
  | ol h n r => exact .ol (k _ _ (by simp) h) (z _ (by simp)) (r.tr e (fun b o hb => k b o (by simp [hb])) fun b hb => z b (by simp [hb]))
  | pen h n r => exact .pen (k _ _ (by simp) h) (z _ (by simp)) (e.seq r)
  | rw => exact .rw
  | dk h n q ds => exact .dk (k _ _ (by simp) h) (z _ (by simp)) q (dpa_mono e _ ds)
  | tb h n t r => exact .tb (k _ _ (by simp) h) (z _ (by simp)) t fun pos cv hc => let ⟨c, h1, h2⟩ := r pos cv hc; ⟨c, h1, e _ _ h2⟩
  | xc hc h l => exact .xc hc (e _ _ h) fun f d q => let ⟨v, h1, h2⟩ := l f d q; ⟨v, h1, dp_mono e _ h2⟩
theorem SRep.there : ∀ {σ : L2.St} {δ : Sl} {fp : List Addr}, SRep K F H σ δ fp → ∀ b ∈ fp, F b = none ∧ ∃ o, H b = some o
  | _, _, _, .nil, b, hb => by simp at hb
  | _, _, _, .cons c r, b, hb => by
    rcases List.mem_append.mp hb with hb | hb
    · exact c.there b hb
    · exact r.there b hb
theorem SRep.tr : ∀ {σ : L2.St} {δ : Sl} {fp : List Addr}, SRep K F H σ δ fp → Same F F' → (∀ b o, b ∈ fp → H b = some o → H' b = some o) → (∀ b, b ∈ fp → F' b = none) → SRep K F' H' σ δ fp
  | _, _, _, .nil, _, _, _ => .nil
  | _, _, _, .cons c r, e, k, z => .cons (c.tr e (fun b o hb => k b o (by simp [hb])) fun b hb => z b (by simp [hb])) (r.tr e (fun b o hb => k b o (by simp [hb])) fun b hb => z b (by simp [hb]))
theorem ER.ext (E : ER K F H σ δ fp) (x : Ext F H F' H') : ER K F' H' σ δ fp :=
  ⟨x.sub, E.rep.tr x.fz (fun b o _ h => x.kp b o h) (fun b hb => by
    obtain ⟨n, o, h⟩ := E.rep.there b hb
    cases q : F' b with
    | none => rfl
    | some u =>
      have z := x.nw b n (by rw [q]; exact fun z => nomatch z)
      rw [h] at z; cases z), E.nd⟩
theorem SRep.len : ∀ {σ : L2.St} {δ : Sl} {fp : List Addr}, SRep K F H σ δ fp → σ.length = δ.length
  | _, _, _, .nil => rfl
  | _, _, _, .cons c r => congrArg (· + 1) r.len
theorem or3 {b : Addr} {x y z : List Addr} (h : b ∈ y ++ z) : b ∈ x ++ y ++ z := by
  rcases List.mem_append.mp h with q | q
  · exact List.mem_append_left _ (List.mem_append_right _ q)
  · exact List.mem_append_right _ q
/-- a slot by itself, and how it is changed -/
theorem SRep.at : ∀ {σ : L2.St} {δ : Sl} {fp : List Addr} {i : Nat} {c : C}, SRep K F H σ δ fp → δ[i]? = some c →
    ∃ o fl fi fr, σ[i]? = some o ∧ CRep K F H o c fi ∧ fp = fl ++ (fi ++ fr) ∧
      ∀ {F' H' : Hp} {o' : Option V} {c' : C} {fi' : List Addr}, Same F F' → (∀ b u, b ∈ fl ++ fr → H b = some u → H' b = some u) → (∀ b, b ∈ fl ++ fr → F' b = none) → CRep K F' H' o' c' fi' → SRep K F' H' (σ.set i o') (δ.set i c') (fl ++ (fi' ++ fr))
  | _, _, _, _, _, .nil, e => by simp at e
  | _, _, _, 0, c, .cons (fp := fi) (fps := fr) h r, e => by
    simp at e; subst e
    refine ⟨_, [], fi, fr, rfl, h, rfl, fun {F' H' o' c' fi'} e k z c1 => ?_⟩
    have q : SRep K F' H' (o' :: _) (c' :: _) (fi' ++ fr) := .cons c1 (r.tr e (fun b o hb => k b o (by simpa using hb)) fun b hb => z b (by simpa using hb))
    exact q
  | _, _, _, i + 1, c, .cons (fp := fj) (fps := fps) h r, e => by
    obtain ⟨o, fl, fi, fr, h1, h2, h3, h4⟩ := r.at (i := i) (by simpa using e)
    refine ⟨o, fj ++ fl, fi, fr, by simpa using h1, h2, by rw [h3]; simp, fun e k z c' => ?_⟩
    have q := h4 e (fun b o hb => k b o (or3 hb)) (fun b hb => z b (or3 hb)) c'
    have q2 := SRep.cons (h.tr e (fun b o hb => k b o (by simp [hb])) fun b hb => z b (by simp [hb])) q
    simpa using q2
end
end DL

set_option maxRecDepth 100000
set_option maxHeartbeats 1000000
/-! DL2: the monad, the transformers, operations of values. -/
namespace DL
open PySem PySem.Spec PyProof.Rows L2
variable [CC : ClsCtx] [XC : XcCtx]

/-! ### the monad -/
inductive Rs (α : Type) where
  | ok (x : α) (δ : Sl)
  | ex (n : Str) (fs : List (Str × PyData)) (δ : Sl)
abbrev M (α : Type) := Sl → Option (Rs α)
def bnd {α β : Type} (m : M α) (k : α → M β) : M β := fun δ => match m δ with
  | none => none
  | some (.ex n fs δ') => some (.ex n fs δ')
  | some (.ok x δ') => k x δ'
def ret {α : Type} (x : α) : M α := fun δ => some (.ok x δ)
def lft {α : Type} (o : Option α) : M α := fun δ => match o with
  | none => none
  | some x => some (.ok x δ)
def thr {α : Type} (n : Str) (fs : List (Str × PyData)) : M α := fun δ => some (.ex n fs δ)

/-- an exception's own dict tells its fields -/
def Xr (K : PySem.W.Frag) (H0 F H : Hp) (dd : Addr) (fs : List (Str × PyData)) : Prop :=
  H0 dd = none ∧ ∃ vfs : List (Str × V), H dd = some (.xd vfs) ∧ ∀ f d, fs.lookup f = some d → ∃ v, vfs.lookup f = some v ∧ Dp K F v d

theorem Go.old {fp fp' : List Addr} {F H F' H' : Hp} {b : Addr} (g : Go fp F H fp' F' H') (n : H' b = none) : H b = none := by
  cases q : H b with
  | none => rfl
  | some o =>
    obtain ⟨o', e⟩ := g.al b o q
    rw [n] at e; cases e
theorem Xr.back {K : PySem.W.Frag} {fp fp' : List Addr} {F H F' H' F2 H2 : Hp} {dd : Addr} {fs : List (Str × PyData)} (x : Xr K H' F2 H2 dd fs) (g : Go fp F H fp' F' H') : Xr K H F2 H2 dd fs := ⟨g.old x.1, x.2⟩
section
variable {α β γ δ' : Type} (K : PySem.W.Frag) (cls : Str → Option Addr) (W : WX)
def Fin (σ : L2.St) (fp : List Addr) (F H : Hp) (k : α → Sl → List Addr → Hp → Hp → Prop) : Rs α → Prop
  | .ok x δ' => ∀ fp' F' H', Go fp F H fp' F' H' → ER K F' H' σ δ' fp' → k x δ' fp' F' H'
  | .ex n fs δ' => ∀ Cx dd fp' F' H', cls n = some Cx → Go fp F H fp' F' H' → ER K F' H' σ δ' fp' → Xr K H F' H' dd fs → W (.ref Cx) (some dd) σ H'
/-- m run at F, fp, δ -/
def TmA (Rel : Hp → β → α → Prop) (m : M α) (F : Hp) (fp : List Addr) (δ : Sl) (σ : L2.St) (H : Hp) (Q : β → Hp → Prop) : Prop :=
  ER K F H σ δ fp ∧ ∃ r, m δ = some r ∧ Fin K cls W σ fp F H (fun x _ _ F' H' => ∀ v, Rel F' v x → Q v H') r
def Tm (Rel : Hp → β → α → Prop) (m : M α) (σ : L2.St) (H : Hp) (Q : β → Hp → Prop) : Prop := ∃ F fp δ, TmA K cls W Rel m F fp δ σ H Q
def tE (m : M PyData) : TE := Tm K cls W (Dp K) m
def tT (m : M Bool) : TT := Tm K cls W (fun _ b c => b = c) m
def tA (m : M (List PyData)) : TA := Tm K cls W (DpAll K) m
def tO (m : M (Option Int)) : TO := Tm K cls W (fun _ b c => b = c) m
end
section
variable {α β γ ε : Type} {K : PySem.W.Frag} {cls : Str → Option Addr} {W : WX} {σ : L2.St} {H F H1 F1 : Hp} {fp fp1 : List Addr} {δ δ1 : Sl} {Rel : Hp → β → α → Prop} {Rel2 : Hp → ε → γ → Prop}
theorem Fin.go {k : α → Sl → List Addr → Hp → Hp → Prop} {r : Rs α} (g : Go fp F H fp1 F1 H1) (h : Fin K cls W σ fp F H k r) : Fin K cls W σ fp1 F1 H1 k r := by
  cases r with
  | ok x d => exact fun fp' F' H' g' E => h fp' F' H' (g.trans g') E
  | ex n fs d => exact fun Cx dd fp' F' H' c g' E x => h Cx dd fp' F' H' c (g.trans g') E (x.back g)
/-- first m, then what is made of it -/
theorem tm_bnd {m : M α} {k : α → M γ} {Q : ε → Hp → Prop} (h : TmA K cls W Rel2 (bnd m k) F fp δ σ H Q) :
    TmA K cls W Rel m F fp δ σ H (fun v H1 => ∃ x F1 fp1 δ1, Rel F1 v x ∧ Same F F1 ∧ m δ = some (.ok x δ1) ∧ Go fp F H fp1 F1 H1 ∧ TmA K cls W Rel2 (k x) F1 fp1 δ1 σ H1 Q) := by
  obtain ⟨E, r, hm, hf⟩ := h
  unfold bnd at hm
  cases e : m δ with
  | none => rw [e] at hm; cases hm
  | some r1 =>
    rw [e] at hm
    cases r1 with
    | ok x δ1 =>
      exact ⟨E, _, e, fun fp' F' H' g E' v rel => ⟨x, F', fp', δ1, rel, g.fz, rfl, g, E', r, hm, hf.go g⟩⟩
    | ex n fs δ1 =>
      cases hm
      exact ⟨E, _, e, hf⟩
theorem tm_lft {o : Option α} {Q : β → Hp → Prop} (h : TmA K cls W Rel (lft o) F fp δ σ H Q) :
    ∃ x, o = some x ∧ ER K F H σ δ fp ∧ ∀ F' H', Ext F H F' H' → ∀ v, Rel F' v x → Q v H' := by
  obtain ⟨E, r, hm, hf⟩ := h
  cases o with
  | none => cases hm
  | some x =>
    cases hm
    exact ⟨x, rfl, E, fun F' H' g v rel => hf fp F' H' g.go (E.ext g) v rel⟩
theorem tm_ret {x : α} {Q : β → Hp → Prop} (h : TmA K cls W Rel (ret x) F fp δ σ H Q) :
    ER K F H σ δ fp ∧ ∀ F' H', Ext F H F' H' → ∀ v, Rel F' v x → Q v H' := by
  obtain ⟨x, e, E, q⟩ := tm_lft (o := some x) h
  cases e
  exact ⟨E, q⟩
theorem Tm.mono {m : M α} {Q Q' : β → Hp → Prop} (h : Tm K cls W Rel m σ H Q) (i : ∀ v H', Q v H' → Q' v H') : Tm K cls W Rel m σ H Q' := by
  obtain ⟨F, fp, δ, E, r, hm, hf⟩ := h
  refine ⟨F, fp, δ, E, r, hm, ?_⟩
  cases r with
  | ok x d => exact fun fp' F' H' g' E' v rel => i _ _ (hf fp' F' H' g' E' v rel)
  | ex n fs d => exact hf
theorem TmA.tm {m : M α} {Q : β → Hp → Prop} (h : TmA K cls W Rel m F fp δ σ H Q) : Tm K cls W Rel m σ H Q := ⟨F, fp, δ, h⟩
end

/-! ### the judgements -/
section
variable (X : Cx) (cls : Str → Option Addr) (W : WX)
abbrev DE (e : Expr) (m : M PyData) : Prop := PE X e (tE X.K cls W m)
abbrev DT (e : Expr) (m : M Bool) : Prop := PT X e (tT X.K cls W m)
abbrev DW (e : Expr) (m : M Bool) : Prop := PW X e (tT X.K cls W m)
abbrev DA (es : List Expr) (m : M (List PyData)) : Prop := PA X es (tA X.K cls W m)
end
theorem pe_imp {X : Cx} {e : Expr} {t t' : TE} (h : PE X e t) (i : ∀ σ H Q, t' σ H Q → t σ H Q) : PE X e t' := ⟨fun pins s σ H Q I q => h.run pins s σ H Q I (i _ _ _ q)⟩
theorem pt_imp {X : Cx} {e : Expr} {t t' : TT} (h : PT X e t) (i : ∀ σ H Q, t' σ H Q → t σ H Q) : PT X e t' := ⟨fun pins s σ H Q I q => h.run pins s σ H Q I (i _ _ _ q)⟩
theorem pw_imp {X : Cx} {e : Expr} {t t' : TT} (h : PW X e t) (i : ∀ σ H Q, t' σ H Q → t σ H Q) : PW X e t' := ⟨fun wh pins s σ H Q I q => h.run wh pins s σ H Q I (i _ _ _ q)⟩
theorem pa_imp {X : Cx} {es : List Expr} {t t' : TA} (h : PA X es t) (i : ∀ σ H Q, t' σ H Q → t σ H Q) : PA X es t' := ⟨fun pos pins s σ H Q I q => h.run pos pins s σ H Q I (i _ _ _ q)⟩
theorem ps_imp {X : Cx} {st : Stmt} {t t' : TS} (h : PS X st t) (i : ∀ D σ H, t' D σ H → t D σ H) : PS X st t' := ⟨fun pins s σ H D I q => h.run pins s σ H D I (i _ _ _ q)⟩
theorem pss_imp {X : Cx} {st : List Stmt} {t t' : TS} (h : PSs X st t) (i : ∀ D σ H, t' D σ H → t D σ H) : PSs X st t' := ⟨fun pins s σ H D I q => h.run pins s σ H D I (i _ _ _ q)⟩

/-! ### operations by values -/
def rD (K : PySem.W.Frag) (g : PyData → PyData → Option PyData) : R2 := fun x y H Q => ∃ F d e z, Same F H ∧ Dp K F x d ∧ Dp K F y e ∧ g d e = some z ∧ ∀ v F' H', Ext F H F' H' → Dp K F' v z → Q v H'
def OpD (X : Cx) (f : Value → Value → Sem Value) (g : PyData → PyData → Option PyData) : Prop := OpR X f (rD X.K g)
def rU1 (K : PySem.W.Frag) (g : PyData → Option PyData) : V → Hp → VK → Prop := fun x H Q => ∃ F d z, Same F H ∧ Dp K F x d ∧ g d = some z ∧ ∀ v F' H', Ext F H F' H' → Dp K F' v z → Q v H'
def rCD (K : PySem.W.Frag) (g : List PyData → Option PyData) : List V → Hp → VK → Prop := fun xs H Q => ∃ F ds z, Same F H ∧ DpAll K F xs ds ∧ g ds = some z ∧ ∀ v F' H', Ext F H F' H' → Dp K F' v z → Q v H'
def CallD (X : Cx) (f : Value) (g : List PyData → Option PyData) : Prop := CallR X f (rCD X.K g)

section
variable {X : Cx} {cls : Str → Option Addr} {W : WX} {a b : Expr} {ma mb : M PyData} {pos : Pos}
/-- both operands, then the operation -/
theorem tm_op {K : PySem.W.Frag} {g : PyData → PyData → Option PyData} {σ : L2.St} {H : Hp} {Q : VK} (h : tE K cls W (bnd ma fun x => bnd mb fun y => lft (g x y)) σ H Q) : tOp (rD K g) (tE K cls W ma) (tE K cls W mb) σ H Q := by
  obtain ⟨F, fp, δ, h⟩ := h
  refine Tm.mono (TmA.tm (tm_bnd h)) fun v H1 ⟨x, F1, fp1, δ1, rx, s1, _, _, h1⟩ => ?_
  refine Tm.mono (TmA.tm (tm_bnd h1)) fun w H2 ⟨y, F2, fp2, δ2, ry, s2, _, _, h2⟩ => ?_
  obtain ⟨z, e, E, q⟩ := tm_lft h2
  exact ⟨F2, x, y, z, E.sub, dp_mono s2 _ rx, ry, e, fun u F' H' g r => q F' H' g u r⟩
theorem de_op {op : Operator} {g : PyData → PyData → Option PyData} (ho : OpD X (binaryOp op) g) (ha : DE X cls W a ma) (hb : DE X cls W b mb) : DE X cls W (.BinOp a op b pos) (bnd ma fun x => bnd mb fun y => lft (g x y)) :=
  pe_imp (pe_op ho ha hb) fun _ _ _ => tm_op
theorem de_cmp {op : CmpOp} {g : PyData → PyData → Option PyData} (ho : OpD X (compareOp op) g) (ha : DE X cls W a ma) (hb : DE X cls W b mb) (hm : behindInMarks op b = false) : DE X cls W (.Compare a [op] [b] pos) (bnd ma fun x => bnd mb fun y => lft (g x y)) :=
  pe_imp (pe_cmpR ho ha hb hm) fun _ _ _ => tm_op
def boolD : PyData → Option Bool
  | .bool b => some b
  | _ => none
theorem dt_cmp {op : CmpOp} {g : PyData → PyData → Option PyData} (ho : OpD X (compareOp op) g) (ha : DE X cls W a ma) (hb : DE X cls W b mb) (hm : behindInMarks op b = false) :
    DT X cls W (.Compare a [op] [b] pos) (bnd ma fun x => bnd mb fun y => lft ((g x y).bind boolD)) := by
  refine pt_imp (pt_cmpR ho ha hb hm) fun σ H Q h => ?_
  obtain ⟨F, fp, δ, h⟩ := h
  refine Tm.mono (TmA.tm (tm_bnd h)) fun v H1 ⟨x, F1, fp1, δ1, rx, s1, _, _, h1⟩ => ?_
  refine Tm.mono (TmA.tm (tm_bnd h1)) fun w H2 ⟨y, F2, fp2, δ2, ry, s2, _, _, h2⟩ => ?_
  obtain ⟨z, e, E, q⟩ := tm_lft h2
  cases e1 : g x y with
  | none => rw [e1] at e; cases e
  | some u =>
    rw [e1] at e
    cases u with
    | bool c =>
      cases e
      refine ⟨F2, x, y, _, E.sub, dp_mono s2 _ rx, ry, e1, fun u F' H' g r => ?_⟩
      cases r
      exact ⟨_, rfl, q F' H' g _ rfl⟩
    | _ => cases e
end
end DL

set_option maxRecDepth 100000
set_option maxHeartbeats 1000000
/-! DL3: operators by values. -/
namespace DL
open PySem PySem.Spec PyProof.Rows L2
variable [CC : ClsCtx] [XC : XcCtx]
section
variable {X : Cx} {F H F' H' : Hp} {pins : List (Addr × Obj)} {σ : L2.St} {s : Shared}

def addD : PyData → PyData → Option PyData
  | .int i, .int j => some (.int (i + j))
  | .str x, .str y => if x.length + y.length ≤ sizeLine then some (.str (x ++ y)) else none
  | .list xs, .list ys => if xs.length + ys.length ≤ sizeLine then some (.list (xs ++ ys)) else none
  | .tuple xs, .tuple ys => if xs.length + ys.length ≤ sizeLine then some (.tuple (xs ++ ys)) else none
  | _, _ => none
/-- any two lists that are read -/
def rCatL (K : PySem.W.Frag) : R2 := fun x y H Q => ∃ l b xs zs, x = .ref l ∧ y = .ref b ∧ SqL K H l xs ∧ SqL K H b zs ∧ xs.length + zs.length ≤ sizeLine ∧ ∀ p, H p = none → Q (.ref p) (upd H p (.lst (xs ++ zs)))
theorem op_catL : OpR X (binaryOp .Add) (rCatL X.K) := by
  intro pins s σ H x y v u Q I rx ry h
  obtain ⟨l, b, xs, zs, rfl, rfl, hH, hB, hz, q⟩ := h
  cases rx
  cases ry
  obtain ⟨its, r, pl, hl⟩ := I.list hH
  obtain ⟨its2, r2, pl2, hl2⟩ := I.list hB
  have e1 := r.length
  have e2 := r2.length
  obtain ⟨⟨cls, dd, data, sl⟩, n, ho, hc, hd0, hd⟩ := id pl
  obtain ⟨⟨cls2, dd2, data2, sl2⟩, n2, ho2, hc2, hd02, hd2⟩ := id pl2
  simp only at hc hd hc2 hd2
  subst hc hd hc2 hd2
  have e : its.toArray ++ its2.toArray = (its ++ its2).toArray := by simp
  refine concat_meets ⟨_, ho, rfl⟩ ⟨_, ho2, rfl⟩ noFill_list_add seq_list_add PySem.F.slot_list_add PySem.F.entry_list_add (PySem.F.args_list_add_2 _ _) (PyProof.Rows.list_addW l b its.toArray its2.toArray n n2 dd dd2 sl sl2 (by simp only [List.size_toArray]; omega)) ⟨ho, ho2, ?_⟩
  rw [e]
  exact ⟨.ref _, _, I.lnew (t' := s.toks) (r.append r2) (by rw [List.length_append]; omega), rfl, q _ I.fresh⟩
theorem dp_new_lst {K : PySem.W.Frag} {p : Addr} {vs : List V} {ds : List PyData} (n : F p = none) (h : DpAll K F vs ds) : Dp K (upd F p (.lst vs)) (.ref p) (.list ds) := .lst (SqL.of upd_same) (dpa_mono (same_new n) _ h)
theorem dp_new_tup {K : PySem.W.Frag} {p : Addr} {vs : List V} {ds : List PyData} (n : F p = none) (h : DpAll K F vs ds) : Dp K (upd F p (.tup vs)) (.ref p) (.tuple ds) := .tup (SqT.of upd_same) (dpa_mono (same_new n) _ h)
theorem od_add : OpD X (binaryOp .Add) addD := by
  intro pins s σ H x y v u Q I rx ry h
  obtain ⟨F, d, e, z, hs, hx, hy, hz, q⟩ := h
  cases hx <;> cases hy <;> simp only [addD] at hz <;> try (cases hz; done)
  · cases hz
    exact op_add pins s σ H _ _ v u Q I rx ry ⟨_, _, rfl, rfl, q _ F H (Ext.refl hs) (.int _)⟩
  · split at hz
    · cases hz
      exact op_add_str pins s σ H _ _ v u Q I rx ry ⟨_, _, rfl, rfl, by assumption, q _ F H (Ext.refl hs) (.str _)⟩
    · cases hz
  · rename_i a xs ds s1 a1 b ys es s2 a2
    split at hz
    · cases hz
      refine op_catL pins s σ H _ _ v u Q I rx ry ⟨_, _, xs, ys, rfl, rfl, hs.seq s1, hs.seq s2, by rw [dpa_len a1, dpa_len a2]; assumption, fun p np => q _ _ _ (Ext.new hs np) (dp_new_lst (hs.free np) (dpa_app a1 a2))⟩
    · cases hz
  · rename_i a xs ds s1 a1 b ys es s2 a2
    split at hz
    · cases hz
      refine op_catA pins s σ H _ _ v u Q I rx ry ⟨_, _, xs, ys, rfl, rfl, Same.tup hs s1, Same.tup hs s2, by rw [dpa_len a1, dpa_len a2]; assumption, fun e => ?_, fun _ e => ?_, fun _ _ p np => q _ _ _ (Ext.new hs np) (dp_new_tup (hs.free np) (dpa_app a1 a2))⟩
      · subst e; cases a1
        exact q _ F H (Ext.refl hs) (.tup s2 a2)
      · subst e; cases a2
        rw [List.append_nil] at q
        exact q _ F H (Ext.refl hs) (.tup s1 a1)
    · cases hz
def subD : PyData → PyData → Option PyData
  | .int i, .int j => some (.int (i - j))
  | _, _ => none
theorem od_sub : OpD X (binaryOp .Sub) subD := by
  intro pins s σ H x y v u Q I rx ry h
  obtain ⟨F, d, e, z, hs, hx, hy, hz, q⟩ := h
  cases hx <;> cases hy <;> simp only [subD] at hz <;> try (cases hz; done)
  cases hz
  exact op_sub pins s σ H _ _ v u Q I rx ry ⟨_, _, rfl, rfl, q _ F H (Ext.refl hs) (.int _)⟩
def mulD : PyData → PyData → Option PyData
  | .int i, .int j => if -(2 ^ 64) < i ∧ i < 2 ^ 64 then some (.int (i * j)) else none
  | .str x, .int n => if (0 ≤ n ∧ n ≤ 1000) ∧ x.length ≤ 1000 then some (.str (Txt.mul x n)) else none
  | _, _ => none
theorem mulOk_small {x : Str} {n : Int} (h0 : 0 ≤ n) (h1 : n ≤ 1000) (h2 : x.length ≤ 1000) : MulOk x n := by
  refine ⟨?_, fun h _ => ?_, fun h _ => ?_⟩
  · rw [decide_eq_false (by omega), decide_eq_false (by omega)]; rfl
  · have h3 : (1000 : Int) ≤ (2 ^ 63 - 1) / n := by
      rw [Int.le_ediv_iff_mul_le (by omega)]
      omega
    omega
  · unfold Builtin.Str.tooLong
    have hs := sizeLine_eq
    have : x.length * n.toNat ≤ 1000 * 1000 := Nat.mul_le_mul h2 (by omega)
    exact decide_eq_false (by omega)
theorem od_mul : OpD X (binaryOp .Mult) mulD := by
  intro pins s σ H x y v u Q I rx ry h
  obtain ⟨F, d, e, z, hs, hx, hy, hz, q⟩ := h
  cases hx <;> cases hy <;> simp only [mulD] at hz <;> try (cases hz; done)
  · split at hz
    · cases hz
      exact op_mul pins s σ H _ _ v u Q I rx ry ⟨_, _, rfl, rfl, .inl (by assumption), q _ F H (Ext.refl hs) (.int _)⟩
    · cases hz
  · split at hz
    · rename_i x n hc
      cases hz
      obtain ⟨t, rfl⟩ := rx
      obtain ⟨t', rfl⟩ := ry
      refine SB.mul (mulOk_small hc.1.1 hc.1.2 hc.2) fun t' k => ⟨.str _, H, I.tok _, ⟨_, rfl⟩, q _ F H (Ext.refl hs) (.str _)⟩
    · cases hz
def floordivD : PyData → PyData → Option PyData
  | .int i, .int j => if j ≠ 0 ∧ j.natAbs < 1073741824 then some (.int (i.fdiv j)) else none
  | _, _ => none
theorem od_floordiv : OpD X (binaryOp .FloorDiv) floordivD := by
  intro pins s σ H x y v u Q I rx ry h
  obtain ⟨F, d, e, z, hs, hx, hy, hz, q⟩ := h
  cases hx <;> cases hy <;> simp only [floordivD] at hz <;> try (cases hz; done)
  split at hz
  · cases hz
    exact op_fdivN pins s σ H _ _ v u Q I rx ry ⟨_, _, rfl, rfl, by assumption, q _ F H (Ext.refl hs) (.int _)⟩
  · cases hz
def modD : PyData → PyData → Option PyData
  | .int i, .int j => if j ≠ 0 then some (.int (i.fmod j)) else none
  | _, _ => none
theorem od_mod : OpD X (binaryOp .Mod) modD := by
  intro pins s σ H x y v u Q I rx ry h
  obtain ⟨F, d, e, z, hs, hx, hy, hz, q⟩ := h
  cases hx <;> cases hy <;> simp only [modD] at hz <;> try (cases hz; done)
  split at hz
  · cases hz
    exact op_modN pins s σ H _ _ v u Q I rx ry ⟨_, _, rfl, rfl, by assumption, q _ F H (Ext.refl hs) (.int _)⟩
  · cases hz

/-! ### comparisons -/
def eqD (d e : PyData) : Option PyData := if SeqAt.shaped d = true ∧ SeqAt.shaped e = true then some (.bool (PyData.eqv d e)) else none
def neD (d e : PyData) : Option PyData := if SeqAt.shaped d = true ∧ SeqAt.shaped e = true then some (.bool (!PyData.eqv d e)) else none
theorem od_eq (hu : X.A.units + 64 < cLine) : OpD X (compareOp .Eq) eqD := by
  intro pins s σ H x y v u Q I rx ry h
  obtain ⟨F, d, e, z, hs, hx, hy, hz, q⟩ := h
  unfold eqD at hz
  split at hz
  · rename_i hc
    cases hz
    exact op_eqD hu pins s σ H _ _ v u Q I rx ry ⟨d, e, (dp_mono hs _ hx).toL2 (PyData.hasDict_of_canLay _ (SeqAt.canLay_of_shaped hc.1)), (dp_mono hs _ hy).toL2 (PyData.hasDict_of_canLay _ (SeqAt.canLay_of_shaped hc.2)), hc.1, hc.2, q _ F H (Ext.refl hs) (.bl _)⟩
  · cases hz
theorem od_ne (hu : X.A.units + 64 < cLine) : OpD X (compareOp .NotEq) neD := by
  intro pins s σ H x y v u Q I rx ry h
  obtain ⟨F, d, e, z, hs, hx, hy, hz, q⟩ := h
  unfold neD at hz
  split at hz
  · rename_i hc
    cases hz
    exact op_neD hu pins s σ H _ _ v u Q I rx ry ⟨d, e, (dp_mono hs _ hx).toL2 (PyData.hasDict_of_canLay _ (SeqAt.canLay_of_shaped hc.1)), (dp_mono hs _ hy).toL2 (PyData.hasDict_of_canLay _ (SeqAt.canLay_of_shaped hc.2)), hc.1, hc.2, q _ F H (Ext.refl hs) (.bl _)⟩
  · cases hz
def ltD : PyData → PyData → Option PyData
  | .int i, .int j => some (.bool (decide (i < j)))
  | .str x, .str y => some (.bool (decide (x.cps.toList < y.cps.toList)))
  | _, _ => none
theorem od_lt : OpD X (compareOp .Lt) ltD := by
  intro pins s σ H x y v u Q I rx ry h
  obtain ⟨F, d, e, z, hs, hx, hy, hz, q⟩ := h
  cases hx <;> cases hy <;> simp only [ltD] at hz <;> try (cases hz; done)
  · cases hz
    exact op_lt pins s σ H _ _ v u Q I rx ry ⟨_, _, rfl, rfl, q _ F H (Ext.refl hs) (.bl _)⟩
  · cases hz
    exact op_lt_str pins s σ H _ _ v u Q I rx ry ⟨_, _, rfl, rfl, q _ F H (Ext.refl hs) (.bl _)⟩
def leD : PyData → PyData → Option PyData
  | .int i, .int j => some (.bool (decide (i ≤ j)))
  | _, _ => none
theorem od_le : OpD X (compareOp .LtE) leD := by
  intro pins s σ H x y v u Q I rx ry h
  obtain ⟨F, d, e, z, hs, hx, hy, hz, q⟩ := h
  cases hx <;> cases hy <;> simp only [leD] at hz <;> try (cases hz; done)
  cases hz
  exact op_le pins s σ H _ _ v u Q I rx ry ⟨_, _, rfl, rfl, q _ F H (Ext.refl hs) (.bl _)⟩
def gtD : PyData → PyData → Option PyData
  | .int i, .int j => some (.bool (decide (j < i)))
  | _, _ => none
theorem od_gt : OpD X (compareOp .Gt) gtD := by
  intro pins s σ H x y v u Q I rx ry h
  obtain ⟨F, d, e, z, hs, hx, hy, hz, q⟩ := h
  cases hx <;> cases hy <;> simp only [gtD] at hz <;> try (cases hz; done)
  cases hz
  exact op_gt pins s σ H _ _ v u Q I rx ry ⟨_, _, rfl, rfl, q _ F H (Ext.refl hs) (.bl _)⟩
def geD : PyData → PyData → Option PyData
  | .int i, .int j => some (.bool (decide (j ≤ i)))
  | _, _ => none
theorem od_ge : OpD X (compareOp .GtE) geD := by
  intro pins s σ H x y v u Q I rx ry h
  obtain ⟨F, d, e, z, hs, hx, hy, hz, q⟩ := h
  cases hx <;> cases hy <;> simp only [geD] at hz <;> try (cases hz; done)
  cases hz
  exact op_ge pins s σ H _ _ v u Q I rx ry ⟨_, _, rfl, rfl, q _ F H (Ext.refl hs) (.bl _)⟩

/-! ### in -/
def inB (d : PyData) : PyData → Option Bool
  | .list xs => if PyData.canLayAll0 xs = true ∧ d.canLay0 = true ∧ d.depth ≤ 60 then some (xs.any fun y => PyData.eqv y d) else none
  | .tuple xs => if PyData.canLayAll0 xs = true ∧ d.canLay0 = true ∧ d.depth ≤ 60 then some (xs.any fun y => PyData.eqv y d) else none
  | .str z => match d with
    | .str x => match x.cps.toList with
      | [c] => some (decide (c ∈ z.cps.toList))
      | _ => none
    | _ => none
  | _ => none
def inD (d e : PyData) : Option PyData := (inB d e).map .bool
def notInD (d e : PyData) : Option PyData := (inB d e).map fun b => .bool (!b)
theorem str_one {x : Str} {c : Nat} (h : x.cps.toList = [c]) : x = ⟨#[c]⟩ := by
  cases x with
  | mk cps =>
    have : cps = #[c] := by rw [← Array.toList_inj]; exact h
    rw [this]
theorem room_in {A : Around} {xs : List PyData} {d : PyData} (hu : A.units + 64 < cLine) (hd : d.depth ≤ 60) : A.units + 1 + min (PyData.depthAll xs) d.depth < cLine := by
  have h2 : min (PyData.depthAll xs) d.depth ≤ d.depth := Nat.min_le_right _ _
  omega
theorem od_in (hu : X.A.units + 64 < cLine) : OpD X (compareOp .In) inD := by
  intro pins s σ H x y v u Q I rx ry h
  obtain ⟨F, d, e, z, hs, hx, hy, hz, q⟩ := h
  cases e with
  | list xs =>
    simp only [inD, inB] at hz
    split at hz
    · rename_i hc
      cases hz
      obtain ⟨as, r1⟩ := L2.Dp.reads I d x v ((dp_mono hs _ hx).toL2 (PyData.hasDict_of_canLay _ hc.2.1)) rx
      obtain ⟨bs, r2⟩ := L2.Dp.reads I _ y u ((dp_mono hs _ hy).toL2 (by simpa [PyData.hasDict] using PyData.hasDictAll_of_canLayAll _ hc.1)) ry
      exact SeqAt.in_list_reads r2 r1 hc.1 hc.2.1 (room_in hu hc.2.2) ⟨.bl _, H, I, rfl, q _ F H (Ext.refl hs) (.bl _)⟩
    · cases hz
  | tuple xs =>
    simp only [inD, inB] at hz
    split at hz
    · rename_i hc
      cases hz
      obtain ⟨as, r1⟩ := L2.Dp.reads I d x v ((dp_mono hs _ hx).toL2 (PyData.hasDict_of_canLay _ hc.2.1)) rx
      obtain ⟨bs, r2⟩ := L2.Dp.reads I _ y u ((dp_mono hs _ hy).toL2 (by simpa [PyData.hasDict] using PyData.hasDictAll_of_canLayAll _ hc.1)) ry
      exact SeqAt.in_tuple_reads r2 r1 hc.1 hc.2.1 (room_in hu hc.2.2) ⟨.bl _, H, I, rfl, q _ F H (Ext.refl hs) (.bl _)⟩
    · cases hz
  | str z =>
    simp only [inD, inB] at hz
    cases d with
    | str w =>
      simp only at hz
      split at hz
      · rename_i c e
        cases hz
        cases hx
        cases hy
        have e' := str_one e
        subst e'
        exact op_in_sign pins s σ H _ _ v u Q I rx ry ⟨_, _, rfl, rfl, q _ F H (Ext.refl hs) (.bl _)⟩
      · cases hz
    | _ => cases hz
  | _ => cases hz
theorem od_notIn (hu : X.A.units + 64 < cLine) : OpD X (compareOp .NotIn) notInD := by
  intro pins s σ H x y v u Q I rx ry h
  obtain ⟨F, d, e, z, hs, hx, hy, hz, q⟩ := h
  cases e with
  | list xs =>
    simp only [notInD, inB] at hz
    split at hz
    · rename_i hc
      cases hz
      obtain ⟨as, r1⟩ := L2.Dp.reads I d x v ((dp_mono hs _ hx).toL2 (PyData.hasDict_of_canLay _ hc.2.1)) rx
      obtain ⟨bs, r2⟩ := L2.Dp.reads I _ y u ((dp_mono hs _ hy).toL2 (by simpa [PyData.hasDict] using PyData.hasDictAll_of_canLayAll _ hc.1)) ry
      exact SeqAt.notIn_list_reads r2 r1 hc.1 hc.2.1 (room_in hu hc.2.2) ⟨.bl _, H, I, rfl, q _ F H (Ext.refl hs) (.bl _)⟩
    · cases hz
  | tuple xs =>
    simp only [notInD, inB] at hz
    split at hz
    · rename_i hc
      cases hz
      obtain ⟨as, r1⟩ := L2.Dp.reads I d x v ((dp_mono hs _ hx).toL2 (PyData.hasDict_of_canLay _ hc.2.1)) rx
      obtain ⟨bs, r2⟩ := L2.Dp.reads I _ y u ((dp_mono hs _ hy).toL2 (by simpa [PyData.hasDict] using PyData.hasDictAll_of_canLayAll _ hc.1)) ry
      exact SeqAt.notIn_tuple_reads r2 r1 hc.1 hc.2.1 (room_in hu hc.2.2) ⟨.bl _, H, I, rfl, q _ F H (Ext.refl hs) (.bl _)⟩
    · cases hz
  | str z =>
    simp only [notInD, inB] at hz
    cases d with
    | str w =>
      simp only at hz
      split at hz
      · rename_i c e
        cases hz
        cases hx
        cases hy
        have e' := str_one e
        subst e'
        exact op_notIn_sign pins s σ H _ _ v u Q I rx ry ⟨_, _, rfl, rfl, q _ F H (Ext.refl hs) (.bl _)⟩
      · cases hz
    | _ => cases hz
  | _ => cases hz

/-! ### is: None, bools -/
def isB : PyData → PyData → Option Bool
  | .none, .none => some true
  | .bool a, .bool b => some (a == b)
  | _, .none => some false
  | _, .bool _ => some false
  | _, _ => none
def isD (d e : PyData) : Option PyData := (isB d e).map .bool
def isNotD (d e : PyData) : Option PyData := (isB d e).map fun b => .bool (!b)
theorem od_is : OpD X (compareOp .Is) isD := by
  intro pins s σ H x y v u Q I rx ry h
  obtain ⟨F, d, e, z, hs, hx, hy, hz, q⟩ := h
  cases hx with
  | non => cases hy <;> simp only [objD, isD, isB, Option.map] at hz <;> try (cases hz; done)
           · cases hz; cases rx; cases ry
             exact wpAny_is_self rfl ⟨.bl _, H, I, rfl, q _ F H (Ext.refl hs) (.bl _)⟩
           · cases hz; cases rx; cases ry
             exact wpAny_is_other rfl (fun z => nomatch z) ⟨.bl _, H, I, rfl, q _ F H (Ext.refl hs) (.bl _)⟩
  | bl b => cases hy <;> simp only [objD, isD, isB, Option.map] at hz <;> try (cases hz; done)
            · cases hz; cases rx; cases ry
              exact wpAny_is_other rfl (fun z => nomatch z) ⟨.bl _, H, I, rfl, q _ F H (Ext.refl hs) (.bl _)⟩
            · cases hz
              refine op_isBl pins s σ H _ _ v u Q I rx ry ⟨_, _, rfl, rfl, ?_⟩
              rw [← Bool.beq_eq_decide_eq]
              exact q _ F H (Ext.refl hs) (.bl _)
  | int i => cases hy <;> simp only [objD, isD, isB, Option.map] at hz <;> try (cases hz; done)
             all_goals
               cases hz; obtain ⟨t, rfl⟩ := rx; cases ry
               exact wpAny_is_other rfl (fun z => nomatch z) ⟨.bl _, H, I, rfl, q _ F H (Ext.refl hs) (.bl _)⟩
  | str i => cases hy <;> simp only [objD, isD, isB, Option.map] at hz <;> try (cases hz; done)
             all_goals
               cases hz; obtain ⟨t, rfl⟩ := rx; cases ry
               exact wpAny_is_other rfl (fun z => nomatch z) ⟨.bl _, H, I, rfl, q _ F H (Ext.refl hs) (.bl _)⟩
  | lst _ _ => cases hy <;> simp only [objD, isD, isB, Option.map] at hz <;> try (cases hz; done)
               all_goals
                 cases hz; cases rx; cases ry
                 exact wpAny_is_other rfl (fun z => nomatch z) ⟨.bl _, H, I, rfl, q _ F H (Ext.refl hs) (.bl _)⟩
  | tup _ _ => cases hy <;> simp only [objD, isD, isB, Option.map] at hz <;> try (cases hz; done)
               all_goals
                 cases hz; cases rx; cases ry
                 exact wpAny_is_other rfl (fun z => nomatch z) ⟨.bl _, H, I, rfl, q _ F H (Ext.refl hs) (.bl _)⟩
  | exo _ _ _ _ _ =>
    cases hy <;> simp only [objD, isD, isB, Option.map] at hz <;> try (cases hz; done)
    all_goals
      cases hz; cases rx; cases ry
      exact wpAny_is_other rfl (fun z => nomatch z) ⟨.bl _, H, I, rfl, q _ F H (Ext.refl hs) (.bl _)⟩
  | ex0 _ _ =>
    cases hy <;> simp only [objD, isD, isB, Option.map] at hz <;> try (cases hz; done)
    all_goals
      cases hz; cases rx; cases ry
      exact wpAny_is_other rfl (fun z => nomatch z) ⟨.bl _, H, I, rfl, q _ F H (Ext.refl hs) (.bl _)⟩
theorem od_isNot : OpD X (compareOp .IsNot) isNotD := by
  intro pins s σ H x y v u Q I rx ry h
  obtain ⟨F, d, e, z, hs, hx, hy, hz, q⟩ := h
  cases hx with
  | non => cases hy <;> simp only [objD, isNotD, isB, Option.map] at hz <;> try (cases hz; done)
           · cases hz; cases rx; cases ry
             exact wpAny_isNot_self rfl ⟨.bl _, H, I, rfl, q _ F H (Ext.refl hs) (.bl _)⟩
           · cases hz; cases rx; cases ry
             exact wpAny_isNot_other rfl (fun z => nomatch z) ⟨.bl _, H, I, rfl, q _ F H (Ext.refl hs) (.bl _)⟩
  | bl b => cases hy <;> simp only [objD, isNotD, isB, Option.map] at hz <;> try (cases hz; done)
            · cases hz; cases rx; cases ry
              exact wpAny_isNot_other rfl (fun z => nomatch z) ⟨.bl _, H, I, rfl, q _ F H (Ext.refl hs) (.bl _)⟩
            · cases hz
              refine op_notBl pins s σ H _ _ v u Q I rx ry ⟨_, _, rfl, rfl, ?_⟩
              rw [← Bool.beq_eq_decide_eq]
              exact q _ F H (Ext.refl hs) (.bl _)
  | int i => cases hy <;> simp only [objD, isNotD, isB, Option.map] at hz <;> try (cases hz; done)
             all_goals
               cases hz; obtain ⟨t, rfl⟩ := rx; cases ry
               exact wpAny_isNot_other rfl (fun z => nomatch z) ⟨.bl _, H, I, rfl, q _ F H (Ext.refl hs) (.bl _)⟩
  | str i => cases hy <;> simp only [objD, isNotD, isB, Option.map] at hz <;> try (cases hz; done)
             all_goals
               cases hz; obtain ⟨t, rfl⟩ := rx; cases ry
               exact wpAny_isNot_other rfl (fun z => nomatch z) ⟨.bl _, H, I, rfl, q _ F H (Ext.refl hs) (.bl _)⟩
  | lst _ _ => cases hy <;> simp only [objD, isNotD, isB, Option.map] at hz <;> try (cases hz; done)
               all_goals
                 cases hz; cases rx; cases ry
                 exact wpAny_isNot_other rfl (fun z => nomatch z) ⟨.bl _, H, I, rfl, q _ F H (Ext.refl hs) (.bl _)⟩
  | tup _ _ => cases hy <;> simp only [objD, isNotD, isB, Option.map] at hz <;> try (cases hz; done)
               all_goals
                 cases hz; cases rx; cases ry
                 exact wpAny_isNot_other rfl (fun z => nomatch z) ⟨.bl _, H, I, rfl, q _ F H (Ext.refl hs) (.bl _)⟩
  | exo _ _ _ _ _ =>
    cases hy <;> simp only [objD, isNotD, isB, Option.map] at hz <;> try (cases hz; done)
    all_goals
      cases hz; cases rx; cases ry
      exact wpAny_isNot_other rfl (fun z => nomatch z) ⟨.bl _, H, I, rfl, q _ F H (Ext.refl hs) (.bl _)⟩
  | ex0 _ _ =>
    cases hy <;> simp only [objD, isNotD, isB, Option.map] at hz <;> try (cases hz; done)
    all_goals
      cases hz; cases rx; cases ry
      exact wpAny_isNot_other rfl (fun z => nomatch z) ⟨.bl _, H, I, rfl, q _ F H (Ext.refl hs) (.bl _)⟩
end
end DL

set_option maxRecDepth 100000
set_option maxHeartbeats 1000000
/-! DL4: expressions. -/
namespace DL
open PySem PySem.Spec PyProof.Rows L2
variable [CC : ClsCtx] [XC : XcCtx]

/-! ### names -/
def cData : C → Option PyData
  | .sh d => some d
  | .ow ds => some (.list ds)
  | .ol dss => some (.list (dss.map .list))
  | _ => none
section
variable {K : PySem.W.Frag} {F H : Hp} {σ : L2.St} {δ : Sl} {fp : List Addr} {i : Nat} {c : C} {d : PyData}
theorem ola_data : ∀ {bs : List Addr} {dss : List (List PyData)}, OlAll K F H bs dss → Same F H → DpAll K H (bs.map V.ref) (dss.map PyData.list)
  | _, _, .nil, _ => .nil
  | _, _, .cons h n ds r, e => .cons (.lst (SqL.of h) (dpa_mono e _ ds)) (ola_data r e)
/-- what a slot holds, read by the heap as it stands -/
theorem crep_data {o : Option V} {fi : List Addr} (h : CRep K F H o c fi) (e : Same F H) (hd : cData c = some d) : ∃ v, o = some v ∧ Dp K H v d := by
  cases h with
  | sh r => cases hd; exact ⟨_, rfl, dp_mono e _ r⟩
  | ow h n ds => cases hd; exact ⟨_, rfl, .lst (SqL.of h) (dpa_mono e _ ds)⟩
  | ol h n r => cases hd; exact ⟨_, rfl, .lst (SqL.of h) (ola_data r e)⟩
  | _ => cases hd
theorem ER.look (E : ER K F H σ δ fp) (hc : δ[i]? = some c) (hd : cData c = some d) : ∃ v, σ[i]? = some (some v) ∧ Dp K H v d := by
  obtain ⟨o, fl, fi, fr, h1, h2, h3, h4⟩ := E.rep.at hc
  obtain ⟨v, rfl, hv⟩ := crep_data h2 E.sub hd
  exact ⟨v, h1, hv⟩
theorem set_same {α : Type} : ∀ {l : List α} {i : Nat} {x : α}, l[i]? = some x → l.set i x = l
  | [], _, _, h => by simp at h
  | a :: l, 0, x, h => by simp at h; subst h; rfl
  | a :: l, i + 1, x, h => by
    have := set_same (l := l) (i := i) (x := x) (by simpa using h)
    simp [this]
def frz (F H : Hp) (fi : List Addr) : Hp := fun b => if b ∈ fi then H b else F b
theorem frz_in {F H : Hp} {fi : List Addr} {b : Addr} (h : b ∈ fi) : frz F H fi b = H b := if_pos h
theorem frz_out {F H : Hp} {fi : List Addr} {b : Addr} (h : b ∉ fi) : frz F H fi b = F b := if_neg h
theorem ola_frz {fi : List Addr} : ∀ {bs : List Addr} {dss : List (List PyData)}, OlAll K F H bs dss → (∀ b ∈ bs, b ∈ fi) → Same F (frz F H fi) → DpAll K (frz F H fi) (bs.map V.ref) (dss.map PyData.list)
  | _, _, .nil, _, _ => .nil
  | _, _, .cons h n ds r, m, e => .cons (.lst (SqL.of ((frz_in (m _ (by simp))).trans h)) (dpa_mono e _ ds)) (ola_frz r (fun b hb => m b (by simp [hb])) e)
/-- what a slot owns is frozen -/
theorem ER.freeze (E : ER K F H σ δ fp) (hc : δ[i]? = some c) (hd : cData c = some d) :
    ∃ v F' fp', σ[i]? = some (some v) ∧ Go fp F H fp' F' H ∧ ER K F' H σ (δ.set i (.sh d)) fp' ∧ Dp K F' v d := by
  obtain ⟨o, fl, fi, fr, h1, h2, h3, h4⟩ := E.rep.at hc
  have hth := h2.there
  have s1 : Same F (frz F H fi) := fun b u e => by
    rw [frz_out (fun hb => by rw [(hth b hb).1] at e; cases e)]; exact e
  have s2 : Same (frz F H fi) H := fun b u e => by
    by_cases hb : b ∈ fi
    · rw [frz_in hb] at e; exact e
    · rw [frz_out hb] at e; exact E.sub b u e
  obtain ⟨v, rfl, hv⟩ : ∃ v, o = some v ∧ Dp K (frz F H fi) v d := by
    cases h2 with
    | sh r => cases hd; exact ⟨_, rfl, dp_mono s1 _ r⟩
    | ow h n ds => cases hd; exact ⟨_, rfl, .lst (SqL.of ((frz_in (by simp)).trans h)) (dpa_mono s1 _ ds)⟩
    | ol h n r => cases hd; exact ⟨_, rfl, .lst (SqL.of ((frz_in (by simp)).trans h)) (ola_frz r (fun b hb => by simp [hb]) s1)⟩
    | _ => cases hd
  have nd := E.nd
  rw [h3] at nd
  have apart : ∀ b, b ∈ fl ++ fr → b ∉ fi := fun b hb hi => by
    rw [List.nodup_append] at nd
    obtain ⟨_, n2, n3⟩ := nd
    rw [List.nodup_append] at n2
    rcases List.mem_append.mp hb with q | q
    · exact n3 b q b (List.mem_append_left _ hi) rfl
    · exact n2.2.2 b hi b q rfl
  have none' : ∀ b, b ∈ fl ++ fr → frz F H fi b = none := fun b hb => by
    rw [frz_out (apart b hb)]
    exact (E.rep.there b (by rw [h3]; rcases List.mem_append.mp hb with q | q <;> simp [q])).1
  have q := h4 (F' := frz F H fi) (H' := H) (o' := some v) (c' := .sh d) (fi' := []) s1 (fun b u _ e => e) none' (.sh hv)
  rw [set_same h1] at q
  refine ⟨v, frz F H fi, fl ++ fr, h1, ⟨s1, fun _ _ _ e => e, fun b e n => ?_, fun b hb => .inl ?_, fun _ o e => ⟨o, e⟩⟩, ⟨s2, by simpa using q, ?_⟩, hv⟩
  · by_cases hb : b ∈ fi
    · exact .inr (by rw [h3]; simp [hb])
    · rw [frz_out hb] at n; exact absurd e n
  · rw [h3]; rcases List.mem_append.mp hb with q | q <;> simp [q]
  · rw [List.nodup_append] at nd ⊢
    obtain ⟨n1, n2, n3⟩ := nd
    rw [List.nodup_append] at n2
    exact ⟨n1, n2.2.1, fun a ha b hb => n3 a ha b (List.mem_append_right _ hb)⟩
end
def varM (i : Nat) : M PyData := fun δ => match δ[i]? with
  | some (.sh d) => some (.ok d δ)
  | some (.ow ds) => some (.ok (.list ds) (δ.set i (.sh (.list ds))))
  | some (.ol dss) => some (.ok (.list (dss.map .list)) (δ.set i (.sh (.list (dss.map .list)))))
  | _ => none
theorem varM_of {i : Nat} {δ : Sl} {r : Rs PyData} (h : varM i δ = some r) : ∃ c d, δ[i]? = some c ∧ cData c = some d ∧ r = .ok d (δ.set i (.sh d)) := by
  unfold varM at h
  cases e : δ[i]? with
  | none => rw [e] at h; cases h
  | some c =>
    rw [e] at h
    cases c with
    | sh d => cases h; exact ⟨_, d, rfl, rfl, by rw [set_same e]⟩
    | ow ds => cases h; exact ⟨_, _, rfl, rfl, rfl⟩
    | ol ds => cases h; exact ⟨_, _, rfl, rfl, rfl⟩
    | _ => cases h
section
variable {X : Cx} {cls : Str → Option Addr} {W : WX} {pos : Pos}
theorem de_var (i : Nat) {x : Str} (hN : X.N[i]? = some x := by rfl) (hv : Vis X.env.scope x := by first | exact Or.inl rfl | exact Or.inr (Or.inl rfl) | exact Or.inr (Or.inr rfl)) (hd : (x == ("__debug__" : Str)) = false := by decide)
    (hcd : (x == ("__classdict__" : Str)) = false := by decide) : DE X cls W (.Name x pos) (varM i) := by
  refine pe_imp (pv i hN hv hd hcd) fun σ H Q h => ?_
  obtain ⟨F, fp, δ, E, r, hm, hf⟩ := h
  obtain ⟨c, d, hc, hd', rfl⟩ := varM_of hm
  obtain ⟨v, F', fp', hv, g, E', rv⟩ := E.freeze hc hd'
  exact ⟨v, hv, hf fp' F' H g E' v rv⟩
theorem de_ret {e : Expr} {v : V} {d : PyData} (h : PE X e (tC v)) (hd : ∀ F, Dp X.K F v d) : DE X cls W e (ret d) := by
  refine pe_imp h fun σ H Q h => ?_
  obtain ⟨F, fp, δ, h⟩ := h
  obtain ⟨E, q⟩ := tm_ret h
  exact q F H (Ext.refl E.sub) v (hd F)
theorem de_int {i : Int} {j : Nat} : DE X cls W (.Constant (.int i) j pos) (ret (.int i)) := de_ret pe_int fun _ => .int i
theorem de_bl {b : Bool} {j : Nat} : DE X cls W (.Constant (.bool b) j pos) (ret (.bool b)) := de_ret pe_bl fun _ => .bl b
theorem de_non {j : Nat} : DE X cls W (.Constant .none j pos) (ret .none) := de_ret pe_non fun _ => .non
theorem de_str {x : Str} {j : Nat} : DE X cls W (.Constant (.str x) j pos) (ret (.str x)) := de_ret pe_str fun _ => .str x
/-- a constant of the module -/
theorem de_glob {x : Str} {v : V} {u : Value} {d : PyData} (hm : X.mg x = some u) (r : RelV v u) (hd : ∀ F, Dp X.K F v d) (hg : Gl X x := by rfl) (hdb : (x == ("__debug__" : Str)) = false := by decide) : DE X cls W (.Name x pos) (ret d) := de_ret (pe_glob hg hm r hdb) hd

/-! ### several -/
variable {a b : Expr} {ma mb : M PyData} {es : List Expr} {mr : M (List PyData)} {e : Expr} {me : M PyData} {ta tb : M Bool}
theorem da_nil : DA X cls W [] (ret []) := by
  refine pa_imp pa_nil fun σ H Q h => ?_
  obtain ⟨F, fp, δ, h⟩ := h
  obtain ⟨E, q⟩ := tm_ret h
  exact q F H (Ext.refl E.sub) [] .nil
theorem da_cons (ha : DE X cls W e me) (hr : DA X cls W es mr) (hs : starEach (e :: es) X.env = (false, eval e X.env) :: starEach es X.env := by rfl) : DA X cls W (e :: es) (bnd me fun d => bnd mr fun ds => ret (d :: ds)) := by
  refine pa_imp (pa_cons ha hr hs) fun σ H Q h => ?_
  obtain ⟨F, fp, δ, h⟩ := h
  refine Tm.mono (TmA.tm (tm_bnd h)) fun v H1 ⟨x, F1, fp1, δ1, rx, s1, _, _, h1⟩ => ?_
  refine Tm.mono (TmA.tm (tm_bnd h1)) fun w H2 ⟨y, F2, fp2, δ2, ry, s2, _, _, h2⟩ => ?_
  obtain ⟨E, q⟩ := tm_ret h2
  exact q F2 H2 (Ext.refl E.sub) _ (.cons (dp_mono s2 _ rx) ry)
def tupD (ds : List PyData) : Option PyData := if ds.length ≤ sizeLine then some (.tuple ds) else none
def lstD (ds : List PyData) : Option PyData := if ds.length ≤ sizeLine then some (.list ds) else none
theorem de_tup {k : Nat} (h : DA X cls W es mr) : DE X cls W (.Tuple es k pos) (bnd mr fun ds => lft (tupD ds)) := by
  refine pe_imp (pe_tup h) fun σ H Q h => ?_
  obtain ⟨F, fp, δ, h⟩ := h
  refine Tm.mono (TmA.tm (tm_bnd h)) fun v H1 ⟨ds, F1, fp1, δ1, rx, s1, _, _, h1⟩ => ?_
  obtain ⟨z, e, E, q⟩ := tm_lft h1
  unfold tupD at e
  split at e
  · cases e
    exact ⟨by rw [dpa_len rx]; assumption, fun p np => q _ _ (Ext.new E.sub np) _ (dp_new_tup (E.sub.free np) rx)⟩
  · cases e
theorem de_lst (h : DA X cls W es mr) : DE X cls W (.List es pos) (bnd mr fun ds => lft (lstD ds)) := by
  refine pe_imp (pe_lst h) fun σ H Q h => ?_
  obtain ⟨F, fp, δ, h⟩ := h
  refine Tm.mono (TmA.tm (tm_bnd h)) fun v H1 ⟨ds, F1, fp1, δ1, rx, s1, _, _, h1⟩ => ?_
  obtain ⟨z, e, E, q⟩ := tm_lft h1
  unfold lstD at e
  split at e
  · cases e
    exact ⟨by rw [dpa_len rx]; assumption, fun p np => q _ _ (Ext.new E.sub np) _ (dp_new_lst (E.sub.free np) rx)⟩
  · cases e

/-! ### tests -/
def truthD : PyData → Option Bool
  | .none => some false
  | .bool b => some b
  | .int i => some (i != 0)
  | .str s => if s.length ≤ sizeLine then some ((s.length : Int) != 0) else none
  | .list xs => some (!xs.isEmpty)
  | .tuple xs => some (!xs.isEmpty)
  | .dict _ => none
theorem isEmpty_dpa {K : PySem.W.Frag} {F : Hp} {vs : List V} {ds : List PyData} (h : DpAll K F vs ds) : (!ds.isEmpty) = !vs.isEmpty := by
  cases h <;> rfl
theorem tru_of {K : PySem.W.Frag} {H : Hp} {v : V} {d : PyData} {b : Bool} (h : Dp K H v d) (e : truthD d = some b) : TruV K v H b := by
  cases h with
  | non => cases e; rfl
  | bl b => cases e; rfl
  | int i => cases e; rfl
  | str s =>
    simp only [truthD] at e
    split at e
    · cases e; exact ⟨by assumption, rfl⟩
    · cases e
  | lst hs ha => cases e; exact .inl ⟨_, hs, isEmpty_dpa ha⟩
  | tup hs ha => cases e; exact .inr (.inl ⟨_, hs, isEmpty_dpa ha⟩)
  | exo _ _ _ _ _ => cases e
  | ex0 _ _ => cases e
theorem dt_truth (ha : DE X cls W a ma) (he : ∀ whole, isTrue a X.env whole = (do let v ← whole; standAt a.pos; holding [v] (truthy v)) := by intro _; rfl) : DT X cls W a (bnd ma fun d => lft (truthD d)) := by
  refine pt_imp (pt_truth ha he) fun σ H Q h => ?_
  obtain ⟨F, fp, δ, h⟩ := h
  refine Tm.mono (TmA.tm (tm_bnd h)) fun v H1 ⟨x, F1, fp1, δ1, rx, s1, _, _, h1⟩ => ?_
  obtain ⟨z, e, E, q⟩ := tm_lft h1
  exact ⟨z, tru_of (dp_mono E.sub _ rx) e, q F1 H1 (Ext.refl E.sub) _ rfl⟩
theorem dt_not (ha : DT X cls W a ta) : DT X cls W (.UnaryOp .Not a pos) (bnd ta fun b => ret (!b)) := by
  refine pt_imp (pt_not ha) fun σ H Q h => ?_
  obtain ⟨F, fp, δ, h⟩ := h
  refine Tm.mono (TmA.tm (tm_bnd h)) fun v H1 ⟨x, F1, fp1, δ1, rx, s1, _, _, h1⟩ => ?_
  obtain ⟨E, q⟩ := tm_ret h1
  cases rx
  exact q F1 H1 (Ext.refl E.sub) _ rfl
def andM (ta tb : M Bool) : M Bool := bnd ta fun b => if b = true then tb else ret false
def orM (ta tb : M Bool) : M Bool := bnd ta fun b => if b = true then ret true else tb
variable {rest : List Expr}
theorem dw_and1 (ha : DT X cls W a ta) : DW X cls W (.BoolOp .And [a] pos) ta := pw_and1 ha
theorem dw_or1 (ha : DT X cls W a ta) : DW X cls W (.BoolOp .Or [a] pos) ta := pw_or1 ha
theorem dw_and (ha : DT X cls W a ta) (hb : DW X cls W (.BoolOp .And (b :: rest) pos) tb) : DW X cls W (.BoolOp .And (a :: b :: rest) pos) (andM ta tb) := by
  refine pw_imp (pw_and ha hb) fun σ H Q h => ?_
  obtain ⟨F, fp, δ, h⟩ := h
  refine Tm.mono (TmA.tm (tm_bnd h)) fun v H1 ⟨x, F1, fp1, δ1, rx, s1, _, _, h1⟩ => ?_
  cases rx
  cases v with
  | true => exact iteT h1.tm
  | false =>
    obtain ⟨E, q⟩ := tm_ret h1
    exact iteF (q F1 H1 (Ext.refl E.sub) _ rfl)
theorem dw_or (ha : DT X cls W a ta) (hb : DW X cls W (.BoolOp .Or (b :: rest) pos) tb) : DW X cls W (.BoolOp .Or (a :: b :: rest) pos) (orM ta tb) := by
  refine pw_imp (pw_or ha hb) fun σ H Q h => ?_
  obtain ⟨F, fp, δ, h⟩ := h
  refine Tm.mono (TmA.tm (tm_bnd h)) fun v H1 ⟨x, F1, fp1, δ1, rx, s1, _, _, h1⟩ => ?_
  cases rx
  cases v with
  | false => exact iteF h1.tm
  | true =>
    obtain ⟨E, q⟩ := tm_ret h1
    exact iteT (q F1 H1 (Ext.refl E.sub) _ rfl)
/-- and, or of bools, as values -/
def andVM (ma mb : M PyData) : M PyData := bnd ma fun d => bnd (lft (boolD d)) fun b => if b = true then mb else ret (.bool false)
def orVM (ma mb : M PyData) : M PyData := bnd ma fun d => bnd (lft (boolD d)) fun b => if b = true then ret (.bool true) else mb
theorem bl_of {K : PySem.W.Frag} {F : Hp} {v : V} {d : PyData} {b : Bool} (h : Dp K F v d) (e : boolD d = some b) : v = .bl b := by
  cases h <;> cases e; rfl
theorem de_one {op : PySem.BoolOp} (ha : DE X cls W a ma) : DE X cls W (.BoolOp op [a] pos) ma := pe_one ha
theorem de_and (ha : DE X cls W a ma) (hb : DE X cls W (.BoolOp .And (b :: rest) pos) mb) : DE X cls W (.BoolOp .And (a :: b :: rest) pos) (andVM ma mb) := by
  refine pe_imp (pe_and ha hb) fun σ H Q h => ?_
  obtain ⟨F, fp, δ, h⟩ := h
  refine Tm.mono (TmA.tm (tm_bnd h)) fun v H1 ⟨x, F1, fp1, δ1, rx, s1, _, _, h1⟩ => ?_
  obtain ⟨E1, r, hm, hf⟩ := h1
  cases e : boolD x with
  | none => simp [bnd, lft, e] at hm
  | some c =>
    have hm' : (if c = true then mb else ret (PyData.bool false)) δ1 = some r := by simpa [bnd, lft, e] using hm
    refine ⟨c, bl_of rx e, ?_⟩
    cases c with
    | true => exact iteT ⟨F1, fp1, δ1, E1, r, hm', hf⟩
    | false =>
      obtain ⟨_, q⟩ := tm_ret (x := PyData.bool false) (Rel := Dp X.K) (K := X.K) (cls := cls) (W := W) (σ := σ) (Q := Q) ⟨E1, r, hm', hf⟩
      exact iteF (q F1 H1 (Ext.refl E1.sub) _ (.bl false))
theorem de_or (ha : DE X cls W a ma) (hb : DE X cls W (.BoolOp .Or (b :: rest) pos) mb) : DE X cls W (.BoolOp .Or (a :: b :: rest) pos) (orVM ma mb) := by
  refine pe_imp (pe_or ha hb) fun σ H Q h => ?_
  obtain ⟨F, fp, δ, h⟩ := h
  refine Tm.mono (TmA.tm (tm_bnd h)) fun v H1 ⟨x, F1, fp1, δ1, rx, s1, _, _, h1⟩ => ?_
  obtain ⟨E1, r, hm, hf⟩ := h1
  cases e : boolD x with
  | none => simp [bnd, lft, e] at hm
  | some c =>
    have hm' : (if c = true then ret (PyData.bool true) else mb) δ1 = some r := by simpa [bnd, lft, e] using hm
    refine ⟨c, bl_of rx e, ?_⟩
    cases c with
    | false => exact iteF ⟨F1, fp1, δ1, E1, r, hm', hf⟩
    | true =>
      obtain ⟨_, q⟩ := tm_ret (x := PyData.bool true) (Rel := Dp X.K) (K := X.K) (cls := cls) (W := W) (σ := σ) (Q := Q) ⟨E1, r, hm', hf⟩
      exact iteT (q F1 H1 (Ext.refl E1.sub) _ (.bl true))
theorem de_not (ha : DE X cls W a ma) : DE X cls W (.UnaryOp .Not a pos) (bnd ma fun d => lft ((boolD d).map fun b => .bool (!b))) := by
  refine pe_imp (pe_not ha) fun σ H Q h => ?_
  obtain ⟨F, fp, δ, h⟩ := h
  refine Tm.mono (TmA.tm (tm_bnd h)) fun v H1 ⟨x, F1, fp1, δ1, rx, s1, _, _, h1⟩ => ?_
  obtain ⟨z, e, E, q⟩ := tm_lft h1
  cases eb : boolD x with
  | none => rw [eb] at e; cases e
  | some c =>
    rw [eb] at e; cases e
    exact ⟨c, bl_of rx eb, q F1 H1 (Ext.refl E.sub) _ (.bl _)⟩
def ifM {α : Type} (t : M Bool) (ma mb : M α) : M α := bnd t fun b => if b = true then ma else mb
theorem de_if {c : Expr} {tc : M Bool} (hc : DT X cls W c tc) (ha : DE X cls W a ma) (hb : DE X cls W b mb) : DE X cls W (.IfExp c a b pos) (ifM tc ma mb) := by
  refine pe_imp (pe_ifExp hc ha hb) fun σ H Q h => ?_
  obtain ⟨F, fp, δ, h⟩ := h
  refine Tm.mono (TmA.tm (tm_bnd h)) fun v H1 ⟨x, F1, fp1, δ1, rx, s1, _, _, h1⟩ => ?_
  cases rx
  cases v with
  | true => exact iteT h1.tm
  | false => exact iteF h1.tm
theorem de_neg (ha : DE X cls W a ma) : DE X cls W (.UnaryOp .USub a pos) (bnd ma fun d => lft (match d with | .int i => some (.int (-i)) | _ => none)) := by
  refine pe_imp (pe_un un_neg ha) fun σ H Q h => ?_
  obtain ⟨F, fp, δ, h⟩ := h
  refine Tm.mono (TmA.tm (tm_bnd h)) fun v H1 ⟨x, F1, fp1, δ1, rx, s1, _, _, h1⟩ => ?_
  obtain ⟨z, e, E, q⟩ := tm_lft h1
  cases rx with
  | int i => cases e; exact ⟨i, rfl, q F1 H1 (Ext.refl E.sub) _ (.int _)⟩
  | _ => cases e

/-! ### subscripts and slices -/
def atD {α : Type} (xs : List α) (i : Int) : Option α := atI xs i
def ixD : PyData → PyData → Option PyData
  | .list xs, .int i => atI xs i
  | .tuple xs, .int i => atI xs i
  | .str z, .int i => if z.length ≤ sizeLine then (atI z.cps.toList i).map fun c => .str ⟨#[c]⟩ else none
  | _, _ => none
theorem dpa_atI {K : PySem.W.Frag} {F : Hp} {ds : List PyData} {vs : List V} {i : Int} {d : PyData} (h : DpAll K F vs ds) (e : atI ds i = some d) : ∃ v, atI vs i = some v ∧ Dp K F v d := by
  unfold atI at e ⊢
  rw [← dpa_len h] at e
  cases e1 : ixN vs.length i with
  | none => rw [e1] at e; cases e
  | some j =>
    rw [e1] at e
    exact dpa_get h e
theorem ix_D : IxR X (rD X.K ixD) := by
  intro value slice pins s σ H x y v u Q I rx ry h hs
  obtain ⟨F, d, e, z, hsub, hx, hy, hz, q⟩ := h
  cases hx with
  | lst hq ha =>
    cases hy <;> try (cases hz; done)
    obtain ⟨w, e1, e2⟩ := dpa_atI ha hz
    exact ix_list value slice pins s σ H _ _ v u Q I rx ry ⟨_, _, _, w, rfl, rfl, hsub.seq hq, e1, q _ F H (Ext.refl hsub) e2⟩ hs
  | tup hq ha =>
    cases hy <;> try (cases hz; done)
    obtain ⟨w, e1, e2⟩ := dpa_atI ha hz
    exact ix_tup value slice pins s σ H _ _ v u Q I rx ry ⟨_, _, _, w, rfl, rfl, Same.tup hsub hq, e1, q _ F H (Ext.refl hsub) e2⟩ hs
  | str t =>
    cases hy <;> try (cases hz; done)
    rename_i i
    simp only [ixD] at hz
    split at hz
    · cases e1 : atI t.cps.toList i with
      | none => rw [e1] at hz; cases hz
      | some c =>
        rw [e1] at hz; cases hz
        exact ix_str value slice pins s σ H _ _ v u Q I rx ry ⟨_, _, c, rfl, rfl, by assumption, e1, q _ F H (Ext.refl hsub) (.str _)⟩ hs
    · cases hz
  | _ => cases hy <;> cases hz
theorem de_ix (ha : DE X cls W a ma) (hb : DE X cls W b mb) (hs : PlainIx b := by exact fun _ _ => rfl) : DE X cls W (.Subscript a b pos) (bnd ma fun x => bnd mb fun y => lft (ixD x y)) :=
  pe_imp (pe_ix ix_D ha hb hs) fun _ _ _ => tm_op
def DP (X : Cx) (cls : Str → Option Addr) (W : WX) (e : Option Expr) (m : M (Option Int)) : Prop := PO X e (tO X.K cls W m)
theorem dp_none : DP X cls W none (ret none) := by
  refine ⟨fun pins s σ H Q I h => po_none.run pins s σ H Q I ?_⟩
  obtain ⟨F, fp, δ, h⟩ := h
  obtain ⟨E, q⟩ := tm_ret h
  exact q F H (Ext.refl E.sub) _ rfl
def intD : PyData → Option Int
  | .int i => some i
  | _ => none
theorem dp_some (h : DE X cls W e me) : DP X cls W (some e) (bnd me fun d => lft ((intD d).map some)) := by
  refine ⟨fun pins s σ H Q I h' => (po_some h).run pins s σ H Q I ?_⟩
  obtain ⟨F, fp, δ, h'⟩ := h'
  refine Tm.mono (TmA.tm (tm_bnd h')) fun v H1 ⟨x, F1, fp1, δ1, rx, s1, _, _, h1⟩ => ?_
  obtain ⟨z, e, E, q⟩ := tm_lft h1
  cases rx with
  | int i => cases e; exact ⟨i, rfl, q F1 H1 (Ext.refl E.sub) _ rfl⟩
  | _ => cases e
def cutL {α : Type} (xs : List α) (lo hi : Option Int) : List α := (xs.drop (HT.sIx xs.length 0 lo)).take (HT.sIx xs.length xs.length hi - HT.sIx xs.length 0 lo)
theorem dpa_cut {K : PySem.W.Frag} {F : Hp} {ds : List PyData} {vs : List V} {lo hi : Option Int} (h : DpAll K F vs ds) : DpAll K F (cutV vs lo hi) (cutL ds lo hi) := by
  unfold cutV cutL
  rw [← dpa_len h]
  exact dpa_take _ (dpa_drop _ h)
def slD (x : PyData) (lo hi : Option Int) : Option PyData := match x with
  | .list xs => some (.list (cutL xs lo hi))
  | .tuple xs => some (.tuple (cutL xs lo hi))
  | .str z => if z.length ≤ sizeLine then some (.str (cutS z lo hi)) else none
  | _ => none
def rSlD (K : PySem.W.Frag) : V → Option Int → Option Int → Hp → VK → Prop := fun x lo hi H Q => ∃ F d z, Same F H ∧ Dp K F x d ∧ slD d lo hi = some z ∧ ∀ v F' H', Ext F H F' H' → Dp K F' v z → Q v H'
theorem cutL_whole {α : Type} {xs : List α} {lo hi : Option Int} (h : HT.sIx xs.length 0 lo = 0 ∧ HT.sIx xs.length xs.length hi = xs.length) : cutL xs lo hi = xs := by
  unfold cutL
  rw [h.1, h.2]
  simp
theorem sl_D : SlR X (rSlD X.K) := by
  intro pins s σ H x v vl vu lo hi sl Q I rx hs pl pu h
  obtain ⟨F, d, z, hsub, hx, hz, q⟩ := h
  cases hx with
  | lst hq ha =>
    cases hz
    exact sl_list pins s σ H _ v vl vu lo hi sl Q I rx hs pl pu ⟨_, _, rfl, hsub.seq hq, fun p np => q _ _ _ (Ext.new hsub np) (dp_new_lst (hsub.free np) (dpa_cut ha))⟩
  | tup hq ha =>
    cases hz
    refine sl_tupA pins s σ H _ v vl vu lo hi sl Q I rx hs pl pu ⟨_, _, rfl, Same.tup hsub hq, fun hw => ?_, fun _ p np => q _ _ _ (Ext.new hsub np) (dp_new_tup (hsub.free np) (dpa_cut ha))⟩
    rw [dpa_len ha] at hw
    rw [cutL_whole hw] at q
    exact q _ F H (Ext.refl hsub) (.tup hq ha)
  | str t =>
    simp only [slD] at hz
    split at hz
    · cases hz
      exact sl_str pins s σ H _ v vl vu lo hi sl Q I rx hs pl pu ⟨t, rfl, by assumption, q _ F H (Ext.refl hsub) (.str _)⟩
    · cases hz
  | _ => cases hz
theorem de_slice {lo hi : Option Expr} {ml mh : M (Option Int)} {p2 : Pos} (he : DE X cls W e me) (hl : DP X cls W lo ml) (hh : DP X cls W hi mh) :
    DE X cls W (.Subscript e (.Slice lo hi none p2) pos) (bnd me fun d => bnd ml fun l => bnd mh fun h => lft (slD d l h)) := by
  refine pe_imp (pe_slice sl_D he hl hh) fun σ H Q h => ?_
  obtain ⟨F, fp, δ, h⟩ := h
  refine Tm.mono (TmA.tm (tm_bnd h)) fun v H1 ⟨x, F1, fp1, δ1, rx, s1, _, _, h1⟩ => ?_
  refine Tm.mono (TmA.tm (tm_bnd h1)) fun w H2 ⟨y, F2, fp2, δ2, ry, s2, _, _, h2⟩ => ?_
  refine Tm.mono (TmA.tm (tm_bnd h2)) fun w' H3 ⟨y', F3, fp3, δ3, ry', s3, _, _, h3⟩ => ?_
  obtain ⟨z, e, E, q⟩ := tm_lft h3
  subst ry ry'
  exact ⟨F3, x, z, E.sub, dp_mono (s2.trans s3) _ rx, e, fun u F' H' g r => q F' H' g u r⟩
end
end DL

set_option maxRecDepth 100000
set_option maxHeartbeats 1000000
/-! DL5: calls of built-ins and of defs. -/
namespace DL
open PySem PySem.Spec PyProof.Rows L2
variable [CC : ClsCtx] [XC : XcCtx]

/-! ### built-ins -/
def lenD : PyData → Option PyData
  | .list xs => some (.int xs.length)
  | .tuple xs => some (.int xs.length)
  | .str z => if z.length ≤ sizeLine then some (.int z.length) else none
  | _ => none
def only1 (g : PyData → Option PyData) : List PyData → Option PyData
  | [d] => g d
  | _ => none
def only2 (g : PyData → PyData → Option PyData) : List PyData → Option PyData
  | [d, e] => g d e
  | _ => none
section
variable {X : Cx}
theorem only1_of {K : PySem.W.Frag} {F : Hp} {g : PyData → Option PyData} {xs : List V} {ds : List PyData} {z : PyData} (h : DpAll K F xs ds) (e : only1 g ds = some z) : ∃ x d, xs = [x] ∧ Dp K F x d ∧ g d = some z := by
  cases h with
  | nil => cases e
  | cons h1 h2 =>
    cases h2 with
    | nil => exact ⟨_, _, rfl, h1, e⟩
    | cons _ _ => cases e
theorem only2_of {K : PySem.W.Frag} {F : Hp} {g : PyData → PyData → Option PyData} {xs : List V} {ds : List PyData} {z : PyData} (h : DpAll K F xs ds) (e : only2 g ds = some z) : ∃ x y d d', xs = [x, y] ∧ Dp K F x d ∧ Dp K F y d' ∧ g d d' = some z := by
  cases h with
  | nil => cases e
  | cons h1 h2 =>
    cases h2 with
    | nil => cases e
    | cons h3 h4 =>
      cases h4 with
      | nil => exact ⟨_, _, _, _, rfl, h1, h3, e⟩
      | cons _ _ => cases e
theorem cd_len : CallD X (.builtin "len") (only1 lenD) := by
  intro pins s σ H xs us Q I r h
  obtain ⟨F, ds, z, hs, hd, e, q⟩ := h
  obtain ⟨x, d, rfl, hx, e⟩ := only1_of hd e
  cases hx with
  | lst hq ha =>
    cases e
    exact call_len_seq pins s σ H _ us Q I r ⟨_, _, rfl, .inl (hs.seq hq), by rw [dpa_len ha]; exact q _ F H (Ext.refl hs) (.int _)⟩
  | tup hq ha =>
    cases e
    exact call_len_seq pins s σ H _ us Q I r ⟨_, _, rfl, .inr (Same.tup hs hq), by rw [dpa_len ha]; exact q _ F H (Ext.refl hs) (.int _)⟩
  | str t =>
    simp only [lenD] at e
    split at e
    · cases e
      exact call_len_str pins s σ H _ us Q I r ⟨_, rfl, by assumption, q _ F H (Ext.refl hs) (.int _)⟩
    · cases e
  | _ => cases e
def intOfD : PyData → Option PyData
  | .int i => some (.int i)
  | .str s => if s.length ≤ 640 then (PySem.intText? s).map .int else none
  | _ => none
theorem cd_int : CallD X (.type "int") (only1 intOfD) := by
  intro pins s σ H xs us Q I r h
  obtain ⟨F, ds, z, hs, hd, e, q⟩ := h
  obtain ⟨x, d, rfl, hx, e⟩ := only1_of hd e
  cases hx with
  | int i =>
    cases e
    exact call_int1 pins s σ H _ us Q I r (.inl ⟨_, rfl, q _ F H (Ext.refl hs) (.int _)⟩)
  | str t =>
    simp only [intOfD] at e
    split at e
    · cases e1 : PySem.intText? t with
      | none => rw [e1] at e; cases e
      | some n =>
        rw [e1] at e; cases e
        exact call_int_str pins s σ H _ us Q I r ⟨_, _, rfl, e1, by assumption, q _ F H (Ext.refl hs) (.int _)⟩
    · cases e
  | _ => cases e
def strOfD : PyData → Option PyData
  | .int i => if i.natAbs.log2 < 1920 then some (.str (toString i)) else none
  | _ => none
theorem cd_str : CallD X (.type "str") (only1 strOfD) := by
  intro pins s σ H xs us Q I r h
  obtain ⟨F, ds, z, hs, hd, e, q⟩ := h
  obtain ⟨x, d, rfl, hx, e⟩ := only1_of hd e
  cases hx with
  | int i =>
    simp only [strOfD] at e
    split at e
    · cases e
      exact call_str_int pins s σ H _ us Q I r ⟨_, rfl, by assumption, q _ F H (Ext.refl hs) (.str _)⟩
    · cases e
  | _ => cases e
def listD : PyData → Option PyData
  | .list xs => some (.list xs)
  | .tuple xs => some (.list xs)
  | _ => none
def tupleD : PyData → Option PyData
  | .list xs => some (.tuple xs)
  | .tuple xs => some (.tuple xs)
  | _ => none
theorem cd_list : CallD X (.type "list") (only1 listD) := by
  intro pins s σ H xs us Q I r h
  obtain ⟨F, ds, z, hs, hd, e, q⟩ := h
  obtain ⟨x, d, rfl, hx, e⟩ := only1_of hd e
  cases hx with
  | lst hq ha =>
    cases e
    exact call_list_of pins s σ H _ us Q I r ⟨_, _, rfl, .inl (hs.seq hq), fun p np => q _ _ _ (Ext.new hs np) (dp_new_lst (hs.free np) ha)⟩
  | tup hq ha =>
    cases e
    exact call_list_of pins s σ H _ us Q I r ⟨_, _, rfl, .inr (Same.tup hs hq), fun p np => q _ _ _ (Ext.new hs np) (dp_new_lst (hs.free np) ha)⟩
  | _ => cases e
theorem cd_tuple : CallD X (.type "tuple") (only1 tupleD) := by
  intro pins s σ H xs us Q I r h
  obtain ⟨F, ds, z, hs, hd, e, q⟩ := h
  obtain ⟨x, d, rfl, hx, e⟩ := only1_of hd e
  cases hx with
  | lst hq ha =>
    cases e
    exact call_tuple_of pins s σ H _ us Q I r ⟨_, _, rfl, .inl ⟨hs.seq hq, fun p np => q _ _ _ (Ext.new hs np) (dp_new_tup (hs.free np) ha)⟩⟩
  | tup hq ha =>
    cases e
    exact call_tuple_of pins s σ H _ us Q I r ⟨_, _, rfl, .inr ⟨Same.tup hs hq, q _ F H (Ext.refl hs) (.tup hq ha)⟩⟩
  | _ => cases e
def bools : List PyData → Option (List Bool)
  | [] => some []
  | .bool b :: r => (bools r).map (b :: ·)
  | _ => none
theorem bools_of : ∀ {ds : List PyData} {bs : List Bool}, bools ds = some bs → ds = bs.map .bool
  | [], bs, e => by cases e; rfl
  | d :: r, bs, e => by
    cases d with
    | bool b =>
      simp only [bools] at e
      cases e1 : bools r with
      | none => rw [e1] at e; cases e
      | some cs =>
        rw [e1] at e; cases e
        rw [bools_of e1]; rfl
    | _ => cases e
theorem bools_map (bs : List Bool) : bools (bs.map .bool) = some bs := by
  induction bs with
  | nil => rfl
  | cons b r ih => simp [bools, ih]
def allD : PyData → Option PyData
  | .list xs => (bools xs).map fun bs => .bool (bs.all id)
  | _ => none
theorem cd_all (hc : X.calm = true) : CallD X (.builtin "all") (only1 allD) := by
  intro pins s σ H xs us Q I r h
  obtain ⟨F, ds, z, hs, hd, e, q⟩ := h
  obtain ⟨x, d, rfl, hx, e⟩ := only1_of hd e
  cases hx with
  | lst hq ha =>
    simp only [allD] at e
    rename_i vs es
    cases e1 : bools es with
    | none => rw [e1] at e; cases e
    | some bs =>
      rw [e1] at e; cases e
      have e2 := bools_of e1
      subst e2
      have e3 := dpa_bools ha
      subst e3
      exact cr_all hc pins s σ H _ us Q I r ⟨_, bs, rfl, hs.seq hq, q _ F H (Ext.refl hs) (.bl _)⟩
  | _ => cases e
def maxD : PyData → PyData → Option PyData
  | .int i, .int j => some (.int (if j > i then j else i))
  | _, _ => none
def minD : PyData → PyData → Option PyData
  | .int i, .int j => some (.int (if j < i then j else i))
  | _, _ => none
theorem cd_max (hc : X.calm = true) : CallD X (.builtin "max") (only2 maxD) := by
  intro pins s σ H xs us Q I r h
  obtain ⟨F, ds, z, hs, hd, e, q⟩ := h
  obtain ⟨x, y, d, d', rfl, hx, hy, e⟩ := only2_of hd e
  cases hx <;> cases hy <;> simp only [maxD] at e <;> try (cases e; done)
  cases e
  exact call_max2 hc pins s σ H _ us Q I r ⟨_, _, rfl, q _ F H (Ext.refl hs) (.int _)⟩
theorem cd_min (hc : X.calm = true) : CallD X (.builtin "min") (only2 minD) := by
  intro pins s σ H xs us Q I r h
  obtain ⟨F, ds, z, hs, hd, e, q⟩ := h
  obtain ⟨x, y, d, d', rfl, hx, hy, e⟩ := only2_of hd e
  cases hx <;> cases hy <;> simp only [minD] at e <;> try (cases e; done)
  cases e
  exact call_min2 hc pins s σ H _ us Q I r ⟨_, _, rfl, q _ F H (Ext.refl hs) (.int _)⟩
/-! ### repr -/
def reprD (d : PyData) : Option PyData := if d.showable = true ∧ d.hasDict = false ∧ d.depth ≤ 40 ∧ d.shown.length ≤ sizeLine then some (.str d.shown) else none
theorem onHeap_V {v : V} {u : Value} (r : RelV v u) : ([u].any Value.onHeap = true) ∨ ([u].any Value.onHeap = false) := by
  cases h : [u].any Value.onHeap
  · exact .inr rfl
  · exact .inl rfl
theorem cd_repr (hg : X.A.guards = some []) (hu : X.A.units + 64 < cLine) : CallD X (.builtin "repr") (only1 reprD) := by
  intro pins s σ H xs us Q I r h
  obtain ⟨F, ds, z, hs, hd, e, q⟩ := h
  obtain ⟨x, d, rfl, hx, e⟩ := only1_of hd e
  unfold reprD at e
  split at e
  · rename_i hc
    cases e
    obtain ⟨u, rfl, rx⟩ := vals1 r
    have hx' := dp_mono hs _ hx
    obtain ⟨as, rd⟩ := L2.Dp.reads I d x u (hx'.toL2 hc.2.1) rx
    have fin : ∀ (t : Tok) (h' : Heap) (tk : Nat), (∀ b o, s.heap.get? b = some o → h'.get? b = some o) → EP X pins σ Q (.str d.shown t) { s with heap := h', toks := tk } := fun t h' tk k =>
      ⟨.str d.shown, H, I.kept k, ⟨t, rfl⟩, q _ F H (Ext.refl hs) (.str _)⟩
    cases hx with
    | non => cases rx; exact PySem.P.repr_of_none (fin _ s.heap _ fun _ _ z => z)
    | bl b => cases rx; exact PySem.P.repr_of_bool (by simpa [PyData.shown] using fin s.toks s.heap (s.toks + 1) fun _ _ z => z)
    | int i =>
      obtain ⟨t, rfl⟩ := rx
      exact PySem.P.repr_of_int (by simpa [PyData.showable] using hc.1) (by simpa [PyData.shown] using fin s.toks s.heap (s.toks + 1) fun _ _ z => z)
    | str y =>
      obtain ⟨t, rfl⟩ := rx
      exact PySem.P.repr_of_str (by simpa [PyData.shown] using fin s.toks s.heap (s.toks + 1) fun _ _ z => z) (by simpa [PyData.shown] using hc.2.2.2)
    | lst h1 h2 =>
      cases rx
      exact repr_of_reads' rd hc.1 (fun z => by rw [hc.2.1] at z; cases z) hg (by have := hc.2.2.1; omega) (fun _ _ z => z) (fun h' t tk k => fin t h' tk k) hc.2.2.2
    | tup h1 h2 =>
      cases rx
      exact repr_of_reads' rd hc.1 (fun z => by rw [hc.2.1] at z; cases z) hg (by have := hc.2.2.1; omega) (fun _ _ z => z) (fun h' t tk k => fin t h' tk k) hc.2.2.2
    | exo _ _ _ _ _ => exact absurd hc.2.1 (by simp [objD, PyData.hasDict])
    | ex0 _ _ => exact absurd hc.2.1 (by simp [objD, PyData.hasDict])
  · cases e
end
section
variable {X : Cx} {cls : Str → Option Addr} {W : WX} {pos p : Pos} {x : Str} {e : Expr} {es : List Expr} {ma : M (List PyData)} {id T : String} {g : List PyData → Option PyData}
theorem tm_call {K : PySem.W.Frag} {σ : L2.St} {H : Hp} {Q : VK} (h : tE K cls W (bnd ma fun ds => lft (g ds)) σ H Q) : tCB (rCD K g) (tA K cls W ma) σ H Q := by
  obtain ⟨F, fp, δ, h⟩ := h
  refine Tm.mono (TmA.tm (tm_bnd h)) fun v H1 ⟨x, F1, fp1, δ1, rx, s1, _, _, h1⟩ => ?_
  obtain ⟨z, e, E, q⟩ := tm_lft h1
  exact ⟨F1, x, z, E.sub, rx, e, fun v F' H' g r => q F' H' g v r⟩
theorem de_callB (hc : CallD X (.builtin id) g) (hm : X.mg x = none) (hv : bootBuiltins x = some (.builtin id)) (ha : DA X cls W (e :: es) ma) (hg : Gl X x := by rfl) (hn : x ≠ "__name__" := by decide) (hdb : (x == ("__debug__" : Str)) = false := by decide)
    (he : starEach (e :: es) X.env = (false, eval e X.env) :: starEach es X.env := by rfl) (hpl : (backTo pos (starEach es X.env)).any (·.1) = false := by rfl) : DE X cls W (.Call (.Name x p) (e :: es) [] pos) (bnd ma fun ds => lft (g ds)) :=
  pe_imp (pe_callB hc hg hm hv ha hn hdb he hpl) fun _ _ _ => tm_call
theorem de_callTy (hc : CallD X (.type T) g) (hm : X.mg x = none) (hv : bootBuiltins x = some (.type T)) (ha : DA X cls W (e :: es) ma) (hg : Gl X x := by rfl) (hn : x ≠ "__name__" := by decide) (hdb : (x == ("__debug__" : Str)) = false := by decide)
    (he : starEach (e :: es) X.env = (false, eval e X.env) :: starEach es X.env := by rfl) (hpl : (backTo pos (starEach es X.env)).any (·.1) = false := by rfl) : DE X cls W (.Call (.Name x p) (e :: es) [] pos) (bnd ma fun ds => lft (g ds)) :=
  pe_imp (pe_callTy hc hg hm hv ha hn hdb he hpl) fun _ _ _ => tm_call
end

/-! ### defs -/
inductive RO where
  | val (d : PyData)
  | exc (n : Str) (fs : List (Str × PyData))
def roM (o : Option RO) : M PyData := fun δ => match o with
  | none => none
  | some (.val d) => some (.ok d δ)
  | some (.exc n fs) => some (.ex n fs δ)
def roEnd (K : PySem.W.Frag) (cls : Str → Option Addr) (F H : Hp) (Q : VK) (E : XK) : RO → Prop
  | .val d => ∀ v F' H', Ext F H F' H' → Dp K F' v d → Q v H'
  | .exc n fs => ∀ Cx dd F' H', cls n = some Cx → Ext F H F' H' → Xr K H F' H' dd fs → E (.ref Cx) (some dd) H'
/-- a def's promise: fn of its arguments -/
def spD (K : PySem.W.Frag) (cls : Str → Option Addr) (n : Nat) (fn : List PyData → Option RO) : Sp := fun vs H Q E => vs.length = n ∧ ∃ F ds r, Same F H ∧ DpAll K F vs ds ∧ fn ds = some r ∧ roEnd K cls F H Q E r
section
variable {X : Cx} {cls : Str → Option Addr} {W : WX} {pos p : Pos} {x : Str} {e : Expr} {es : List Expr} {ma : M (List PyData)} {fn : List PyData → Option RO} {k n : Nat} {f : Addr} {fd : FuncData} {ps : List Str}
theorem de_call (G : FnOk X.prog X.w X.K X.mg X.base (L2.CX X.prog X.w) k f fd ps (spD X.K cls n fn)) (hr : Room k X.A) (tk : Takes X W) (hm : X.mg x = some (.ref f)) (hk : PySem.W.keepIn X.K (.ref f) = true) (hb : Binds X.K fd ps [])
    (ha : DA X cls W (e :: es) ma) (hg : Gl X x := by rfl) (hdb : (x == ("__debug__" : Str)) = false := by decide) (he : starEach (e :: es) X.env = (false, eval e X.env) :: starEach es X.env := by rfl) (hpl : (backTo pos (starEach es X.env)).any (·.1) = false := by rfl)
    (hlen : (e :: es).length = n := by rfl) :
    DE X cls W (.Call (.Name x p) (e :: es) [] pos) (bnd ma fun ds => if ds.length = n then roM (fn ds) else fun _ => none) := by
  refine pe_imp (pe_callSD (E := WE W) G hr hg hm hk hb .nil (fun σ => passAt tk σ) ha hdb he hpl) fun σ H Q h => ?_
  obtain ⟨F, fp, δ, h⟩ := h
  refine Tm.mono (TmA.tm (tm_bnd h)) fun v H1 ⟨ds, F1, fp1, δ1, rx, s1, _, _, h1⟩ => ?_
  obtain ⟨E1, r, hm', hf⟩ := h1
  split at hm'
  · rename_i hl
    cases hfn : fn ds with
    | none => simp [roM, hfn] at hm'
    | some ro =>
      rw [hfn] at hm'
      refine ⟨by rw [List.append_nil, dpa_len rx]; exact hl, F1, ds, ro, E1.sub, by rw [List.append_nil]; exact rx, hfn, ?_⟩
      cases ro with
      | val d =>
        cases hm'
        exact fun v' F' H' g rv => hf fp1 F' H' g.go (E1.ext g) v' rv
      | exc nm fs =>
        cases hm'
        exact fun Cx dd F' H' hc g xr => hf Cx dd fp1 F' H' hc g.go (E1.ext g) xr
  · cases hm'
end
end DL

set_option maxRecDepth 100000
set_option maxHeartbeats 1000000
/-! DL6: isinstance, methods, lists of one's own, statements. -/
namespace DL
open PySem PySem.Spec PyProof.Rows L2
variable [CC : ClsCtx] [XC : XcCtx]

/-! ### isinstance -/
def isStr : PyData → Bool | .str _ => true | _ => false
def isInt : PyData → Bool | .int _ => true | .bool _ => true | _ => false
def isBool : PyData → Bool | .bool _ => true | _ => false
def isTup : PyData → Bool | .tuple _ => true | _ => false
def isLst : PyData → Bool | .list _ => true | _ => false
def tyN : PyData → String
  | .none => "NoneType" | .bool _ => "bool" | .int _ => "int" | .str _ => "str" | .list _ => "list" | .tuple _ => "tuple" | .dict _ => "dict"
/-- no object -/
def noObj : PyData → Bool
  | .dict _ => false
  | _ => true
def plD (d z : PyData) : Option PyData := if noObj d = true then some z else none
theorem plD_of {d z y : PyData} (h : plD d z = some y) : noObj d = true ∧ y = z := by
  unfold plD at h
  split at h
  · cases h; exact ⟨by assumption, rfl⟩
  · cases h
theorem tyx_of {K : PySem.W.Frag} {H : Hp} {v : V} {d : PyData} (h : Dp K H v d) (n : noObj d = true) : TyX K H v (.type (tyN d)) := by
  cases h with
  | exo _ _ _ _ _ => cases n
  | ex0 _ _ => cases n
  | non => exact .base .non
  | bl b => exact .base (.bl b)
  | int i => exact .base (.int i)
  | str s => exact .base (.str s)
  | lst hq _ =>
    rcases hq with (h | ⟨o, h⟩) | ⟨o, its, n, h, hc, _⟩
    · exact .base (.lst h)
    · exact .base (.frz h)
    · exact .kList h hc
  | tup hq _ =>
    rcases hq with (h | ⟨o, h⟩) | ⟨o, its, n, h, hc, _⟩
    · exact .base (.tup h)
    · exact .fTuple h
    · exact .kTuple h hc
section
variable {X : Cx} {cls : Str → Option Addr} {W : WX} {pos p p2 : Pos} {e : Expr} {me : M PyData} {T : String} {tn : Str} {g : PyData → Bool}
/-- isinstance(e, T), T a built-in class by its name -/
theorem de_isi (T : String) (g : PyData → Bool) (hT : ∀ d, kitB (tyN d) T = some (g d)) (hm : X.mg "isinstance" = none) (hmT : X.mg tn = none) (hvT : bootBuiltins tn = some (.type T)) (he : DE X cls W e me)
    (hg : Gl X "isinstance" := by rfl) (hgT : Gl X tn := by rfl) (hn : tn ≠ "__name__" := by decide) (hdb : (tn == ("__debug__" : Str)) = false := by decide)
    (hs : starEach [e, .Name tn p2] X.env = (false, eval e X.env) :: starEach [.Name tn p2] X.env := by rfl) (hs2 : starEach [.Name tn p2] X.env = (false, eval (.Name tn p2) X.env) :: starEach [] X.env := by rfl) (hpl : (backTo pos (starEach [.Name tn p2] X.env)).any (·.1) = false := by rfl) :
    DE X cls W (.Call (.Name "isinstance" p) [e, .Name tn p2] [] pos) (bnd me fun d => lft (plD d (.bool (g d)))) := by
  refine pe_imp (pe_callB call_isi hg hm boot_isinstance (pa_cons he (pa_cons (pe_bltn (v := .ty T) hgT hmT hvT rfl hn hdb) pa_nil hs2) hs) (he := hs) (hpl := hpl)) fun σ H Q h => ?_
  obtain ⟨F, fp, δ, h⟩ := h
  refine Tm.mono (TmA.tm (tm_bnd h)) fun v H1 ⟨d, F1, fp1, δ1, rx, s1, _, _, h1⟩ => ?_
  obtain ⟨z, e0, E, q⟩ := tm_lft h1
  obtain ⟨no, rfl⟩ := plD_of e0
  exact ⟨v, .ty T, _, _, g d, rfl, .ty T, tyx_of (dp_mono E.sub _ rx) no, kit_ty (hT d), q F1 H1 (Ext.refl E.sub) _ (.bl _)⟩
end
theorem isi_str (d : PyData) : kitB (tyN d) "str" = some (isStr d) := by cases d <;> (simp only [tyN, isStr]; decide +kernel)
theorem isi_int (d : PyData) : kitB (tyN d) "int" = some (isInt d) := by cases d <;> (simp only [tyN, isInt]; decide +kernel)
theorem isi_bool (d : PyData) : kitB (tyN d) "bool" = some (isBool d) := by cases d <;> (simp only [tyN, isBool]; decide +kernel)
theorem isi_tup (d : PyData) : kitB (tyN d) "tuple" = some (isTup d) := by cases d <;> (simp only [tyN, isTup]; decide +kernel)
theorem isi_lst (d : PyData) : kitB (tyN d) "list" = some (isLst d) := by cases d <;> (simp only [tyN, isLst]; decide +kernel)
section
variable {X : Cx} {cls : Str → Option Addr} {W : WX} {pos p p2 p3 pt : Pos} {e : Expr} {me : M PyData}
/-- isinstance(e, (tuple, list)) -/
theorem de_isiSeq {k : Nat} (hm : X.mg "isinstance" = none) (hmT : X.mg "tuple" = none) (hmL : X.mg "list" = none) (he : DE X cls W e me) (hg : Gl X "isinstance" := by rfl) (hgT : Gl X "tuple" := by rfl) (hgL : Gl X "list" := by rfl)
    (hs : starEach [e, .Tuple [.Name "tuple" p2, .Name "list" p3] k pt] X.env = (false, eval e X.env) :: starEach [.Tuple [.Name "tuple" p2, .Name "list" p3] k pt] X.env := by rfl) (hs2 : starEach [.Tuple [.Name "tuple" p2, .Name "list" p3] k pt] X.env = (false, eval (.Tuple [.Name "tuple" p2, .Name "list" p3] k pt) X.env) :: starEach [] X.env := by rfl)
    (hs3 : starEach [.Name "tuple" p2, .Name "list" p3] X.env = (false, eval (.Name "tuple" p2) X.env) :: starEach [.Name "list" p3] X.env := by rfl) (hs4 : starEach [.Name "list" p3] X.env = (false, eval (.Name "list" p3) X.env) :: starEach [] X.env := by rfl)
    (hpl : (backTo pos (starEach [.Tuple [.Name "tuple" p2, .Name "list" p3] k pt] X.env)).any (·.1) = false := by rfl) :
    DE X cls W (.Call (.Name "isinstance" p) [e, .Tuple [.Name "tuple" p2, .Name "list" p3] k pt] [] pos) (bnd me fun d => lft (plD d (.bool (isTup d || isLst d)))) := by
  refine pe_imp (pe_callB call_isiT hg hm boot_isinstance (pa_cons he (pa_cons (pe_tup (pa_cons (pe_bltn (v := .ty "tuple") hgT hmT boot_tuple rfl) (pa_cons (pe_bltn (v := .ty "list") hgL hmL boot_list rfl) pa_nil hs4) hs3)) pa_nil hs2) hs) (he := hs) (hpl := hpl)) fun σ H Q h => ?_
  obtain ⟨F, fp, δ, h⟩ := h
  refine Tm.mono (TmA.tm (tm_bnd h)) fun v H1 ⟨d, F1, fp1, δ1, rx, s1, _, _, h1⟩ => ?_
  obtain ⟨z, e0, E, q⟩ := tm_lft h1
  obtain ⟨no, rfl⟩ := plD_of e0
  refine ⟨(by show 2 ≤ sizeLine; decide), fun t nt => ⟨v, t, _, .type (tyN d), [.type "tuple", .type "list"], (isTup d || isLst d), rfl, upd_same, .cons (.ty _) (.cons (.ty _) .nil), tyx_of (dp_mono (E.sub.trans (same_new nt)) _ rx) no, ?_, q F1 _ (Ext.lost E.sub nt) _ (.bl _)⟩⟩
  refine kitAny_cons (kit_ty (isi_tup d)) (fun e => ?_) fun e => by rw [e]; rfl
  refine kitAny_cons (kit_ty (isi_lst d)) (fun e2 => ?_) fun e2 => by rw [e2]; simp
  rw [e, e2]
  rfl
end

/-! ### methods of texts -/
def rMD (K : PySem.W.Frag) (g : PyData → PyData → Option PyData) : V → List V → Hp → VK → Prop := fun x xs H Q => ∃ F d e y z, Same F H ∧ Dp K F x d ∧ xs = [y] ∧ Dp K F y e ∧ g d e = some z ∧ ∀ v F' H', Ext F H F' H' → Dp K F' v z → Q v H'
def splitD : PyData → PyData → Option PyData
  | .str a, .str b => if (b.length == 0) = false ∧ a.length + 2 ≤ sizeLine then some (.list ((Txt.split a b).map .str)) else none
  | _, _ => none
def strsD : List PyData → Option (List Str)
  | [] => some []
  | .str s :: r => (strsD r).map (s :: ·)
  | _ => none
theorem strsD_of : ∀ {ds : List PyData} {ss : List Str}, strsD ds = some ss → ds = ss.map .str
  | [], ss, e => by cases e; rfl
  | d :: r, ss, e => by
    cases d with
    | str b =>
      simp only [strsD] at e
      cases e1 : strsD r with
      | none => rw [e1] at e; cases e
      | some cs =>
        rw [e1] at e; cases e
        rw [strsD_of e1]; rfl
    | _ => cases e
theorem strsD_map (ss : List Str) : strsD (ss.map .str) = some ss := by
  induction ss with
  | nil => rfl
  | cons b r ih => simp [strsD, ih]
def joinS (a : Str) (ys : List PyData) : Option PyData := match strsD ys with
  | some ss => if (ss.map (·.length)).sum + ss.length * a.length ≤ 16777216 then some (.str (Txt.join a ss)) else none
  | none => none
def joinD : PyData → PyData → Option PyData
  | .str a, .list ys => joinS a ys
  | .str a, .tuple ys => joinS a ys
  | _, _ => none
section
variable {X : Cx} {cls : Str → Option Addr} {W : WX} {pos apos : Pos} {o e : Expr} {mo me : M PyData}
theorem md_split : MtR X "str.split" (rMD X.K splitD) := by
  intro pins s σ H x xs v us Q I rx rs h
  obtain ⟨F, d, e, y, z, hs, hx, rfl, hy, hz, q⟩ := h
  cases hx <;> cases hy <;> simp only [splitD] at hz <;> try (cases hz; done)
  split at hz
  · rename_i hc
    cases hz
    exact mt_split pins s σ H _ _ v us Q I rx rs ⟨_, _, rfl, rfl, hc.1, hc.2, fun p np => q _ _ _ (Ext.new hs np) (dp_new_lst (hs.free np) (dpa_of_strs _))⟩
  · cases hz
theorem joinS_of {a : Str} {ys : List PyData} {z : PyData} (h : joinS a ys = some z) : ∃ ss, ys = ss.map .str ∧ (ss.map (·.length)).sum + ss.length * a.length ≤ 16777216 ∧ z = .str (Txt.join a ss) := by
  unfold joinS at h
  cases e : strsD ys with
  | none => rw [e] at h; cases h
  | some ss =>
    rw [e] at h
    simp only at h
    split at h
    · cases h; exact ⟨ss, strsD_of e, by assumption, rfl⟩
    · cases h
theorem md_join : MtR X "str.join" (rMD X.K joinD) := by
  intro pins s σ H x xs v us Q I rx rs h
  obtain ⟨F, d, e, y, z, hs, hx, rfl, hy, hz, q⟩ := h
  cases hx <;> cases hy <;> simp only [joinD] at hz <;> try (cases hz; done)
  · rename_i a b vs ds hq ha
    obtain ⟨ss, rfl, hl, rfl⟩ := joinS_of hz
    have e3 := dpa_strs ha
    subst e3
    exact mt_join pins s σ H _ _ v us Q I rx rs ⟨_, _, ss, rfl, rfl, .inl (hs.seq hq), hl, q _ F H (Ext.refl hs) (.str _)⟩
  · rename_i a b vs ds hq ha
    obtain ⟨ss, rfl, hl, rfl⟩ := joinS_of hz
    have e3 := dpa_strs ha
    subst e3
    exact mt_join pins s σ H _ _ v us Q I rx rs ⟨_, _, ss, rfl, rfl, .inr (Same.tup hs hq), hl, q _ F H (Ext.refl hs) (.str _)⟩
/-- o.m(e), o a text -/
theorem de_m1 {id : String} {name : Str} {g : PyData → PyData → Option PyData} (slot : Slot "str" name id) (ty : typeOf (.builtin id) = pure (.type "method_descriptor")) (rule : MtR X id (rMD X.K g)) (hgs : ∀ d e z, g d e = some z → isStr d = true) (ho : DE X cls W o mo) (he : DE X cls W e me)
    (hs : starEach [e] X.env = [(false, eval e X.env)] := by rfl) (hbase : attributeBase o name X.env (eval o X.env) = eval o X.env := by rfl) (hline : (apos.endLine == pos.line) = true := by rfl) :
    DE X cls W (.Call (.Attribute o name apos) [e] [] pos) (bnd mo fun d => if isStr d = true then bnd me fun d' => lft (g d d') else fun _ => none) := by
  refine pe_imp (pe_m1 slot ty rule ho he hs hbase hline) fun σ H Q h => ?_
  obtain ⟨F, fp, δ, h⟩ := h
  refine Tm.mono (TmA.tm (tm_bnd h)) fun v H1 ⟨d, F1, fp1, δ1, rx, s1, _, _, h1⟩ => ?_
  cases rx with
  | str a =>
    refine ⟨⟨a, rfl⟩, Tm.mono (TmA.tm (tm_bnd (k := fun d' => lft (g (.str a) d')) (Rel := Dp X.K) h1)) fun w H2 ⟨y, F2, fp2, δ2, ry, s2, _, _, h2⟩ => ?_⟩
    obtain ⟨z, e, E, q⟩ := tm_lft h2
    exact ⟨F2, _, y, w, z, E.sub, .str a, rfl, ry, e, fun u F' H' g r => q F' H' g u r⟩
  | _ =>
    obtain ⟨_, r, hm, _⟩ := h1
    cases hm
theorem splitD_str (d e z : PyData) (h : splitD d e = some z) : isStr d = true := by cases d <;> first | rfl | (cases e <;> cases h)
theorem joinD_str (d e z : PyData) (h : joinD d e = some z) : isStr d = true := by cases d <;> first | rfl | (cases e <;> cases h)
theorem de_split (ho : DE X cls W o mo) (he : DE X cls W e me) (hs : starEach [e] X.env = [(false, eval e X.env)] := by rfl) (hbase : attributeBase o "split" X.env (eval o X.env) = eval o X.env := by rfl) (hline : (apos.endLine == pos.line) = true := by rfl) :
    DE X cls W (.Call (.Attribute o "split" apos) [e] [] pos) (bnd mo fun d => if isStr d = true then bnd me fun d' => lft (splitD d d') else fun _ => none) := de_m1 PySem.F.slot_str_split PySem.F.type_str_split md_split splitD_str ho he hs hbase hline
theorem de_join (ho : DE X cls W o mo) (he : DE X cls W e me) (hs : starEach [e] X.env = [(false, eval e X.env)] := by rfl) (hbase : attributeBase o "join" X.env (eval o X.env) = eval o X.env := by rfl) (hline : (apos.endLine == pos.line) = true := by rfl) :
    DE X cls W (.Call (.Attribute o "join" apos) [e] [] pos) (bnd mo fun d => if isStr d = true then bnd me fun d' => lft (joinD d d') else fun _ => none) := de_m1 PySem.F.slot_str_join PySem.F.type_str_join md_join joinD_str ho he hs hbase hline
end

/-! ### statements -/
inductive Ctl where
  | nx | bk | ct
  | rt (d : PyData)
def CtlP (K : PySem.W.Frag) (D : Ends) (F : Hp) (σ : L2.St) (H : Hp) : Ctl → Prop
  | .nx => D.nx σ H
  | .bk => D.bk σ H
  | .ct => D.ct σ H
  | .rt d => ∀ v, Dp K F v d → D.rt v H
def FinS (K : PySem.W.Frag) (cls : Str → Option Addr) (W : WX) (fp : List Addr) (F H : Hp) (D : Ends) : Rs Ctl → Prop
  | .ok c δ' => ∀ σ' fp' F' H', Go fp F H fp' F' H' → ER K F' H' σ' δ' fp' → CtlP K D F' σ' H' c
  | .ex n fs δ' => ∀ Cx dd σ' fp' F' H', cls n = some Cx → Go fp F H fp' F' H' → ER K F' H' σ' δ' fp' → Xr K H F' H' dd fs → W (.ref Cx) (some dd) σ' H'
def tSA (K : PySem.W.Frag) (cls : Str → Option Addr) (W : WX) (m : M Ctl) (F : Hp) (fp : List Addr) (δ : Sl) : TS := fun D σ H => ER K F H σ δ fp ∧ ∃ r, m δ = some r ∧ FinS K cls W fp F H D r
def tS (K : PySem.W.Frag) (cls : Str → Option Addr) (W : WX) (m : M Ctl) : TS := fun D σ H => ∃ F fp δ, tSA K cls W m F fp δ D σ H
abbrev DS (X : Cx) (cls : Str → Option Addr) (W : WX) (st : Stmt) (m : M Ctl) : Prop := PS X st (tS X.K cls W m)
abbrev DSs (X : Cx) (cls : Str → Option Addr) (W : WX) (st : List Stmt) (m : M Ctl) : Prop := PSs X st (tS X.K cls W m)
def seqM (a b : M Ctl) : M Ctl := fun δ => match a δ with
  | some (.ok .nx δ') => b δ'
  | r => r
section
variable {K : PySem.W.Frag} {cls : Str → Option Addr} {W : WX} {σ : L2.St} {H F H1 F1 : Hp} {fp fp1 : List Addr} {δ δ1 : Sl} {D : Ends} {α β : Type} {Rel : Hp → β → α → Prop}
theorem FinS.go {r : Rs Ctl} (g : Go fp F H fp1 F1 H1) (h : FinS K cls W fp F H D r) : FinS K cls W fp1 F1 H1 D r := by
  cases r with
  | ok x d => exact fun σ' fp' F' H' g' E => h σ' fp' F' H' (g.trans g') E
  | ex n fs d => exact fun Cx dd σ' fp' F' H' c g' E x => h Cx dd σ' fp' F' H' c (g.trans g') E (x.back g)
/-- an expression ahead of the rest of a statement -/
theorem ts_bnd {m : M α} {k : α → M Ctl} (h : tSA K cls W (bnd m k) F fp δ D σ H) :
    TmA K cls W Rel m F fp δ σ H (fun v H1 => ∃ x F1 fp1 δ1, Rel F1 v x ∧ Same F F1 ∧ Go fp F H fp1 F1 H1 ∧ tSA K cls W (k x) F1 fp1 δ1 D σ H1) := by
  obtain ⟨E, r, hm, hf⟩ := h
  unfold bnd at hm
  cases e : m δ with
  | none => rw [e] at hm; cases hm
  | some r1 =>
    rw [e] at hm
    cases r1 with
    | ok x δ1 => exact ⟨E, _, e, fun fp' F' H' g E' v rel => ⟨x, F', fp', δ1, rel, g.fz, g, E', r, hm, hf.go g⟩⟩
    | ex n fs δ1 =>
      cases hm
      exact ⟨E, _, e, fun Cx dd fp' F' H' c g E x => hf Cx dd σ fp' F' H' c g E x⟩
end
section
variable {X : Cx} {cls : Str → Option Addr} {W : WX} {pos pos' : Pos} {st : Stmt} {rest : List Stmt} {a b m1 m2 : M Ctl} {e : Expr} {me : M PyData}
theorem dss_nil : DSs X cls W [] (ret .nx) := by
  refine pss_imp pss_nil fun D σ H h => ?_
  obtain ⟨F, fp, δ, E, r, hm, hf⟩ := h
  cases hm
  exact hf σ fp F H (Go.refl _ _ _) E
theorem ts_seq {K : PySem.W.Frag} {D : Ends} {σ : L2.St} {H : Hp} (h : tS K cls W (seqM m1 m2) D σ H) : tSeq (tS K cls W m1) (tS K cls W m2) D σ H := by
  obtain ⟨F, fp, δ, E, r, hm, hf⟩ := h
  unfold seqM at hm
  cases e : m1 δ with
  | none => rw [e] at hm; cases hm
  | some r1 =>
    rw [e] at hm
    refine ⟨F, fp, δ, E, r1, e, ?_⟩
    cases r1 with
    | ex n fs d => cases hm; exact hf
    | ok c d =>
      cases c with
      | nx => exact fun σ' fp' F' H' g E' => ⟨F', fp', d, E', r, hm, hf.go g⟩
      | bk => cases hm; exact hf
      | ct => cases hm; exact hf
      | rt v => cases hm; exact hf
theorem dss_cons (h1 : DS X cls W st m1) (h2 : DSs X cls W rest m2) : DSs X cls W (st :: rest) (seqM m1 m2) := pss_imp (pss_cons h1 h2) fun _ _ _ => ts_seq
theorem dss_one (h1 : DS X cls W st m1) : DSs X cls W [st] m1 := pss_one h1
theorem ds_pass : DS X cls W (.Pass pos) (ret .nx) := by
  refine ps_imp ps_pass fun D σ H h => ?_
  obtain ⟨F, fp, δ, E, r, hm, hf⟩ := h
  cases hm
  exact hf σ fp F H (Go.refl _ _ _) E
theorem ds_break : DS X cls W (.Break pos) (ret .bk) := by
  refine ps_imp ps_break fun D σ H h => ?_
  obtain ⟨F, fp, δ, E, r, hm, hf⟩ := h
  cases hm
  exact hf σ fp F H (Go.refl _ _ _) E
theorem ds_continue : DS X cls W (.Continue pos) (ret .ct) := by
  refine ps_imp ps_continue fun D σ H h => ?_
  obtain ⟨F, fp, δ, E, r, hm, hf⟩ := h
  cases hm
  exact hf σ fp F H (Go.refl _ _ _) E
theorem ds_ret (he : DE X cls W e me) : DS X cls W (.Return (some e) pos) (bnd me fun d => ret (.rt d)) := by
  refine ps_imp (ps_ret he) fun D σ H h => ?_
  obtain ⟨F, fp, δ, h⟩ := h
  refine Tm.mono (TmA.tm (ts_bnd h)) fun v H1 ⟨d, F1, fp1, δ1, rx, s1, _, E, r, hm, hf⟩ => ?_
  cases hm
  exact hf σ fp1 F1 H1 (Go.refl _ _ _) E v rx
theorem ds_expr (he : DE X cls W e me) (hs : swapsWith e none pos.line X.env = pure false := by rfl) : DS X cls W (.Expr e pos) (bnd me fun _ => ret .nx) := by
  refine ps_imp (ps_expr he hs) fun D σ H h => ?_
  obtain ⟨F, fp, δ, h⟩ := h
  refine Tm.mono (TmA.tm (ts_bnd h)) fun v H1 ⟨d, F1, fp1, δ1, rx, s1, _, E, r, hm, hf⟩ => ?_
  cases hm
  exact hf σ fp1 F1 H1 (Go.refl _ _ _) E
theorem ds_if {c : Expr} {sa sb : List Stmt} {tc : M Bool} (hc : DT X cls W c tc) (ha : DSs X cls W sa a) (hb : DSs X cls W sb b) : DS X cls W (.If c sa sb pos) (ifM tc a b) := by
  refine ps_imp (ps_if hc ha hb) fun D σ H h => ?_
  obtain ⟨F, fp, δ, h⟩ := h
  refine Tm.mono (TmA.tm (ts_bnd h)) fun v H1 ⟨x, F1, fp1, δ1, rx, s1, _, h1⟩ => ?_
  cases rx
  cases v with
  | true => exact iteT ⟨F1, fp1, δ1, h1⟩
  | false => exact iteF ⟨F1, fp1, δ1, h1⟩
end
/-- a slot gets another content -/
theorem ER.put {K : PySem.W.Frag} {F H F' H' : Hp} {σ : L2.St} {δ : Sl} {fp : List Addr} {i : Nat} {o' : Option V} {c' : C} {fi' : List Addr} (E : ER K F H σ δ fp) (hi : i < δ.length) (sub : Same F' H') (e : Same F F')
    (k : ∀ b u, b ∈ fp → H b = some u → H' b = some u) (z : ∀ b, b ∈ fp → F' b = none) (h : CRep K F' H' o' c' fi') (nd : fi'.Nodup) (new : ∀ b, b ∈ fi' → b ∉ fp) :
    ∃ fp', ER K F' H' (σ.set i o') (δ.set i c') fp' ∧ ∀ b, b ∈ fp' → b ∈ fp ∨ b ∈ fi' := by
  obtain ⟨o, fl, fi, fr, h1, h2, h3, h4⟩ := E.rep.at (List.getElem?_eq_getElem hi)
  have inl : ∀ b, b ∈ fl ++ fr → b ∈ fp := fun b hb => by
    rw [h3]; rcases List.mem_append.mp hb with q | q <;> simp [q]
  refine ⟨fl ++ (fi' ++ fr), ⟨sub, h4 e (fun b u hb => k b u (inl b hb)) (fun b hb => z b (inl b hb)) h, ?_⟩, fun b hb => ?_⟩
  · have nd0 := E.nd
    rw [h3, List.nodup_append] at nd0
    obtain ⟨n1, n2, n3⟩ := nd0
    rw [List.nodup_append] at n2
    rw [List.nodup_append]
    refine ⟨n1, ?_, fun x hx y hy => ?_⟩
    · rw [List.nodup_append]
      exact ⟨nd, n2.2.1, fun x hx y hy e => new x hx (by rw [e]; exact inl y (by simp [hy]))⟩
    · rcases List.mem_append.mp hy with q | q
      · exact fun e => new y q (by rw [← e]; exact inl x (by simp [hx]))
      · exact n3 x hx y (List.mem_append_right _ q)
  · rcases List.mem_append.mp hb with q | q
    · exact .inl (by rw [h3]; simp [q])
    · rcases List.mem_append.mp q with q | q
      · exact .inr q
      · exact .inl (by rw [h3]; simp [q])
theorem ER.free {K : PySem.W.Frag} {F H : Hp} {σ : L2.St} {δ : Sl} {fp : List Addr} (E : ER K F H σ δ fp) : ∀ b, b ∈ fp → F b = none := fun b hb => (E.rep.there b hb).1
theorem ER.putSh {K : PySem.W.Frag} {F H : Hp} {σ : L2.St} {δ : Sl} {fp : List Addr} {i : Nat} {v : V} {d : PyData} (E : ER K F H σ δ fp) (hi : i < δ.length) (r : Dp K F v d) :
    ∃ fp', Go fp F H fp' F H ∧ ER K F H (σ.set i (some v)) (δ.set i (.sh d)) fp' := by
  obtain ⟨fp', E', h⟩ := E.put hi E.sub (Same.refl _) (fun _ _ _ h => h) E.free (.sh r) List.nodup_nil (fun b hb => by simp at hb)
  exact ⟨fp', ⟨Same.refl _, fun _ _ _ h => h, fun a h n => absurd h n, fun b hb => (h b hb).elim .inl (fun z => by simp at z), fun _ o e => ⟨o, e⟩⟩, E'⟩
def putM (i : Nat) (d : PyData) : M Ctl := fun δ => if i < δ.length then some (.ok .nx (δ.set i (.sh d))) else none
theorem ts_put {K : PySem.W.Frag} {cls : Str → Option Addr} {W : WX} {F : Hp} {fp : List Addr} {δ : Sl} {D : Ends} {σ : L2.St} {H : Hp} {i : Nat} {d : PyData} {v : V} (h : tSA K cls W (putM i d) F fp δ D σ H) (r : Dp K F v d) : D.nx (σ.set i (some v)) H := by
  obtain ⟨E, ro, hm, hf⟩ := h
  unfold putM at hm
  split at hm
  · rename_i hi
    cases hm
    obtain ⟨fp', g, E'⟩ := E.putSh hi r
    exact hf _ fp' F H g E'
  · cases hm
section
variable {X : Cx} {cls : Str → Option Addr} {W : WX} {pos pos' : Pos} {e : Expr} {me : M PyData}
/-- x = e -/
theorem ds_set (i : Nat) {x : Str} (hN : X.N.Nodup) (he : DE X cls W e me) (hi : X.N[i]? = some x := by rfl) (hx : Loc X.env.scope x := by first | exact .inl rfl | exact .inr rfl) (hs : swapsWith e (some (.Name x pos')) pos.line X.env = pure false := by rfl)
    (hf : X.fn x = true ∨ X.env.scope.names.lookup x = some .local := by first | exact .inl rfl | exact .inr rfl | assumption) :
    DS X cls W (.Assign [.Name x pos'] e pos) (bnd me fun d => putM i d) := by
  refine ps_imp (ps_set hN hi hx he hs hf) fun D σ H h => ?_
  obtain ⟨F, fp, δ, h⟩ := h
  refine Tm.mono (TmA.tm (ts_bnd h)) fun v H1 ⟨d, F1, fp1, δ1, rx, s1, _, h1⟩ => ?_
  exact ts_put h1 rx
end
end DL

set_option maxRecDepth 100000
set_option maxHeartbeats 1000000
/-! DL7: targets, loops, comprehensions. -/
namespace DL
open PySem PySem.Spec PyProof.Rows L2 RZ
variable [CC : ClsCtx] [XC : XcCtx]

/-! ### targets: names, tuples of targets -/
inductive Tgt where
  | nm (i : Nat)
  | tp (l : List Tgt)
mutual
def Tgt.slots : Tgt → List Nat
  | .nm i => [i]
  | .tp l => Tgt.slotsL l
def Tgt.slotsL : List Tgt → List Nat
  | [] => []
  | t :: r => Tgt.slots t ++ Tgt.slotsL r
end
mutual
def Tgt.set : Tgt → PyData → Sl → Option Sl
  | .nm i, d, δ => if i < δ.length then some (δ.set i (.sh d)) else none
  | .tp l, .tuple ds, δ => if ds.length = l.length then Tgt.setL l ds δ else none
  | .tp _, _, _ => none
def Tgt.setL : List Tgt → List PyData → Sl → Option Sl
  | [], _, δ => some δ
  | _ :: _, [], _ => none
  | t :: r, d :: ds, δ => match Tgt.set t d δ with
    | none => none
    | some δ1 => Tgt.setL r ds δ1
end
mutual
def Tgt.tg (K : PySem.W.Frag) : Tgt → TG
  | .nm i => gName i
  | .tp l => gTup K l.length (Tgt.tgs K l)
def Tgt.tgs (K : PySem.W.Frag) : List Tgt → TGs
  | [] => gNil
  | t :: r => gCons (Tgt.tg K t) (Tgt.tgs K r)
end
theorem wipe_get_in {σ : L2.St} {i : Nat} : ∀ {vs : List Nat}, i ∈ vs → i < σ.length → (wipe σ vs)[i]? = some none
  | v :: vs, h, hl => by
    unfold wipe
    by_cases e : v = i
    · subst e
      rw [List.getElem?_set_self (by rw [wipe_length]; exact hl)]
    · rw [List.getElem?_set_ne e]
      exact wipe_get_in ((List.mem_cons.mp h).resolve_left fun z => e z.symm) hl
theorem wipe_set {σ : L2.St} {i : Nat} {o : Option V} {vs : List Nat} (h : i ∈ vs) : wipe (σ.set i o) vs = wipe σ vs := by
  apply List.ext_getElem?
  intro j
  by_cases hj : j ∈ vs
  · by_cases hl : j < σ.length
    · rw [wipe_get_in hj (by simpa using hl), wipe_get_in hj hl]
    · rw [List.getElem?_eq_none (by rw [wipe_length]; simpa using hl), List.getElem?_eq_none (by rw [wipe_length]; simpa using hl)]
  · rw [wipe_out hj, wipe_out hj, List.getElem?_set_ne (fun e => hj (by rw [← e]; exact h))]
section
variable {K : PySem.W.Frag} {F H : Hp} {σ : L2.St} {δ δ1 : Sl} {fp : List Addr}
mutual
theorem tgt_run : ∀ (t : Tgt) {v : V} {d : PyData} {σ : L2.St} {δ δ1 : Sl} {fp : List Addr} {Q : L2.St → Hp → Prop}, ER K F H σ δ fp → Dp K F v d → Tgt.set t d δ = some δ1 →
    (∀ σ' fp', Go fp F H fp' F H → ER K F H σ' δ1 fp' → (∀ vs : List Nat, (∀ i ∈ Tgt.slots t, i ∈ vs) → wipe σ' vs = wipe σ vs) → Q σ' H) → Tgt.tg K t v σ H Q
  | .nm i, v, d, σ, δ, δ1, fp, Q, E, r, hs, k => by
    simp only [Tgt.set] at hs
    split at hs
    · cases hs
      obtain ⟨fp', g, E'⟩ := E.putSh (by assumption) r
      exact k _ fp' g E' fun vs h => wipe_set (h i (by simp [Tgt.slots]))
    · cases hs
  | .tp l, v, d, σ, δ, δ1, fp, Q, E, r, hs, k => by
    cases r with
    | tup hq ha =>
      simp only [Tgt.set] at hs
      split at hs
      · rename_i hl
        exact ⟨_, _, rfl, Same.tup E.sub hq, (dpa_len ha).trans hl, tgts_run l E ha hl hs fun σ' fp' g E' h => k σ' fp' g E' fun vs hv => h vs fun i hi => hv i (by simpa only [Tgt.slots] using hi)⟩
      · cases hs
    | _ => simp only [Tgt.set] at hs <;> cases hs
theorem tgts_run : ∀ (l : List Tgt) {vs : List V} {ds : List PyData} {σ : L2.St} {δ δ1 : Sl} {fp : List Addr} {Q : L2.St → Hp → Prop}, ER K F H σ δ fp → DpAll K F vs ds → ds.length = l.length → Tgt.setL l ds δ = some δ1 →
    (∀ σ' fp', Go fp F H fp' F H → ER K F H σ' δ1 fp' → (∀ vs : List Nat, (∀ i ∈ Tgt.slotsL l, i ∈ vs) → wipe σ' vs = wipe σ vs) → Q σ' H) → Tgt.tgs K l vs σ H Q
  | [], vs, ds, σ, δ, δ1, fp, Q, E, ha, hl, hs, k => by
    cases ha with
    | nil =>
      simp only [Tgt.setL] at hs
      cases hs
      exact ⟨rfl, k σ fp (Go.refl _ _ _) E fun _ _ => rfl⟩
    | cons _ _ => cases hl
  | t :: l, vs, ds, σ, δ, δ1, fp, Q, E, ha, hl, hs, k => by
    cases ha with
    | nil => cases hl
    | cons h1 h2 =>
      simp only [Tgt.setL] at hs
      split at hs
      · cases hs
      · rename_i δ' e
        refine ⟨_, _, rfl, tgt_run t E h1 e fun σ' fp' g E' w1 => tgts_run l E' h2 (by simpa using hl) hs fun σ2 fp2 g2 E2 w2 => k σ2 fp2 (g.trans g2) E2 fun vs hv => ?_⟩
        rw [w2 vs fun i hi => hv i (by simp only [Tgt.slotsL]; exact List.mem_append_right _ hi), w1 vs fun i hi => hv i (by simp only [Tgt.slotsL]; exact List.mem_append_left _ hi)]
end
end

/-! ### what is walked -/
/-- an iterator over data that stands still -/
def ItOk (K : PySem.W.Frag) (F0 : Hp) (J : It) (ds : List PyData) : Prop := ∀ (i : Nat) (F H : Hp), Same F0 F → Same F H →
  (∀ d, ds[i]? = some d → J.go i H ∧ ∀ x H', J.yld i H x H' → ∃ F', Ext F H F' H' ∧ Dp K F' x d) ∧ (ds.length ≤ i → J.stop i H)
def tIt (K : PySem.W.Frag) (cls : Str → Option Addr) (W : WX) (m : M (List PyData)) : TI := fun σ H R => ∃ F fp δ, ER K F H σ δ fp ∧ ∃ r, m δ = some r ∧ Fin K cls W σ fp F H (fun ds _ _ F' H' => ∀ J, ItOk K F' J ds → R J H') r
abbrev DI (X : Cx) (cls : Str → Option Addr) (W : WX) (tg e : Expr) (m : M (List PyData)) : Prop := PI X tg e (tIt X.K cls W m)
def charsD (z : Str) : List PyData := z.cps.toList.map fun c => .str ⟨#[c]⟩
def itemsD : PyData → Option (List PyData)
  | .list xs => some xs
  | .tuple xs => some xs
  | .str z => some (charsD z)
  | _ => none
theorem itOk_list {K : PySem.W.Frag} {F0 : Hp} {a : Addr} {vs : List V} {ds : List PyData} (h : SqL K F0 a vs) (ha : DpAll K F0 vs ds) : ItOk K F0 (Itl K a) ds := by
  intro i F H s1 s2
  have hH := (s1.trans s2).seq h
  refine ⟨fun d e => ?_, fun hl => ⟨vs, hH, by rw [dpa_len ha]; exact hl⟩⟩
  obtain ⟨v, hv, rv⟩ := dpa_get ha e
  refine ⟨⟨vs, v, hH, hv⟩, fun x H' y => ?_⟩
  obtain ⟨rfl, y⟩ := y
  have q := y vs hH
  rw [hv] at q
  cases q
  exact ⟨F, Ext.refl s2, dp_mono s1 _ rv⟩

theorem itOk_tup {K : PySem.W.Frag} {F0 : Hp} {a : Addr} {vs : List V} {ds : List PyData} (h : SqT K F0 a vs) (ha : DpAll K F0 vs ds) : ItOk K F0 (Itt K a) ds := by
  intro i F H s1 s2
  have hH := Same.tup (s1.trans s2) h
  refine ⟨fun d e => ?_, fun hl => ⟨vs, hH, by rw [dpa_len ha]; exact hl⟩⟩
  obtain ⟨v, hv, rv⟩ := dpa_get ha e
  refine ⟨⟨vs, v, hH, hv⟩, fun x H' y => ?_⟩
  obtain ⟨rfl, y⟩ := y
  have q := y vs hH
  rw [hv] at q
  cases q
  exact ⟨F, Ext.refl s2, dp_mono s1 _ rv⟩
theorem itOk_str {K : PySem.W.Frag} {F0 : Hp} {z : Str} : ItOk K F0 (Its z) (charsD z) := by
  intro i F H s1 s2
  refine ⟨fun d e => ?_, fun hl => ?_⟩
  · unfold charsD at e
    rw [List.getElem?_map] at e
    cases e1 : z.cps.toList[i]? with
    | none => rw [e1] at e; cases e
    | some c =>
      rw [e1] at e
      cases e
      have e2 : z.cps[i]? = some c := by simpa using e1
      refine ⟨(Array.getElem?_eq_some_iff.mp e2).1, fun x H' y => ?_⟩
      obtain ⟨rfl, c', h1, rfl⟩ := y
      rw [e2] at h1
      cases h1
      exact ⟨F, Ext.refl s2, .str _⟩
  · show z.cps.size ≤ i
    simpa [charsD] using hl
def rng (lo : Int) (n : Nat) : List PyData := (List.range n).map fun (k : Nat) => .int (lo + (k : Int))
theorem itOk_range {K : PySem.W.Frag} {F0 : Hp} {lo : Int} {n : Nat} : ItOk K F0 (Itr lo n) (rng lo n) := by
  unfold rng
  intro i F H s1 s2
  refine ⟨fun d e => ?_, fun hl => ?_⟩
  · rw [List.getElem?_map] at e
    by_cases hi : i < n
    · rw [List.getElem?_range hi] at e
      cases e
      refine ⟨hi, fun x H' y => ?_⟩
      obtain ⟨rfl, rfl⟩ := y
      exact ⟨F, Ext.refl s2, .int _⟩
    · rw [List.getElem?_eq_none (by simpa using hi)] at e
      cases e
  · show n ≤ i
    simpa using hl
def enumL : Nat → List PyData → List PyData
  | _, [] => []
  | n, d :: r => .tuple [.int n, d] :: enumL (n + 1) r
theorem enumL_get : ∀ (ds : List PyData) (n i : Nat), (enumL n ds)[i]? = ds[i]?.map fun d => .tuple [.int ((n + i : Nat) : Int), d]
  | [], n, i => by simp [enumL]
  | d :: r, n, 0 => by simp [enumL]
  | d :: r, n, i + 1 => by
    have := enumL_get r (n + 1) i
    simp only [enumL, List.getElem?_cons_succ]
    rw [this]
    have e : n + 1 + i = n + (i + 1) := by omega
    rw [e]
theorem enumL_len : ∀ (ds : List PyData) (n : Nat), (enumL n ds).length = ds.length
  | [], n => rfl
  | d :: r, n => by simp [enumL, enumL_len r (n + 1)]
theorem itOk_enum {K : PySem.W.Frag} {F0 : Hp} {a : Addr} {vs : List V} {ds : List PyData} (h : SqL K F0 a vs) (ha : DpAll K F0 vs ds) : ItOk K F0 (Ite K a) (enumL 0 ds) := by
  intro i F H s1 s2
  have hH := (s1.trans s2).seq h
  refine ⟨fun d e => ?_, fun hl => ⟨vs, hH, by rw [dpa_len ha]; rw [enumL_len] at hl; exact hl⟩⟩
  rw [enumL_get] at e
  cases e1 : ds[i]? with
  | none => rw [e1] at e; cases e
  | some d1 =>
    rw [e1] at e
    cases e
    obtain ⟨v, hv, rv⟩ := dpa_get ha e1
    refine ⟨⟨vs, v, hH, hv⟩, fun x H' y => ?_⟩
    obtain ⟨T, x', rfl, hT, rfl, y⟩ := y
    have q := y vs hH
    rw [hv] at q
    cases q
    refine ⟨_, Ext.new s2 hT, ?_⟩
    have e0 : ((0 + i : Nat) : Int) = (i : Nat) := by omega
    rw [e0]
    exact dp_new_tup (s2.free hT) (.cons (.int _) (.cons (dp_mono s1 _ rv) .nil))
def zipL (xs ys : List PyData) : List PyData := List.zipWith (fun x y => .tuple [x, y]) xs ys
theorem itOk_zip {K : PySem.W.Frag} {F0 : Hp} {a b : Addr} {vs ws : List V} {ds es : List PyData} (h : SqL K F0 a vs) (ha : DpAll K F0 vs ds) (h' : SqL K F0 b ws) (hb : DpAll K F0 ws es) : ItOk K F0 (Itz K a b) (zipL ds es) := by
  intro i F H s1 s2
  have hH := (s1.trans s2).seq h
  have hH' := (s1.trans s2).seq h'
  refine ⟨fun d e => ?_, fun hl => ⟨vs, ws, hH, hH', ?_⟩⟩
  · unfold zipL at e
    rw [List.getElem?_zipWith] at e
    cases e1 : ds[i]? with
    | none => rw [e1] at e; cases e
    | some d1 =>
      cases e2 : es[i]? with
      | none => rw [e1, e2] at e; cases e
      | some d2 =>
        rw [e1, e2] at e
        cases e
        obtain ⟨v, hv, rv⟩ := dpa_get ha e1
        obtain ⟨w, hw, rw'⟩ := dpa_get hb e2
        refine ⟨⟨vs, ws, v, w, hH, hH', hv, hw⟩, fun x H' y => ?_⟩
        obtain ⟨T, x', y', rfl, hT, rfl, q1, q2⟩ := y
        have p1 := q1 vs hH
        have p2 := q2 ws hH'
        rw [hv] at p1; rw [hw] at p2
        cases p1; cases p2
        exact ⟨_, Ext.new s2 hT, dp_new_tup (s2.free hT) (.cons (dp_mono s1 _ rv) (.cons (dp_mono s1 _ rw') .nil))⟩
  · rw [dpa_len ha, dpa_len hb]
    unfold zipL at hl
    rw [List.length_zipWith] at hl
    omega
theorem itOk_zipT {K : PySem.W.Frag} {F0 : Hp} {a b : Addr} {vs ws : List V} {ds es : List PyData} (h : SqT K F0 a vs) (ha : DpAll K F0 vs ds) (h' : SqT K F0 b ws) (hb : DpAll K F0 ws es) : ItOk K F0 (ItzT K a b) (zipL ds es) := by
  intro i F H s1 s2
  have hH := Same.tup (s1.trans s2) h
  have hH' := Same.tup (s1.trans s2) h'
  refine ⟨fun d e => ?_, fun hl => ⟨vs, ws, hH, hH', ?_⟩⟩
  · unfold zipL at e
    rw [List.getElem?_zipWith] at e
    cases e1 : ds[i]? with
    | none => rw [e1] at e; cases e
    | some d1 =>
      cases e2 : es[i]? with
      | none => rw [e1, e2] at e; cases e
      | some d2 =>
        rw [e1, e2] at e
        cases e
        obtain ⟨v, hv, rv⟩ := dpa_get ha e1
        obtain ⟨w, hw, rw'⟩ := dpa_get hb e2
        refine ⟨⟨vs, ws, v, w, hH, hH', hv, hw⟩, fun x H' y => ?_⟩
        obtain ⟨T, x', y', rfl, hT, rfl, q1, q2⟩ := y
        have p1 := q1 vs hH
        have p2 := q2 ws hH'
        rw [hv] at p1; rw [hw] at p2
        cases p1; cases p2
        exact ⟨_, Ext.new s2 hT, dp_new_tup (s2.free hT) (.cons (dp_mono s1 _ rv) (.cons (dp_mono s1 _ rw') .nil))⟩
  · rw [dpa_len ha, dpa_len hb]
    unfold zipL at hl
    rw [List.length_zipWith] at hl
    omega
section
variable {X : Cx} {cls : Str → Option Addr} {W : WX} {pos p tpos : Pos} {tg e e2 : Expr} {me me2 : M PyData} {ma : M (List PyData)} {elts : List Expr} {kk : Nat}
/-- a list, a tuple or a text -/
theorem pi_any {tl : TE} (hl : PE X e tl) : PI X tg e (fun σ H R => tl σ H fun x H1 => (∃ a, x = .ref a ∧ (∃ xs, SqL X.K H1 a xs) ∧ R (Itl X.K a) H1) ∨ (∃ a, x = .ref a ∧ (∃ xs, SqT X.K H1 a xs) ∧ R (Itt X.K a) H1) ∨ ∃ z, x = .str z ∧ R (Its z) H1) := by
  constructor
  intro pins s σ H R I h
  refine thn (hl.run pins s σ H _ I h) ?_
  rintro v s1 ⟨x, H1, I1, r1, q1⟩
  rcases q1 with ⟨a, rfl, ⟨xs, hq⟩, q⟩ | ⟨a, rfl, ⟨xs, hq⟩, q⟩ | ⟨z, rfl, q⟩
  · cases r1
    obtain ⟨its, rv, p, hz⟩ := I1.list hq
    exact wpAny_pyIter_list p.isList (pi_one (tk := s1.toks) I1 _ (turn_list a _) ⟨_, Heap.get?_push_size _ rfl, rfl, rfl⟩ q)
  · cases r1
    obtain ⟨its, rv, p, hz⟩ := I1.tuple hq
    exact wpAny_pyIter_tuple (show s1.heap.IsTuple a its.toArray from p) (pi_one (tk := s1.toks) I1 _ (turn_tuple a _) ⟨_, Heap.get?_push_size _ rfl, rfl, rfl⟩ q)
  · obtain ⟨t, rfl⟩ := r1
    rcases Bool.eq_false_or_eq_true (z.cps.all (· < 128)) with ha | ha
    · exact wpAny_pyIter_ascii ha (pi_one (tk := s1.toks) I1 _ (turn_str _ z t "str_ascii_iterator" (.inl rfl)) ⟨_, Heap.get?_push_size _ rfl, rfl, rfl⟩ q)
    · exact wpAny_pyIter_wide ha (pi_one (tk := s1.toks) I1 _ (turn_str _ z t "str_iterator" (.inr rfl)) ⟨_, Heap.get?_push_size _ rfl, rfl, rfl⟩ q)
theorem pi_imp {w w' : TI} (h : PI X tg e w) (i : ∀ σ H R, w' σ H R → w σ H R) : PI X tg e w' := ⟨fun pins s σ H R I q => h.run pins s σ H R I (i _ _ _ q)⟩
/-- for the walk's beginning: the value is evaluated, then what is walked is known -/
theorem ti_bnd {α β : Type} {K : PySem.W.Frag} {Rel : Hp → β → α → Prop} {m : M α} {k : α → Option (List PyData)} {σ : L2.St} {H : Hp} {R : It → Hp → Prop} (h : tIt K cls W (bnd m fun x => lft (k x)) σ H R) :
    Tm K cls W Rel m σ H (fun v H1 => ∃ F1 x ds, Same F1 H1 ∧ Rel F1 v x ∧ k x = some ds ∧ ∀ J, ItOk K F1 J ds → R J H1) := by
  obtain ⟨F, fp, δ, E, r, hm, hf⟩ := h
  unfold bnd at hm
  cases e : m δ with
  | none => rw [e] at hm; cases hm
  | some r1 =>
    rw [e] at hm
    cases r1 with
    | ex n fs δ1 => cases hm; exact ⟨F, fp, δ, E, _, e, hf⟩
    | ok x δ1 =>
      refine ⟨F, fp, δ, E, _, e, fun fp' F' H' g E' v rel => ?_⟩
      cases hk : k x with
      | none => simp [lft, hk] at hm
      | some ds =>
        have hm' : some (Rs.ok ds δ1) = some r := by simpa [lft, hk] using hm
        cases hm'
        exact ⟨F', x, ds, E'.sub, rel, hk, fun J ok => hf fp' F' H' g E' J ok⟩
theorem di_seq (he : DE X cls W e me) : DI X cls W tg e (bnd me fun d => lft (itemsD d)) := by
  refine pi_imp (pi_any he) fun σ H R h => ?_
  refine Tm.mono (ti_bnd (Rel := Dp X.K) h) fun v H1 ⟨F1, d, ds, s1, rx, hk, q⟩ => ?_
  cases rx with
  | lst hq ha => cases hk; exact .inl ⟨_, rfl, ⟨_, s1.seq hq⟩, q _ (itOk_list hq ha)⟩
  | tup hq ha => cases hk; exact .inr (.inl ⟨_, rfl, ⟨_, Same.tup s1 hq⟩, q _ (itOk_tup hq ha)⟩)
  | str z => cases hk; exact .inr (.inr ⟨_, rfl, q _ itOk_str⟩)
  | _ => cases hk
def range1D : PyData → Option (List PyData)
  | .int j => if j < 2 ^ 62 ∧ -(2 ^ 62) ≤ j then some (rng 0 j.toNat) else none
  | _ => none
def range2D : PyData → PyData → Option (List PyData)
  | .int i, .int j => if -(2 ^ 62) ≤ i ∧ i < 2 ^ 62 ∧ -(2 ^ 62) ≤ j ∧ j < 2 ^ 62 then some (rng i (j - i).toNat) else none
  | _, _ => none
def rangeA : List PyData → Option (List PyData)
  | [d] => range1D d
  | [d, e] => range2D d e
  | _ => none
theorem di_range1 (hm : X.mg "range" = none) (ha : DA X cls W [e] ma) (hg : Gl X "range" := by rfl) (hs : starEach [e] X.env = [(false, eval e X.env)] := by rfl) :
    DI X cls W tg (.Call (.Name "range" p) [e] [] pos) (bnd ma fun ds => lft (if ds.length = 1 then rangeA ds else none)) := by
  refine pi_imp (pi_range1 hg hm ha hs) fun σ H R h => ?_
  refine Tm.mono (ti_bnd (Rel := DpAll X.K) h) fun v H1 ⟨F1, d, ds, s1, rx, hk, q⟩ => ?_
  split at hk
  · rename_i hl
    cases rx with
    | nil => cases hl
    | cons r1 rr =>
      cases rr with
      | cons _ _ => cases hl
      | nil =>
        cases r1 with
        | int j =>
          simp only [rangeA, range1D] at hk
          split at hk
          · rename_i hc
            cases hk
            exact ⟨j, rfl, hc.2, hc.1, q _ itOk_range⟩
          · cases hk
        | _ => cases hk
  · cases hk
theorem di_range2 (hm : X.mg "range" = none) (ha : DA X cls W [e, e2] ma) (hg : Gl X "range" := by rfl) (hs : starEach [e, e2] X.env = [(false, eval e X.env), (false, eval e2 X.env)] := by rfl) (hs2 : starEach [e2] X.env = [(false, eval e2 X.env)] := by rfl) :
    DI X cls W tg (.Call (.Name "range" p) [e, e2] [] pos) (bnd ma fun ds => lft (if ds.length = 2 then rangeA ds else none)) := by
  refine pi_imp (pi_range2 hg hm ha hs hs2) fun σ H R h => ?_
  refine Tm.mono (ti_bnd (Rel := DpAll X.K) h) fun v H1 ⟨F1, d, ds, s1, rx, hk, q⟩ => ?_
  split at hk
  · rename_i hl
    cases rx with
    | nil => cases hl
    | cons r1 rr =>
      cases rr with
      | nil => cases hl
      | cons r2 rr =>
        cases rr with
        | cons _ _ => cases hl
        | nil =>
          cases r1 <;> cases r2 <;> simp only [rangeA, range2D] at hk <;> try (cases hk; done)
          split at hk
          · rename_i hc
            cases hk
            exact ⟨_, _, rfl, hc, q _ itOk_range⟩
          · cases hk
  · cases hk
def enumA : List PyData → Option (List PyData)
  | [.list xs] => some (enumL 0 xs)
  | _ => none
theorem di_enum (hm : X.mg "enumerate" = none) (ha : DA X cls W [e] ma) (hg : Gl X "enumerate" := by rfl) (hs : starEach [e] X.env = [(false, eval e X.env)] := by rfl) :
    DI X cls W (.Tuple elts kk tpos) (.Call (.Name "enumerate" p) [e] [] pos) (bnd ma fun ds => lft (enumA ds)) := by
  refine pi_imp (pi_enum hg hm ha hs) fun σ H R h => ?_
  refine Tm.mono (ti_bnd (Rel := DpAll X.K) h) fun v H1 ⟨F1, d, ds, s1, rx, hk, q⟩ => ?_
  cases rx with
  | nil => cases hk
  | cons r1 rr =>
    cases rr with
    | cons _ _ => cases r1 <;> cases hk
    | nil =>
      cases r1 with
      | lst hq ha => cases hk; exact ⟨_, _, rfl, s1.seq hq, q _ (itOk_enum hq ha)⟩
      | _ => cases hk
def zipA : List PyData → Option (List PyData)
  | [.list xs, .list ys] => some (zipL xs ys)
  | [.tuple xs, .tuple ys] => some (zipL xs ys)
  | _ => none
theorem di_zip (hm : X.mg "zip" = none) (ha : DA X cls W [e, e2] ma) (hg : Gl X "zip" := by rfl) (hs : starEach [e, e2] X.env = (false, eval e X.env) :: starEach [e2] X.env := by rfl) (hpl : (backTo pos (starEach [e2] X.env)).any (·.1) = false := by rfl) :
    DI X cls W (.Tuple elts kk tpos) (.Call (.Name "zip" p) [e, e2] [] pos) (bnd ma fun ds => lft (zipA ds)) := by
  refine pi_imp (pi_zipA hg hm ha hs hpl) fun σ H R h => ?_
  refine Tm.mono (ti_bnd (Rel := DpAll X.K) h) fun v H1 ⟨F1, d, ds, s1, rx, hk, q⟩ => ?_
  cases rx with
  | nil => cases hk
  | cons r1 rr =>
    cases rr with
    | nil => cases r1 <;> cases hk
    | cons r2 rr =>
      cases rr with
      | cons _ _ => cases r1 <;> cases r2 <;> cases hk
      | nil =>
        cases r1 with
        | lst h1 h2 =>
          cases r2 with
          | lst h3 h4 => cases hk; exact ⟨_, _, _, _, rfl, .inl ⟨s1.seq h1, s1.seq h3, q _ (itOk_zip h1 h2 h3 h4)⟩⟩
          | _ => cases hk
        | tup h1 h2 =>
          cases r2 with
          | tup h3 h4 => cases hk; exact ⟨_, _, _, _, rfl, .inr ⟨Same.tup s1 h1, Same.tup s1 h3, q _ (itOk_zipT h1 h2 h3 h4)⟩⟩
          | _ => cases hk
        | _ => cases r2 <;> cases hk
end

/-! ### for, while -/
def forL (t : Tgt) (mb : M Ctl) : List PyData → M Ctl
  | [], δ => some (.ok .nx δ)
  | d :: ds, δ => match Tgt.set t d δ with
    | none => none
    | some δ1 => match mb δ1 with
      | some (.ok .nx δ2) => forL t mb ds δ2
      | some (.ok .ct δ2) => forL t mb ds δ2
      | some (.ok .bk δ2) => some (.ok .nx δ2)
      | r => r
def forM (mi : M (List PyData)) (t : Tgt) (mb : M Ctl) : M Ctl := bnd mi fun ds => forL t mb ds
def whileN (tc : M Bool) (mb : M Ctl) : Nat → M Ctl
  | 0 => fun _ => none
  | n + 1 => bnd tc fun b => if b = true then (fun δ => match mb δ with
      | some (.ok .nx δ2) => whileN tc mb n δ2
      | some (.ok .ct δ2) => whileN tc mb n δ2
      | some (.ok .bk δ2) => some (.ok .nx δ2)
      | r => r) else ret .nx
section
variable {X : Cx} {cls : Str → Option Addr} {W : WX} {pos : Pos} {tg iter : Expr} {body : List Stmt} {mi : M (List PyData)} {mb : M Ctl}
theorem ds_for (hp : PassesOwn (model X.prog X.w) X.A X.env X.xe) (hc : X.calm = true) (t : Tgt) (hi : DI X cls W tg iter mi) (hg : PG X tg (Tgt.tg X.K t)) (hb : DSs X cls W body mb) (hs : ∀ x, foldedSetIterable iter X.env x = pure x := by intro _; rfl) :
    DS X cls W (.For tg iter body [] pos) (forM mi t mb) := by
  refine ps_imp (ps_for hp hc hi hg hb hs) fun D σ H h => ?_
  obtain ⟨F, fp, δ, E, r, hm, hf⟩ := h
  unfold forM bnd at hm
  cases e : mi δ with
  | none => rw [e] at hm; cases hm
  | some r1 =>
    rw [e] at hm
    refine ⟨F, fp, δ, E, r1, e, ?_⟩
    cases r1 with
    | ex n fs δ1 => cases hm; exact fun Cx dd fp' F' H' c g E x => hf Cx dd σ fp' F' H' c g E x
    | ok ds δ1 =>
      intro fp1 F1 H1 g1 E1 J ok
      refine ⟨fun i m σ H => m = ds.length - i ∧ i ≤ ds.length ∧ ∃ F fp δ, Same F1 F ∧ tSA X.K cls W (forL t mb (ds.drop i)) F fp δ D σ H, ⟨_, rfl, Nat.zero_le _, F1, fp1, δ1, Same.refl _, E1, r, hm, hf.go g1⟩, ?_⟩
      rintro i m σ2 H2 ⟨rfl, hi, F2, fp2, δ2, s2, E2, r2, hm2, hf2⟩
      obtain ⟨ok1, ok2⟩ := ok i F2 H2 s2 E2.sub
      by_cases hl : i < ds.length
      · have ed : ds[i]? = some ds[i] := List.getElem?_eq_getElem hl
        obtain ⟨hgo, hy⟩ := ok1 _ ed
        rw [List.drop_eq_getElem_cons hl] at hm2
        simp only [forL] at hm2
        refine .inr ⟨hgo, fun σ' H' => ∃ F fp δ, Same F1 F ∧ tSA X.K cls W (forL t mb (ds.drop (i + 1))) F fp δ D σ' H', fun σ' H' q => ⟨ds.length - (i + 1), by omega, rfl, hl, q⟩, fun x H' y => ?_⟩
        obtain ⟨F', ex, rx⟩ := hy x H' y
        split at hm2
        · cases hm2
        · rename_i δa ea
          refine tgt_run t (E2.ext ex) rx ea fun σ' fp' g E' _ => ⟨F', fp', δa, E', ?_⟩
          have g0 : Go fp2 F2 H2 fp' F' H' := ex.go.trans g
          have s3 : Same F1 F' := s2.trans ex.fz
          cases eb : mb δa with
          | none => rw [eb] at hm2; cases hm2
          | some rb =>
            rw [eb] at hm2
            refine ⟨rb, rfl, ?_⟩
            cases rb with
            | ex n fs δb => cases hm2; exact (hf2.go g0)
            | ok c δb =>
              cases c with
              | nx => exact fun σ'' fp'' F'' H'' g' E'' => ⟨F'', fp'', δb, s3.trans g'.fz, E'', r2, hm2, (hf2.go g0).go g'⟩
              | ct => exact fun σ'' fp'' F'' H'' g' E'' => ⟨F'', fp'', δb, s3.trans g'.fz, E'', r2, hm2, (hf2.go g0).go g'⟩
              | bk => cases hm2; exact hf2.go g0
              | rt d => cases hm2; exact hf2.go g0
      · have e0 : ds.drop i = [] := List.drop_eq_nil_of_le (by omega)
        rw [e0] at hm2
        cases hm2
        exact .inl ⟨ok2 (by omega), hf2 σ2 fp2 F2 H2 (Go.refl _ _ _) E2⟩
theorem ds_while (n : Nat) {c : Expr} {tc : M Bool} (hp : PassesOwn (model X.prog X.w) X.A X.env X.xe) (hc : DT X cls W c tc) (hb : DSs X cls W body mb) : DS X cls W (.While c body [] pos) (whileN tc mb n) := by
  refine ps_imp (ps_while hp hc hb) fun D σ H h => ?_
  obtain ⟨F, fp, δ, h⟩ := h
  refine ⟨fun m σ H => ∃ F fp δ, tSA X.K cls W (whileN tc mb m) F fp δ D σ H, ⟨n, F, fp, δ, h⟩, ?_⟩
  rintro m σ1 H1 ⟨F1, fp1, δ1, h1⟩
  cases m with
  | zero =>
    obtain ⟨_, r, hm, _⟩ := h1
    cases hm
  | succ m =>
    refine Tm.mono (TmA.tm (ts_bnd (Rel := fun _ b c => b = c) h1)) fun b H2 ⟨x, F2, fp2, δ2, rx, s2, g2, h2⟩ => ?_
    subst rx
    cases b with
    | false =>
      obtain ⟨E, r, hm, hf⟩ := h2
      cases hm
      exact iteF (hf σ1 fp2 F2 H2 (Go.refl _ _ _) E)
    | true =>
      refine iteT ⟨fun σ' H' => ∃ F fp δ, tSA X.K cls W (whileN tc mb m) F fp δ D σ' H', fun σ' H' q => ⟨m, Nat.lt_succ_self m, q⟩, ?_⟩
      obtain ⟨E, r, hm, hf⟩ := h2
      rw [if_pos rfl] at hm
      cases eb : mb δ2 with
      | none => simp only [eb] at hm; cases hm
      | some rb =>
        simp only [eb] at hm
        refine ⟨F2, fp2, δ2, E, rb, eb, ?_⟩
        cases rb with
        | ex n fs δb => cases hm; exact hf
        | ok c δb =>
          cases c with
          | nx => exact fun σ'' fp'' F'' H'' g' E'' => ⟨F'', fp'', δb, E'', r, hm, hf.go g'⟩
          | ct => exact fun σ'' fp'' F'' H'' g' E'' => ⟨F'', fp'', δb, E'', r, hm, hf.go g'⟩
          | bk => cases hm; exact hf
          | rt d => cases hm; exact hf
end
end DL

set_option maxRecDepth 100000
set_option maxHeartbeats 1000000
/-! DL8: comprehensions; lists of one's own. -/
namespace DL
open PySem PySem.Spec PyProof.Rows L2 RZ
variable [CC : ClsCtx] [XC : XcCtx]

/-! ### slots forgotten -/
def wipeD (δ : Sl) : List Nat → Sl
  | [] => δ
  | v :: vs => (wipeD δ vs).set v .un
theorem wipeD_len (δ : Sl) : ∀ vs : List Nat, (wipeD δ vs).length = δ.length
  | [] => rfl
  | v :: vs => by simp [wipeD, wipeD_len δ vs]
section
variable {K : PySem.W.Frag} {F H : Hp} {σ : L2.St} {δ : Sl} {fp : List Addr}
theorem set_big {α : Type} {l : List α} {i : Nat} {x : α} (h : l.length ≤ i) : l.set i x = l := List.set_eq_of_length_le h
theorem ER.un1 (E : ER K F H σ δ fp) (i : Nat) (o : Option V) : ∃ fp', ER K F H (σ.set i o) (δ.set i .un) fp' ∧ ∀ b, b ∈ fp' → b ∈ fp := by
  by_cases hi : i < δ.length
  · obtain ⟨fp', E', h⟩ := E.put hi E.sub (Same.refl _) (fun _ _ _ h => h) E.free (CRep.un (o := o)) List.nodup_nil (fun b hb => by simp at hb)
    exact ⟨fp', E', fun b hb => (h b hb).elim id fun z => by simp at z⟩
  · have hl := E.rep.len
    rw [set_big (by omega), set_big (by omega)]
    exact ⟨fp, E, fun _ h => h⟩
theorem ER.wipe (E : ER K F H σ δ fp) : ∀ vs : List Nat, ∃ fp', ER K F H (wipe σ vs) (wipeD δ vs) fp' ∧ ∀ b, b ∈ fp' → b ∈ fp
  | [] => ⟨fp, E, fun _ h => h⟩
  | v :: vs => by
    obtain ⟨fp1, E1, h1⟩ := ER.wipe E vs
    obtain ⟨fp2, E2, h2⟩ := E1.un1 v none
    exact ⟨fp2, E2, fun b hb => h1 b (h2 b hb)⟩
theorem sub_go {fp fp' : List Addr} {F H : Hp} (h : ∀ b, b ∈ fp' → b ∈ fp) : Go fp F H fp' F H := ⟨Same.refl _, fun _ _ _ h => h, fun a h n => absurd h n, fun b hb => .inl (h b hb), fun _ o e => ⟨o, e⟩⟩
theorem wipe_wipe (σ : L2.St) (vs : List Nat) : L2.wipe (L2.wipe σ vs) vs = L2.wipe σ vs := by
  apply List.ext_getElem?
  intro j
  by_cases hj : j ∈ vs
  · by_cases hl : j < σ.length
    · rw [wipe_get_in hj (by rw [wipe_length]; exact hl), wipe_get_in hj hl]
    · rw [List.getElem?_eq_none (by rw [wipe_length, wipe_length]; simpa using hl), List.getElem?_eq_none (by rw [wipe_length]; simpa using hl)]
  · rw [wipe_out hj]
theorem wipeD_get_in {i : Nat} : ∀ {vs : List Nat} {δ : Sl}, i ∈ vs → i < δ.length → (wipeD δ vs)[i]? = some .un
  | v :: vs, δ, h, hl => by
    unfold wipeD
    by_cases e : v = i
    · subst e
      rw [List.getElem?_set_self (by rw [wipeD_len]; exact hl)]
    · rw [List.getElem?_set_ne e]
      exact wipeD_get_in ((List.mem_cons.mp h).resolve_left fun z => e z.symm) hl
/-- a slot of which nothing is known may hold anything -/
theorem ER.any (E : ER K F H σ δ fp) {i : Nat} (hu : δ[i]? = some .un) (o : Option V) : ∃ fp', ER K F H (σ.set i o) δ fp' ∧ ∀ b, b ∈ fp' → b ∈ fp := by
  obtain ⟨fp', E', h⟩ := E.un1 i o
  rw [set_same hu] at E'
  exact ⟨fp', E', h⟩
theorem ER.unwipe {σ : L2.St} : ∀ (vs : List Nat) {σ' : L2.St} {δ : Sl} {fp : List Addr}, ER K F H σ' δ fp → L2.wipe σ' vs = L2.wipe σ vs → σ'.length = σ.length → (∀ i ∈ vs, i < δ.length → δ[i]? = some .un) → ∃ fp', ER K F H σ δ fp' ∧ ∀ b, b ∈ fp' → b ∈ fp
  | vs, σ', δ, fp, E, w, hl, hu => by
    -- the slots of vs one after the other
    have key : ∀ (ws : List Nat), (∀ i ∈ ws, i ∈ vs) → ∃ σ2 fp2, ER K F H σ2 δ fp2 ∧ (∀ b, b ∈ fp2 → b ∈ fp) ∧ σ2.length = σ.length ∧ (∀ i, i ∈ ws → σ2[i]? = σ[i]?) ∧ ∀ i, i ∉ ws → σ2[i]? = σ'[i]? := by
      intro ws
      induction ws with
      | nil => exact fun _ => ⟨σ', fp, E, fun _ h => h, hl, fun i h => by simp at h, fun i _ => rfl⟩
      | cons v ws ih =>
        intro hs
        obtain ⟨σ2, fp2, E2, h2, l2, a2, b2⟩ := ih fun i hi => hs i (List.mem_cons_of_mem _ hi)
        by_cases hv : v < σ.length
        · have hv' : v < δ.length := by rw [← E2.rep.len, l2]; exact hv
          obtain ⟨fp3, E3, h3⟩ := E2.any (hu v (hs v List.mem_cons_self) hv') (σ[v]?.getD none)
          refine ⟨_, fp3, E3, fun b hb => h2 b (h3 b hb), by rw [List.length_set]; exact l2, fun i hi => ?_, fun i hi => ?_⟩
          · by_cases e : v = i
            · subst e
              rw [List.getElem?_set_self (by rw [l2]; exact hv), List.getElem?_eq_getElem hv]
              rfl
            · rw [List.getElem?_set_ne e]
              exact a2 i ((List.mem_cons.mp hi).resolve_left fun z => e z.symm)
          · rw [List.getElem?_set_ne fun e => hi (by rw [e]; exact List.mem_cons_self)]
            exact b2 i fun z => hi (List.mem_cons_of_mem _ z)
        · refine ⟨σ2, fp2, E2, h2, l2, fun i hi => ?_, fun i hi => b2 i fun z => hi (List.mem_cons_of_mem _ z)⟩
          rcases List.mem_cons.mp hi with e | hi
          · rw [e, List.getElem?_eq_none (by rw [l2]; simpa using hv), List.getElem?_eq_none (by simpa using hv)]
          · exact a2 i hi
    obtain ⟨σ2, fp2, E2, h2, l2, a2, b2⟩ := key vs fun _ h => h
    have e : σ2 = σ := by
      apply List.ext_getElem?
      intro j
      by_cases hj : j ∈ vs
      · exact a2 j hj
      · rw [b2 j hj]
        have q := congrArg (·[j]?) w
        simp only [wipe_out hj] at q
        exact q
    rw [e] at E2
    exact ⟨fp2, E2, h2⟩
/-- an object that no slot owns and that isn't frozen is written -/
theorem ER.aside (E : ER K F H σ δ fp) {D : Addr} {o : HO} (h1 : F D = none) (h2 : D ∉ fp) : ER K F (upd H D o) σ δ fp :=
  ⟨fun b u e => by rw [upd_ne (ne_of_none e h1)]; exact E.sub b u e,
    E.rep.tr (Same.refl _) (fun b u hb e => by rw [upd_ne fun z => h2 (by rw [← z]; exact hb)]; exact e) E.free, E.nd⟩
end

/-! ### the comprehension -/
abbrev W0 : WX := fun _ _ _ _ => False
def compL (t : Tgt) (vs : List Nat) (mt : M Bool) (me : M PyData) : List PyData → M (List PyData)
  | [], δ => some (.ok [] δ)
  | d :: ds, δ => match Tgt.set t d δ with
    | none => none
    | some δ1 => match mt δ1 with
      | some (.ok false δ2) => compL t vs mt me ds (wipeD δ2 vs)
      | some (.ok true δ2) => match me δ2 with
        | some (.ok y δ3) => match compL t vs mt me ds (wipeD δ3 vs) with
          | some (.ok ys δ4) => some (.ok (y :: ys) δ4)
          | _ => none
        | _ => none
      | _ => none
def compA (t : Tgt) (vs : List Nat) (mt : M Bool) (me : M PyData) (ds : List PyData) : M (List PyData) := fun δ => if ds.length ≤ sizeLine then compL t vs mt me ds (wipeD δ vs) else none
def compM (mi : M (List PyData)) (t : Tgt) (vs : List Nat) (mt : M Bool) (me : M PyData) : M (List PyData) := bnd mi fun ds => compA t vs mt me ds
theorem compL_un {t : Tgt} {vs : List Nat} {mt : M Bool} {me : M PyData} : ∀ {ds : List PyData} {δ : Sl} {ys : List PyData} {δ' : Sl}, compL t vs mt me ds δ = some (.ok ys δ') → (∀ i ∈ vs, i < δ.length → δ[i]? = some .un) → ∀ i ∈ vs, i < δ'.length → δ'[i]? = some .un
  | [], δ, ys, δ', h, hu => by cases h; exact hu
  | d :: ds, δ, ys, δ', h, hu => by
    simp only [compL] at h
    split at h
    · cases h
    · split at h
      · exact compL_un h fun i hi hl => wipeD_get_in hi (by rw [wipeD_len] at hl; exact hl)
      · split at h
        · split at h
          · rename_i e
            cases h
            exact compL_un e fun i hi hl => wipeD_get_in hi (by rw [wipeD_len] at hl; exact hl)
          · cases h
        · cases h
      · cases h
/-- the loop of a comprehension; what is wanted behind it: the new list stands at D -/
theorem lc_D {K : PySem.W.Frag} {cls : Str → Option Addr} {W : WX} {mi : M (List PyData)} {t : Tgt} {vs : List Nat} {mt : M Bool} {me : M PyData} {σ : L2.St} {H F : Hp} {fp : List Addr} {δ : Sl} {Q : VK} {r : Rs (List PyData)}
    (hts : ∀ i ∈ Tgt.slots t, i ∈ vs) (E : ER K F H σ δ fp) (hm : compM mi t vs mt me δ = some r)
    (hx : ∀ n fs δ', r = .ex n fs δ' → ∀ Cx dd fp' F' H', cls n = some Cx → Go fp F H fp' F' H' → ER K F' H' σ δ' fp' → Xr K H F' H' dd fs → W (.ref Cx) (some dd) σ H')
    (hq : ∀ ys δ', r = .ok ys δ' → ∀ fp' F' H' D acc, Go fp F H fp' F' H' → ER K F' H' σ δ' fp' → H D = none → F' D = none → D ∉ fp' → H' D = some (.lst acc) → DpAll K F' acc ys → Q (.ref D) H') :
    tLc (tIt K cls W mi) (Tgt.tg K t) (tT K cls W0 mt) (tE K cls W0 me) vs σ H Q := by
  unfold compM bnd at hm
  cases e : mi δ with
  | none => rw [e] at hm; cases hm
  | some r1 =>
    rw [e] at hm
    refine ⟨F, fp, δ, E, r1, e, ?_⟩
    cases r1 with
    | ex n fs δ1 => cases hm; exact hx n fs δ1 rfl
    | ok ds δ1 =>
      intro fp1 F1 H1 g1 E1 J ok D hD
      simp only [compA] at hm
      split at hm
      · rename_i hlen
        obtain ⟨ys0, δE, hr, hc0⟩ : ∃ ys δE, r = .ok ys δE ∧ compL t vs mt me ds (wipeD δ1 vs) = some (.ok ys δE) := by
          have : ∀ {ds : List PyData} {δ : Sl} {r}, compL t vs mt me ds δ = some r → ∃ ys δE, r = Rs.ok ys δE := by
            intro ds
            induction ds with
            | nil => intro δ r h; cases h; exact ⟨_, _, rfl⟩
            | cons d ds ih =>
              intro δ r h
              simp only [compL] at h
              split at h
              · cases h
              · split at h
                · exact ih h
                · split at h
                  · split at h
                    · cases h; exact ⟨_, _, rfl⟩
                    · cases h
                  · cases h
                · cases h
          obtain ⟨ys, δE, e⟩ := this hm
          exact ⟨ys, δE, e, by rw [← e]; exact hm⟩
        obtain ⟨fpw, Ew, hw⟩ := E1.wipe vs
        have FD : F1 D = none := E1.sub.free hD
        have fD : D ∉ fpw := fun hb => by
          obtain ⟨_, o, z⟩ := E1.rep.there D (hw D hb)
          rw [hD] at z; cases z
        have HD0 : H D = none := by
          cases q : H D with
          | none => rfl
          | some o =>
            obtain ⟨o', z⟩ := g1.al D o q
            rw [hD] at z; cases z
        refine ⟨fun i m H2 => m = ds.length - i ∧ i ≤ ds.length ∧ ∃ F2 fp2 δ2 acc accd ys, ER K F2 H2 (L2.wipe σ vs) δ2 fp2 ∧ Same F1 F2 ∧ Go fp1 F1 H1 fp2 F2 H2 ∧ H2 D = some (.lst acc) ∧ F2 D = none ∧ D ∉ fp2 ∧ DpAll K F2 acc accd ∧ accd.length ≤ i ∧
            compL t vs mt me (ds.drop i) δ2 = some (.ok ys δE) ∧ accd ++ ys = ys0, ⟨_, rfl, Nat.zero_le _, F1, fpw, wipeD δ1 vs, [], [], ys0, Ew.aside FD fD, Same.refl _, ?_, upd_same, FD, fD, .nil, Nat.le_refl _, hc0, rfl⟩, ?_⟩
        · exact (sub_go hw).aside hD
        · rintro i m H2 ⟨rfl, hi, F2, fp2, δ2, acc, accd, ys, E2, s2, g2, aD, bD, cD, da, la, hc, ey⟩
          obtain ⟨ok1, ok2⟩ := ok i F2 H2 s2 E2.sub
          by_cases hl : i < ds.length
          · have ed : ds[i]? = some ds[i] := List.getElem?_eq_getElem hl
            obtain ⟨hgo, hy⟩ := ok1 _ ed
            rw [List.drop_eq_getElem_cons hl] at hc
            simp only [compL] at hc
            refine .inr ⟨hgo, fun H' => ∃ F2 fp2 δ2 acc accd ys, ER K F2 H' (L2.wipe σ vs) δ2 fp2 ∧ Same F1 F2 ∧ Go fp1 F1 H1 fp2 F2 H' ∧ H' D = some (.lst acc) ∧ F2 D = none ∧ D ∉ fp2 ∧ DpAll K F2 acc accd ∧ accd.length ≤ i + 1 ∧
              compL t vs mt me (ds.drop (i + 1)) δ2 = some (.ok ys δE) ∧ accd ++ ys = ys0, fun H' q => ⟨ds.length - (i + 1), by omega, rfl, hl, q⟩, fun x H' y => ?_⟩
            obtain ⟨F', ex, rx⟩ := hy x H' y
            have aD' : H' D = some (.lst acc) := ex.kp _ _ aD
            have bD' : F' D = none := by
              cases q : F' D with
              | none => rfl
              | some u =>
                have z := ex.nw D bD (by rw [q]; exact fun z => nomatch z)
                rw [aD] at z; cases z
            split at hc
            · cases hc
            · rename_i δa ea
              refine tgt_run t (E2.ext ex) rx ea fun σ3 fp3 g3 E3 w3 => ⟨by rw [w3 vs hts, wipe_wipe], ?_⟩
              have g03 : Go fp1 F1 H1 fp3 F' H' := g2.trans (ex.go.trans g3)
              have cD3 : D ∉ fp3 := fun hb => by
                rcases g3.ow D hb with z | z
                · exact cD z
                · rw [aD'] at z; cases z
              -- behind a part of the turn
              have stay : ∀ {fp4 : List Addr} {F4 H4 : Hp}, Go fp3 F' H' fp4 F4 H4 → H4 D = some (.lst acc) ∧ F4 D = none ∧ D ∉ fp4 := fun {fp4 F4 H4} g => by
                refine ⟨g.kp D _ cD3 aD', ?_, fun hb => ?_⟩
                · cases q : F4 D with
                  | none => rfl
                  | some u =>
                    rcases g.nw D bD' (by rw [q]; exact fun z => nomatch z) with z | z
                    · rw [aD'] at z; cases z
                    · exact absurd z cD3
                · rcases g.ow D hb with z | z
                  · exact cD3 z
                  · rw [aD'] at z; cases z
              have wσ : L2.wipe σ3 vs = L2.wipe σ vs := by rw [w3 vs hts, wipe_wipe]
              cases et : mt δa with
              | none => rw [et] at hc; cases hc
              | some rt =>
                rw [et] at hc
                cases rt with
                | ex n fs δb => cases hc
                | ok b δb =>
                  refine ⟨F', fp3, δa, E3, _, et, fun fp4 F4 H4 g4 E4 v hv => ?_⟩
                  subst hv
                  obtain ⟨p1, p2, p3⟩ := stay g4
                  cases v with
                  | false =>
                    simp only at hc
                    refine iteF ?_
                    obtain ⟨fp5, E5, h5⟩ := E4.wipe vs
                    rw [wσ] at E5
                    exact ⟨F4, fp5, wipeD δb vs, acc, accd, ys, E5, s2.trans (ex.fz.trans g4.fz), (g03.trans g4).trans (sub_go h5), p1, p2, fun hb => p3 (h5 D hb), dpa_mono (ex.fz.trans g4.fz) _ da, by omega, hc, ey⟩
                  | true =>
                    simp only at hc
                    refine iteT ?_
                    cases ee : me δb with
                    | none => rw [ee] at hc; cases hc
                    | some re =>
                      rw [ee] at hc
                      cases re with
                      | ex n fs δc => cases hc
                      | ok y δc =>
                        simp only at hc
                        refine ⟨F4, fp4, δb, E4, _, ee, fun fp5 F5 H5 g5 E5 v rv => ?_⟩
                        obtain ⟨p1, p2, p3⟩ := stay (g4.trans g5)
                        refine ⟨acc, p1, by rw [dpa_len da]; omega, ?_⟩
                        split at hc
                        · rename_i ys' δ4 eq
                          cases hc
                          obtain ⟨fp6, E6, h6⟩ := E5.wipe vs
                          rw [wσ] at E6
                          refine ⟨F5, fp6, wipeD δc vs, acc ++ [v], accd ++ [y], ys', E6.aside p2 (fun hb => p3 (h6 D hb)), s2.trans (ex.fz.trans (g4.fz.trans g5.fz)), ?_, upd_same, p2, fun hb => p3 (h6 D hb), dpa_app (dpa_mono (ex.fz.trans (g4.fz.trans g5.fz)) _ da) (.cons rv .nil), by simp; omega, eq, by rw [← ey]; simp⟩
                          exact ((g03.trans g4).trans (g5.trans (sub_go h6))).aside hD
                        · cases hc
          · have e0 : ds.drop i = [] := List.drop_eq_nil_of_le (by omega)
            rw [e0] at hc
            cases hc
            refine .inl ⟨ok2 (by omega), ?_⟩
            rw [List.append_nil] at ey
            subst ey
            have hu := compL_un hc0 fun i hi hl => wipeD_get_in hi (by rw [wipeD_len] at hl; exact hl)
            obtain ⟨fp3, E3, h3⟩ := ER.unwipe (σ := σ) vs E2 (wipe_wipe σ vs) (wipe_length σ vs) hu
            exact hq _ _ hr fp3 F2 H2 D acc ((g1.trans g2).trans (sub_go h3)) E3 HD0 bD (fun hb => cD (h3 D hb)) aD da
      · cases hm
end DL

set_option maxRecDepth 100000
set_option maxHeartbeats 1000000
/-! DL9: comprehensions as values; lists of one's own: made, read, changed. -/
namespace DL
open PySem PySem.Spec PyProof.Rows L2 RZ
variable [CC : ClsCtx] [XC : XcCtx]

section
variable {X : Cx} {cls : Str → Option Addr} {W : WX} {pos pos' p : Pos} {elt tg iter : Expr} {ifs : List Expr} {scope : Scope} {own : List (Str × Nat)} {mi : M (List PyData)} {mt : M Bool} {me : M PyData}
/-- the tests of a clause -/
abbrev DTs (X : Cx) (cls : Str → Option Addr) (W : WX) (ifs : List Expr) (m : M Bool) : Prop := PTs X ifs (tT X.K cls W m)
theorem pts_imp {ifs : List Expr} {t t' : TT} (h : PTs X ifs t) (i : ∀ σ H Q, t' σ H Q → t σ H Q) : PTs X ifs t' := ⟨fun pins s σ H Q I q => h.run pins s σ H Q I (i _ _ _ q)⟩
theorem dts_nil : DTs X cls W [] (ret true) := by
  refine pts_imp pts_nil fun σ H Q h => ?_
  obtain ⟨F, fp, δ, h⟩ := h
  obtain ⟨E, q⟩ := tm_ret h
  exact q F H (Ext.refl E.sub) _ rfl
theorem dts_one {c : Expr} (h : DT X cls W c mt) : DTs X cls W [c] mt := pts_one h
/-- [elt for tg in iter if ..] as a value -/
theorem de_lc (t : Tgt) (hc : X.calm = true) (hN : X.N.Nodup) (hi : DI X cls W tg iter mi) (ok : BlkOk X.N X.env.scope scope own) (hts : ∀ i ∈ Tgt.slots t, i ∈ own.map (·.2))
    (hg : ∀ (s : Shared) (H : Hp) (C : Addr) (cl : List (Str × Addr)) (fp : List Addr), PG (X.blk s H scope (compEnvC scope cl C X.env) fp) tg (Tgt.tg X.K t)) (ht : ∀ (s : Shared) (H : Hp) (C : Addr) (cl : List (Str × Addr)) (fp : List Addr), DTs (X.blk s H scope (compEnvC scope cl C X.env) fp) cls W0 ifs mt)
    (he : ∀ (s : Shared) (H : Hp) (C : Addr) (cl : List (Str × Addr)) (fp : List Addr), DE (X.blk s H scope (compEnvC scope cl C X.env) fp) cls W0 elt me) (hs : ∀ x, foldedSetIterable iter X.env x = pure x := by intro _; rfl) :
    DE X cls W (.ListComp elt [⟨tg, iter, ifs, 0⟩] scope pos) (bnd (compM mi t (own.map (·.2)) mt me) fun ds => ret (.list ds)) := by
  refine pe_imp (pe_lc (tt := tT X.K cls W0 mt) (te := tE X.K cls W0 me) hc hN hi ok hg ht he hs) fun σ H Q h => ?_
  obtain ⟨F, fp, δ, E, r, hm, hf⟩ := h
  unfold bnd at hm
  cases e : compM mi t (own.map (·.2)) mt me δ with
  | none => rw [e] at hm; cases hm
  | some r1 =>
    rw [e] at hm
    refine lc_D (r := r1) hts E e (fun n fs δ' er => ?_) (fun ys δ' er fp' F' H' D acc g E' n0 FD fD hD da => ?_)
    · subst er; cases hm; exact fun Cx dd fp' F' H' c g E x => hf Cx dd fp' F' H' c g E x
    · subst er
      cases hm
      have s1 : Same F' (upd F' D (.lst acc)) := same_new FD
      have E2 : ER X.K (upd F' D (.lst acc)) H' σ δ' fp' := ⟨fun b u z => by
          by_cases hb : b = D
          · rw [hb, upd_same] at z; rw [hb, hD]; exact z
          · rw [upd_ne hb] at z; exact E'.sub b u z, E'.rep.tr s1 (fun _ _ _ z => z) (fun b hb => by rw [upd_ne fun z => fD (by rw [← z]; exact hb)]; exact E'.free b hb), E'.nd⟩
      refine hf fp' _ H' ⟨g.fz.trans s1, g.kp, fun a h n => ?_, g.ow, g.al⟩ E2 _ (dp_new_lst FD da)
      by_cases ha : a = D
      · rw [ha]; exact .inl n0
      · rw [upd_ne ha] at n; exact g.nw a h n
/-- x = [elt for tg in iter if ..]: x is a list of one's own -/
theorem ds_setLc (i : Nat) (t : Tgt) {y : Str} {py : Pos} {spos : Pos} (hc : X.calm = true) (hN : X.N.Nodup) (hi : DI X cls W tg iter mi) (ok : BlkOk X.N X.env.scope scope own) (hts : ∀ i ∈ Tgt.slots t, i ∈ own.map (·.2))
    (hg : ∀ (s : Shared) (H : Hp) (C : Addr) (cl : List (Str × Addr)) (fp : List Addr), PG (X.blk s H scope (compEnvC scope cl C X.env) fp) tg (Tgt.tg X.K t)) (ht : ∀ (s : Shared) (H : Hp) (C : Addr) (cl : List (Str × Addr)) (fp : List Addr), DTs (X.blk s H scope (compEnvC scope cl C X.env) fp) cls W0 ifs mt)
    (he : ∀ (s : Shared) (H : Hp) (C : Addr) (cl : List (Str × Addr)) (fp : List Addr), DE (X.blk s H scope (compEnvC scope cl C X.env) fp) cls W0 elt me)
    (hsw : swapsWith (.ListComp elt [⟨tg, iter, ifs, 0⟩] scope pos) (some (.Name y py)) spos.line X.env = pure true) (hy : X.N[i]? = some y := by rfl) (hyl : X.env.scope.names.lookup y = some .local := by rfl) (hs : ∀ x, foldedSetIterable iter X.env x = pure x := by intro _; rfl) :
    DS X cls W (.Assign [.Name y py] (.ListComp elt [⟨tg, iter, ifs, 0⟩] scope pos) spos) (bnd (compM mi t (own.map (·.2)) mt me) fun ds δ => if i < δ.length then some (.ok .nx (δ.set i (.ow ds))) else none) := by
  refine ps_imp (L2.ps_setLc (tt := tT X.K cls W0 mt) (te := tE X.K cls W0 me) hc hN hy hyl hsw hi ok hg ht he hs) fun D' σ H h => ?_
  obtain ⟨F, fp, δ, E, r, hm, hf⟩ := h
  unfold bnd at hm
  cases e : compM mi t (own.map (·.2)) mt me δ with
  | none => rw [e] at hm; cases hm
  | some r1 =>
    rw [e] at hm
    refine lc_D (r := r1) hts E e (fun n fs δ' er => ?_) (fun ys δ' er fp' F' H' D acc g E' n0 FD fD hD da => ?_)
    · subst er; cases hm; exact fun Cx dd fp' F' H' c g E x => hf Cx dd σ fp' F' H' c g E x
    · subst er
      simp only at hm
      split at hm
      · rename_i hl
        cases hm
        obtain ⟨fp2, E2, h2⟩ := E'.put hl E'.sub (Same.refl _) (fun _ _ _ z => z) E'.free (CRep.ow hD FD da) (by simp) (fun b hb => by
          obtain rfl : b = D := by simpa using hb
          exact fD)
        refine hf _ fp2 F' H' ⟨g.fz, g.kp, g.nw, fun b hb => ?_, g.al⟩ E2
        rcases h2 b hb with z | z
        · exact g.ow b z
        · obtain rfl : b = D := by simpa using z
          exact .inr n0
      · cases hm
end

/-! ### owned lists: read in place, changed in place -/
section
variable {K : PySem.W.Frag} {F H : Hp} {σ : L2.St} {δ : Sl} {fp : List Addr} {i : Nat}
theorem ER.wr (E : ER K F H σ δ fp) {ds : List PyData} (hc : δ[i]? = some (.ow ds)) : ∃ a vs, σ[i]? = some (some (.ref a)) ∧ H a = some (.lst vs) ∧ DpAll K F vs ds ∧
    ∀ vs' ds', DpAll K F vs' ds' → ER K F (upd H a (.lst vs')) σ (δ.set i (.ow ds')) fp ∧ Go fp F H fp F (upd H a (.lst vs')) := by
  obtain ⟨o, fl, fi, fr, h1, h2, h3, h4⟩ := E.rep.at hc
  cases h2 with
  | @ow a vs _ h n da =>
    have nd := E.nd
    have hna : ∀ b, b ∈ fl ++ fr → b ≠ a := fun b hb e => by
      subst e
      rw [h3, List.nodup_append] at nd
      rcases List.mem_append.mp hb with q | q
      · exact nd.2.2 b q b (by simp) rfl
      · have := nd.2.1
        rw [List.nodup_append] at this
        exact this.2.2 b (by simp) b q rfl
    refine ⟨a, vs, h1, h, da, fun vs' ds' da' => ⟨⟨fun b u e => by rw [upd_ne fun z => by rw [z, n] at e; cases e]; exact E.sub b u e, ?_, E.nd⟩, ⟨Same.refl _, fun b u hb e => by rw [upd_ne fun z => hb (by rw [z, h3]; simp)]; exact e, fun b e z => absurd e z, fun _ h => .inl h, fun b u e => ?_⟩⟩⟩
    · have q := h4 (F' := F) (H' := upd H a (.lst vs')) (o' := some (.ref a)) (c' := .ow ds') (fi' := [a]) (Same.refl _) (fun b u hb e => by rw [upd_ne (hna b hb)]; exact e) (fun b hb => E.free b (by rw [h3]; rcases List.mem_append.mp hb with q | q <;> simp [q])) (.ow upd_same n da')
      rw [set_same h1, ← h3] at q
      exact q
    · by_cases hb : b = a
      · exact ⟨_, by rw [hb]; exact upd_same⟩
      · exact ⟨u, by rw [upd_ne hb]; exact e⟩
theorem ER.slot (E : ER K F H σ δ fp) {ds : List PyData} (hc : δ[i]? = some (.ow ds)) : i < δ.length := (List.getElem?_eq_some_iff.mp hc).1
end
def ownM {α : Type} (i : Nat) (k : List PyData → M α) : M α := fun δ => match δ[i]? with
  | some (.ow ds) => k ds δ
  | _ => none
theorem ownM_of {α : Type} {i : Nat} {k : List PyData → M α} {δ : Sl} {r : Rs α} (h : ownM i k δ = some r) : ∃ ds, δ[i]? = some (.ow ds) ∧ k ds δ = some r := by
  unfold ownM at h
  split at h
  · rename_i ds e; exact ⟨ds, e, h⟩
  · cases h
section
variable {X : Cx} {cls : Str → Option Addr} {W : WX} {pos pos' p apos epos : Pos} {x : Str} {e e2 : Expr} {me me2 : M PyData} {i : Nat}
/-- x.append(e) -/
def appM (i : Nat) (me : M PyData) : M Ctl := ownM i fun _ => bnd me fun d => ownM i fun ds δ => if ds.length < sizeLine then some (.ok .nx (δ.set i (.ow (ds ++ [d])))) else none
theorem tsA_of {m : M Ctl} {k : M Ctl} {K : PySem.W.Frag} {F H : Hp} {fp : List Addr} {δ : Sl} {D : Ends} {σ : L2.St} (h : tSA K cls W m F fp δ D σ H) (e : m δ = k δ) : tSA K cls W k F fp δ D σ H := by
  obtain ⟨E, r, hm, hf⟩ := h
  exact ⟨E, r, e.symm.trans hm, hf⟩
theorem tmA_of {α β : Type} {Rel : Hp → β → α → Prop} {m : M α} {k : M α} {K : PySem.W.Frag} {F H : Hp} {fp : List Addr} {δ : Sl} {Q : β → Hp → Prop} {σ : L2.St} (h : TmA K cls W Rel m F fp δ σ H Q) (e : m δ = k δ) : TmA K cls W Rel k F fp δ σ H Q := by
  obtain ⟨E, r, hm, hf⟩ := h
  exact ⟨E, r, e.symm.trans hm, hf⟩
theorem ds_append (i : Nat) (he : DE X cls W e me) (hN : X.N[i]? = some x := by rfl) (hv : Vis X.env.scope x := by first | exact Or.inl rfl | exact Or.inr (Or.inl rfl) | exact Or.inr (Or.inr rfl)) (hd : (x == ("__debug__" : Str)) = false := by decide) (hcd : (x == ("__classdict__" : Str)) = false := by decide)
    (hsw : swapsWith (.Call (.Attribute (.Name x p) "append" apos) [e] [] pos) none epos.line X.env = pure false := by rfl)
    (hbase : attributeBase (.Name x p) "append" X.env (eval (.Name x p) X.env) = eval (.Name x p) X.env := by rfl)
    (hfew : ((backTo pos (starEach [e] X.env)).all (fun x => !x.1) && (backToKw pos (keywordEach [] X.env)).all (fun x => x.1.isSome) && decide (([e] : List Expr).length + ([] : List Keyword).length + (if ([] : List Keyword).isEmpty then 0 else 1) < 30)) = true := by rfl)
    (hline : (apos.endLine == pos.line) = true := by rfl) (hs : starEach [e] X.env = (false, eval e X.env) :: starEach [] X.env := by rfl) (hplain : (backTo pos (starEach [] X.env)).any (·.1) = false := by rfl) :
    DS X cls W (.Expr (.Call (.Attribute (.Name x p) "append" apos) [e] [] pos) epos) (appM i me) := by
  refine ps_imp (ps_expr (pe_bm PySem.F.plainAttrs_list PySem.F.slot_list_append PySem.F.type_list_append mt_append (pv i hN hv hd hcd) (pa_cons he pa_nil hs) hbase hfew hline hs hplain) hsw) fun D σ H h => ?_
  obtain ⟨F, fp, δ, h⟩ := h
  obtain ⟨E, r, hm, hf⟩ := id h
  obtain ⟨ds0, hc0, hm0⟩ := ownM_of hm
  obtain ⟨a, vs, hσ, ha, da, wr⟩ := E.wr hc0
  refine ⟨_, hσ, .inl ⟨rfl, vs, SqL.of ha⟩, ?_⟩
  refine Tm.mono (TmA.tm (ts_bnd (Rel := Dp X.K) ⟨E, r, hm0, hf⟩)) fun v H1 ⟨d, F1, fp1, δ1, rx, s1, _, E1, r1, hm1, hf1⟩ => ?_
  obtain ⟨ds, hc, hm2⟩ := ownM_of hm1
  obtain ⟨a', vs', hσ', ha', da', wr'⟩ := E1.wr hc
  rw [hσ] at hσ'
  cases hσ'
  split at hm2
  · cases hm2
    obtain ⟨E2, g2⟩ := wr' (vs' ++ [v]) (ds ++ [d]) (dpa_app da' (.cons rx .nil))
    exact ⟨a, vs', v, rfl, rfl, ha', by rw [dpa_len da']; assumption, hf1 σ fp1 F1 _ g2 E2⟩
  · cases hm2
/-- x.pop(e), as a value -/
def popM (i : Nat) (me : M PyData) : M PyData := ownM i fun _ => bnd me fun d => ownM i fun ds δ => match d with
  | .int k => if 0 ≤ k ∧ k < 2 ^ 62 then match ds[k.toNat]? with
      | some y => some (.ok y (δ.set i (.ow (ds.eraseIdx k.toNat))))
      | none => none
    else none
  | _ => none
theorem de_popAt (i : Nat) (he : DE X cls W e me) (hN : X.N[i]? = some x := by rfl) (hv : Vis X.env.scope x := by first | exact Or.inl rfl | exact Or.inr (Or.inl rfl) | exact Or.inr (Or.inr rfl)) (hd : (x == ("__debug__" : Str)) = false := by decide) (hcd : (x == ("__classdict__" : Str)) = false := by decide)
    (hbase : attributeBase (.Name x p) "pop" X.env (eval (.Name x p) X.env) = eval (.Name x p) X.env := by rfl)
    (hfew : ((backTo pos (starEach [e] X.env)).all (fun x => !x.1) && (backToKw pos (keywordEach [] X.env)).all (fun x => x.1.isSome) && decide (([e] : List Expr).length + ([] : List Keyword).length + (if ([] : List Keyword).isEmpty then 0 else 1) < 30)) = true := by rfl)
    (hline : (apos.endLine == pos.line) = true := by rfl) (hs : starEach [e] X.env = (false, eval e X.env) :: starEach [] X.env := by rfl) (hplain : (backTo pos (starEach [] X.env)).any (·.1) = false := by rfl) :
    DE X cls W (.Call (.Attribute (.Name x p) "pop" apos) [e] [] pos) (popM i me) := by
  refine pe_imp (pe_bm PySem.F.plainAttrs_list PySem.F.slot_list_pop PySem.F.type_list_pop mt_popAt (pv i hN hv hd hcd) (pa_cons he pa_nil hs) hbase hfew hline hs hplain) fun σ H Q h => ?_
  obtain ⟨F, fp, δ, E, r, hm, hf⟩ := h
  obtain ⟨ds0, hc0, hm0⟩ := ownM_of hm
  obtain ⟨a, vs, hσ, ha, da, wr⟩ := E.wr hc0
  refine ⟨_, hσ, .inl ⟨rfl, vs, SqL.of ha⟩, ?_⟩
  refine Tm.mono (TmA.tm (tm_bnd (Rel := Dp X.K) ⟨E, r, hm0, hf⟩)) fun v H1 ⟨d, F1, fp1, δ1, rx, s1, _, _, E1, r1, hm1, hf1⟩ => ?_
  obtain ⟨ds, hc, hm2⟩ := ownM_of hm1
  obtain ⟨a', vs', hσ', ha', da', wr'⟩ := E1.wr hc
  rw [hσ] at hσ'
  cases hσ'
  cases rx with
  | int k =>
    simp only at hm2
    split at hm2
    · rename_i hk
      split at hm2
      · rename_i y hy
        cases hm2
        obtain ⟨w, hw, rw'⟩ := dpa_get da' hy
        obtain ⟨E2, g2⟩ := wr' _ _ (dpa_erase k.toNat da')
        have hlt := (List.getElem?_eq_some_iff.mp hy).1
        refine ⟨a, vs', k, k.toNat, w, rfl, rfl, ha', by omega, by omega, ?_, hw, hf1 fp1 F1 _ g2 E2 _ rw'⟩
        rw [seqIndex_of hk.1 (by rw [dpa_len da']; omega)]
      · cases hm2
    · cases hm2
  | _ => cases hm2
/-- len(x), x a list of one's own or shared: nothing is frozen -/
def borM (i : Nat) (g : PyData → Option PyData) : M PyData := fun δ => match δ[i]?.bind cData with
  | some d => match g d with
    | some z => some (.ok z δ)
    | none => none
  | none => none
def scalar : PyData → Bool
  | .list _ => false
  | .tuple _ => false
  | .dict _ => false
  | _ => true
theorem dp_scalar {K : PySem.W.Frag} {F F' : Hp} {v : V} {d : PyData} (h : Dp K F v d) (e : scalar d = true) : Dp K F' v d := by
  cases h with
  | non => exact .non
  | bl b => exact .bl b
  | int i => exact .int i
  | str s => exact .str s
  | lst _ _ => cases e
  | tup _ _ => cases e
  | exo _ _ _ _ _ => cases e
  | ex0 _ _ => cases e
theorem borM_of {i : Nat} {g : PyData → Option PyData} {δ : Sl} {r : Rs PyData} (h : borM i g δ = some r) : ∃ c d z, δ[i]? = some c ∧ cData c = some d ∧ g d = some z ∧ r = .ok z δ := by
  unfold borM at h
  cases e : δ[i]? with
  | none => rw [e] at h; cases h
  | some c =>
    rw [e] at h
    simp only [Option.bind] at h
    cases e2 : cData c with
    | none => rw [e2] at h; cases h
    | some d =>
      rw [e2] at h
      simp only at h
      cases e3 : g d with
      | none => rw [e3] at h; cases h
      | some z => rw [e3] at h; cases h; exact ⟨c, d, z, rfl, e2, e3, rfl⟩
theorem lenD_scalar {d z : PyData} (h : lenD d = some z) : scalar z = true := by
  cases d with
  | list xs => cases h; rfl
  | tuple xs => cases h; rfl
  | str s => simp only [lenD] at h; split at h <;> cases h; rfl
  | _ => cases h
theorem de_lenV (i : Nat) (hm : X.mg "len" = none) (hN : X.N[i]? = some x := by rfl) (hv : Vis X.env.scope x := by first | exact Or.inl rfl | exact Or.inr (Or.inl rfl) | exact Or.inr (Or.inr rfl)) (hd : (x == ("__debug__" : Str)) = false := by decide) (hcd : (x == ("__classdict__" : Str)) = false := by decide)
    (hg : Gl X "len" := by rfl) (he : starEach [.Name x p] X.env = (false, eval (.Name x p) X.env) :: starEach [] X.env := by rfl) (hpl : (backTo pos (starEach [] X.env)).any (·.1) = false := by rfl) :
    DE X cls W (.Call (.Name "len" pos') [.Name x p] [] pos) (borM i lenD) := by
  refine pe_imp (pe_callB cd_len hg hm PySem.boot_len (pa_cons (pv i hN hv hd hcd) pa_nil he) (he := he) (hpl := hpl)) fun σ H Q h => ?_
  obtain ⟨F, fp, δ, E, r, hm, hf⟩ := h
  obtain ⟨c, d, z, hc, hcd, hz, rfl⟩ := borM_of hm
  obtain ⟨v, hσ, rv⟩ := E.look hc hcd
  refine ⟨v, hσ, H, [d], z, Same.refl _, .cons rv .nil, hz, fun u F' H' x ru => ?_⟩
  have x' : Ext F H F H' := ⟨Same.refl _, x.kp, fun a h n => absurd h n, E.sub.trans x.kp⟩
  exact hf fp F H' x'.go (E.ext x') u (dp_scalar ru (lenD_scalar hz))
end
end DL

set_option maxRecDepth 100000
set_option maxHeartbeats 1000000
/-! DL10: values with a content of their own; names that get them. -/
namespace DL
open PySem PySem.Spec PyProof.Rows L2 RZ
variable [CC : ClsCtx] [XC : XcCtx]

/-- what a new value is -/
structure New (K : PySem.W.Frag) (fp0 : List Addr) (H0 : Hp) (fp' : List Addr) (F' H' : Hp) (v : V) (c : C) (fc : List Addr) : Prop where
  rep : CRep K F' H' (some v) c fc
  nd : fc.Nodup
  ap : ∀ b, b ∈ fc → b ∉ fp'
  nw : ∀ b, b ∈ fc → b ∈ fp0 ∨ H0 b = none
def TnA (K : PySem.W.Frag) (cls : Str → Option Addr) (W : WX) (m : M C) (F : Hp) (fp : List Addr) (δ : Sl) (σ : L2.St) (H : Hp) (Q : VK) : Prop :=
  ER K F H σ δ fp ∧ ∃ r, m δ = some r ∧ Fin K cls W σ fp F H (fun c _ fp' F' H' => ∀ v fc, New K fp H fp' F' H' v c fc → Q v H') r
def tN (K : PySem.W.Frag) (cls : Str → Option Addr) (W : WX) (m : M C) : TE := fun σ H Q => ∃ F fp δ, TnA K cls W m F fp δ σ H Q
abbrev DN (X : Cx) (cls : Str → Option Addr) (W : WX) (e : Expr) (m : M C) : Prop := PE X e (tN X.K cls W m)
section
variable {K : PySem.W.Frag} {cls : Str → Option Addr} {W : WX} {σ : L2.St} {H F H1 F1 : Hp} {fp fp1 : List Addr} {δ δ1 : Sl} {D : Ends} {α β : Type} {Rel : Hp → β → α → Prop} {Q : VK}
theorem Go.back {fp fp1 : List Addr} {F H F1 H1 : Hp} (g : Go fp F H fp1 F1 H1) {b : Addr} (h : b ∈ fp1 ∨ H1 b = none) : b ∈ fp ∨ H b = none := by
  rcases h with h | h
  · exact g.ow b h
  · by_cases hb : b ∈ fp
    · exact .inl hb
    · cases q : H b with
      | none => exact .inr rfl
      | some o => rw [g.kp b o hb q] at h; cases h
theorem New.back {fp' : List Addr} {F' H' : Hp} {v : V} {c : C} {fc : List Addr} (g : Go fp F H fp1 F1 H1) (n : New K fp1 H1 fp' F' H' v c fc) : New K fp H fp' F' H' v c fc :=
  ⟨n.rep, n.nd, n.ap, fun b hb => g.back (n.nw b hb)⟩
theorem TnA.tn {m : M C} (h : TnA K cls W m F fp δ σ H Q) : tN K cls W m σ H Q := ⟨F, fp, δ, h⟩
theorem Tn.mono {m : M C} {Q' : VK} (h : tN K cls W m σ H Q) (i : ∀ v H', Q v H' → Q' v H') : tN K cls W m σ H Q' := by
  obtain ⟨F, fp, δ, E, r, hm, hf⟩ := h
  refine ⟨F, fp, δ, E, r, hm, ?_⟩
  cases r with
  | ok x d => exact fun fp' F' H' g' E' v fc n => i _ _ (hf fp' F' H' g' E' v fc n)
  | ex n fs d => exact hf
theorem tn_bnd {m : M α} {k : α → M C} (h : TnA K cls W (bnd m k) F fp δ σ H Q) :
    TmA K cls W Rel m F fp δ σ H (fun v H1 => ∃ x F1 fp1 δ1, Rel F1 v x ∧ Same F F1 ∧ Go fp F H fp1 F1 H1 ∧ TnA K cls W (k x) F1 fp1 δ1 σ H1 Q) := by
  obtain ⟨E, r, hm, hf⟩ := h
  unfold bnd at hm
  cases e : m δ with
  | none => rw [e] at hm; cases hm
  | some r1 =>
    rw [e] at hm
    cases r1 with
    | ok x δ1 =>
      refine ⟨E, _, e, fun fp' F' H' g E' v rel => ⟨x, F', fp', δ1, rel, g.fz, g, E', r, hm, ?_⟩⟩
      have q := hf.go g
      cases r with
      | ok c δ2 => exact fun fp2 F2 H2 g2 E2 w fc n => q fp2 F2 H2 g2 E2 w fc (n.back g)
      | ex n fs δ2 => exact q
    | ex n fs δ1 =>
      cases hm
      exact ⟨E, _, e, hf⟩
theorem tn_ret {c : C} (h : TnA K cls W (ret c) F fp δ σ H Q) : ER K F H σ δ fp ∧ ∀ F' H', Ext F H F' H' → ∀ v fc, New K fp H fp F' H' v c fc → Q v H' := by
  obtain ⟨E, r, hm, hf⟩ := h
  cases hm
  exact ⟨E, fun F' H' g v fc n => hf fp F' H' g.go (E.ext g) v fc n⟩
/-- a list made just now -/
theorem New.lst {p : Addr} {vs : List V} {ds : List PyData} (E : ER K F H σ δ fp) (n : H p = none) (ha : DpAll K F vs ds) : New K fp H fp F (upd H p (.lst vs)) (.ref p) (.ow ds) [p] :=
  ⟨.ow upd_same (E.sub.free n) ha, by simp, (fun b hb z => by
    obtain rfl : b = p := by simpa using hb
    obtain ⟨_, o, e⟩ := E.rep.there _ z
    rw [n] at e; cases e), (fun b hb => by
    obtain rfl : b = p := by simpa using hb
    exact .inr n)⟩
end
section
variable {X : Cx} {cls : Str → Option Addr} {W : WX} {pos pos' p : Pos} {e : Expr} {es : List Expr} {me : M PyData} {ma : M (List PyData)}
theorem dn_sh (he : DE X cls W e me) : DN X cls W e (bnd me fun d => ret (.sh d)) := by
  refine pe_imp he fun σ H Q h => ?_
  obtain ⟨F, fp, δ, h⟩ := h
  refine Tm.mono (TmA.tm (tn_bnd h)) fun v H1 ⟨d, F1, fp1, δ1, rx, s1, _, h1⟩ => ?_
  obtain ⟨E, q⟩ := tn_ret h1
  exact q F1 H1 (Ext.refl E.sub) v [] ⟨.sh rx, by simp, fun b hb => by simp at hb, fun b hb => by simp at hb⟩
def owM (ds : List PyData) : M C := fun δ => if ds.length ≤ sizeLine then some (.ok (.ow ds) δ) else none
theorem tn_ow {K : PySem.W.Frag} {σ : L2.St} {H F : Hp} {fp : List Addr} {δ : Sl} {Q : VK} {ds : List PyData} {vs : List V} (h : TnA K cls W (owM ds) F fp δ σ H Q) (ha : DpAll K F vs ds) : vs.length ≤ sizeLine ∧ ∀ p, H p = none → Q (.ref p) (upd H p (.lst vs)) := by
  obtain ⟨E, r, hm, hf⟩ := h
  unfold owM at hm
  split at hm
  · rename_i hl
    cases hm
    refine ⟨by rw [dpa_len ha]; exact hl, fun p n => ?_⟩
    have x := Ext.lost (o := .lst vs) E.sub n
    exact hf fp F _ x.go (E.ext x) _ [p] (New.lst E n ha)
  · cases hm
theorem dn_lst (h : DA X cls W es ma) : DN X cls W (.List es pos) (bnd ma owM) := by
  refine pe_imp (pe_lst h) fun σ H Q h => ?_
  obtain ⟨F, fp, δ, h⟩ := h
  refine Tm.mono (TmA.tm (tn_bnd h)) fun v H1 ⟨ds, F1, fp1, δ1, rx, s1, _, h1⟩ => ?_
  exact tn_ow h1 rx
def seqOf : PyData → Option (List PyData)
  | .list xs => some xs
  | .tuple xs => some xs
  | _ => none
theorem dn_list {x : Str} (hm : X.mg x = none) (hv : bootBuiltins x = some (.type "list")) (he : DE X cls W e me) (hg : Gl X x := by rfl) (hn : x ≠ "__name__" := by decide) (hdb : (x == ("__debug__" : Str)) = false := by decide)
    (hs : starEach [e] X.env = (false, eval e X.env) :: starEach [] X.env := by rfl) (hpl : (backTo pos (starEach [] X.env)).any (·.1) = false := by rfl) :
    DN X cls W (.Call (.Name x p) [e] [] pos) (bnd me fun d => bnd (lft (seqOf d)) owM) := by
  refine pe_imp (pe_callTy call_list_of hg hm hv (pa_cons he pa_nil hs) hn hdb hs hpl) fun σ H Q h => ?_
  obtain ⟨F, fp, δ, h⟩ := h
  refine Tm.mono (TmA.tm (tn_bnd (Rel := Dp X.K) h)) fun v H1 ⟨d, F1, fp1, δ1, rx, s1, _, E1, r, hm, hf⟩ => ?_
  cases rx with
  | lst hq ha =>
    obtain ⟨q1, q2⟩ := tn_ow (h := ⟨E1, r, (by simpa [bnd, lft, seqOf] using hm), hf⟩) ha
    exact ⟨_, _, rfl, .inl (E1.sub.seq hq), q2⟩
  | tup hq ha =>
    obtain ⟨q1, q2⟩ := tn_ow (h := ⟨E1, r, (by simpa [bnd, lft, seqOf] using hm), hf⟩) ha
    exact ⟨_, _, rfl, .inr (Same.tup E1.sub hq), q2⟩
  | _ => simp [bnd, lft, seqOf] at hm
/-- o.split(e), a list of one's own -/
theorem dn_split {apos : Pos} {o : Expr} {mo : M PyData} (ho : DE X cls W o mo) (he : DE X cls W e me) (hs : starEach [e] X.env = [(false, eval e X.env)] := by rfl) (hbase : attributeBase o "split" X.env (eval o X.env) = eval o X.env := by rfl) (hline : (apos.endLine == pos.line) = true := by rfl) :
    DN X cls W (.Call (.Attribute o "split" apos) [e] [] pos) (bnd mo fun d => if isStr d = true then bnd me fun d' => bnd (lft ((splitD d d').bind seqOf)) owM else fun _ => none) := by
  refine pe_imp (pe_m1 PySem.F.slot_str_split PySem.F.type_str_split mt_split ho he hs hbase hline) fun σ H Q h => ?_
  obtain ⟨F, fp, δ, h⟩ := h
  refine Tm.mono (TmA.tm (tn_bnd (Rel := Dp X.K) h)) fun v H1 ⟨d, F1, fp1, δ1, rx, s1, _, h1⟩ => ?_
  cases rx with
  | str a =>
    refine ⟨⟨a, rfl⟩, Tm.mono (TmA.tm (tn_bnd (k := fun d' => bnd (lft ((splitD (.str a) d').bind seqOf)) owM) (Rel := Dp X.K) h1)) fun w H2 ⟨y, F2, fp2, δ2, ry, s2, _, E2, r, hm, hf⟩ => ?_⟩
    cases ry with
    | str b =>
      by_cases hc : (b.length == 0) = false ∧ a.length + 2 ≤ sizeLine
      · have e1 : splitD (.str a) (.str b) = some (.list ((Txt.split a b).map .str)) := if_pos hc
        rw [e1] at hm
        obtain ⟨q1, q2⟩ := tn_ow (h := ⟨E2, r, (by simpa [bnd, lft, seqOf] using hm), hf⟩) (dpa_of_strs _)
        exact ⟨a, b, rfl, rfl, hc.1, hc.2, q2⟩
      · have e1 : splitD (.str a) (.str b) = none := if_neg hc
        rw [e1] at hm
        cases hm
    | _ => simp [bnd, lft, splitD] at hm
  | _ =>
    obtain ⟨_, r, hm, _⟩ := h1
    cases hm
end

/-! ### names that get them -/
def putC (i : Nat) (c : C) : M Ctl := fun δ => if i < δ.length then some (.ok .nx (δ.set i c)) else none
def putC2 (i j : Nat) (c c' : C) : M Ctl := fun δ => if i < δ.length ∧ j < δ.length then some (.ok .nx ((δ.set i c).set j c')) else none
section
variable {K : PySem.W.Frag} {cls : Str → Option Addr} {W : WX} {σ : L2.St} {H F H1 F1 : Hp} {fp fp1 : List Addr} {δ δ1 : Sl} {D : Ends}
theorem New.put {H0 : Hp} {fp0 : List Addr} {v : V} {c : C} {fc : List Addr} {i : Nat} (E : ER K F H σ δ fp) (n : New K fp0 H0 fp F H v c fc) (hi : i < δ.length) :
    ∃ fp', ER K F H (σ.set i (some v)) (δ.set i c) fp' ∧ ∀ b, b ∈ fp' → b ∈ fp ∨ b ∈ fc :=
  E.put hi E.sub (Same.refl _) (fun _ _ _ h => h) E.free n.rep n.nd n.ap
theorem tsn_bnd {m : M C} {k : C → M Ctl} {fp0 : List Addr} {F0 H0 : Hp} {r : Rs Ctl} (g0 : Go fp0 F0 H0 fp F H) (E : ER K F H σ δ fp) (hm : bnd m k δ = some r) (hf : FinS K cls W fp0 F0 H0 D r) :
    TnA K cls W m F fp δ σ H (fun v H1 => ∃ c F1 fp1 δ1 fc, New K fp H fp1 F1 H1 v c fc ∧ Go fp F H fp1 F1 H1 ∧ ER K F1 H1 σ δ1 fp1 ∧ k c δ1 = some r) := by
  unfold bnd at hm
  cases e : m δ with
  | none => rw [e] at hm; cases hm
  | some r1 =>
    rw [e] at hm
    cases r1 with
    | ok x δ1 => exact ⟨E, _, e, fun fp' F' H' g E' v fc n => ⟨x, F', fp', δ1, fc, n, g, E', hm⟩⟩
    | ex n fs δ1 =>
      cases hm
      exact ⟨E, _, e, fun Cx dd fp' F' H' c g E x => hf Cx dd σ fp' F' H' c (g0.trans g) E (x.back g0)⟩
/-- a new value outlives what is done behind it -/
theorem New.stay {H0 : Hp} {fp0 : List Addr} {v : V} {c : C} {fc : List Addr} (n : New K fp0 H0 fp F H v c fc) (g : Go fp F H fp1 F1 H1) : New K fp0 H0 fp1 F1 H1 v c fc := by
  have th := n.rep.there
  refine ⟨n.rep.tr g.fz (fun b o hb e => g.kp b o (n.ap b hb) e) (fun b hb => ?_), n.nd, fun b hb z => ?_, n.nw⟩
  · cases q : F1 b with
    | none => rfl
    | some u =>
      obtain ⟨f0, o, e⟩ := th b hb
      rcases g.nw b f0 (by rw [q]; exact fun z => nomatch z) with z | z
      · rw [e] at z; cases z
      · exact absurd z (n.ap b hb)
  · obtain ⟨f0, o, e⟩ := th b hb
    rcases g.ow b z with z | z
    · exact n.ap b hb z
    · rw [e] at z; cases z
end
section
variable {X : Cx} {cls : Str → Option Addr} {W : WX} {pos px py pt : Pos} {e a b : Expr} {m m1 m2 : M C}
/-- x = e -/
theorem ds_setN (i : Nat) {x : Str} (hN : X.N.Nodup) (he : DN X cls W e m) (hi : X.N[i]? = some x := by rfl) (hx : Loc X.env.scope x := by first | exact .inl rfl | exact .inr rfl) (hs : swapsWith e (some (.Name x px)) pos.line X.env = pure false := by rfl)
    (hf : X.fn x = true ∨ X.env.scope.names.lookup x = some .local := by first | exact .inl rfl | exact .inr rfl | assumption) :
    DS X cls W (.Assign [.Name x px] e pos) (bnd m (putC i)) := by
  refine ps_imp (ps_set hN hi hx he hs hf) fun D σ H h => ?_
  obtain ⟨F, fp, δ, E, r, hm, hf⟩ := h
  refine Tn.mono (TnA.tn (tsn_bnd (Go.refl _ _ _) E hm hf)) fun v H1 ⟨c, F1, fp1, δ1, fc, n, g, E1, hm⟩ => ?_
  unfold putC at hm
  split at hm
  · rename_i hl
    cases hm
    obtain ⟨fp', E', h'⟩ := n.put E1 hl
    refine hf _ fp' F1 H1 ⟨g.fz, g.kp, g.nw, fun b hb => ?_, g.al⟩ E'
    rcases h' b hb with z | z
    · exact g.ow b z
    · exact n.nw b z
  · cases hm
/-- x, y = a, b with plain local names -/
theorem ds_par (i j : Nat) {x y : Str} {kt k2 : Nat} {pt2 : Pos} (hc : X.calm = true) (hN : X.N.Nodup) (ha : DN X cls W a m1) (hb : DN X cls W b m2)
    (hw : swappedStores [.Tuple [.Name x px, .Name y py] kt pt] (.Tuple [a, b] k2 pt2) X.env = pure (some [x, y])) (hi : X.N[i]? = some x := by rfl) (hj : X.N[j]? = some y := by rfl) (hij : i ≠ j := by decide) (hx : X.env.scope.names.lookup x = some .local := by rfl) (hy : X.env.scope.names.lookup y = some .local := by rfl)
    (hs : swapsWithSole [.Tuple [.Name x px, .Name y py] kt pt] (.Tuple [a, b] k2 pt2) pos.line X.env = pure false := by rfl)
    (hs1 : starEach [a, b] X.env = (false, eval a X.env) :: starEach [b] X.env := by rfl) (hs2 : starEach [b] X.env = (false, eval b X.env) :: starEach [] X.env := by rfl) :
    DS X cls W (.Assign [.Tuple [.Name x px, .Name y py] kt pt] (.Tuple [a, b] k2 pt2) pos) (bnd m1 fun c => bnd m2 fun c' => putC2 i j c c') := by
  refine ps_imp (ps_par hc hN hi hj hij hx hy (pa_cons ha (pa_cons hb pa_nil hs2) hs1) hw hs) fun D σ H h => ?_
  obtain ⟨F, fp, δ, E, r, hm, hf⟩ := h
  refine Tn.mono (TnA.tn (tsn_bnd (Go.refl _ _ _) E hm hf)) fun v H1 ⟨c, F1, fp1, δ1, fc, n, g, E1, hm⟩ => ?_
  refine Tn.mono (TnA.tn (tsn_bnd g E1 hm hf)) fun w H2 ⟨c', F2, fp2, δ2, fc', n', g', E2, hm⟩ => ?_
  refine ⟨v, w, rfl, ?_⟩
  have n2 := n.stay g'
  have gg := g.trans g'
  unfold putC2 at hm
  split at hm
  · rename_i hl
    cases hm
    obtain ⟨fp3, E3, h3⟩ := n2.put E2 hl.1
    have ap : ∀ b, b ∈ fc' → b ∉ fp3 := fun b hb z => by
      rcases h3 b z with z | z
      · exact n'.ap b hb z
      · rcases n'.nw b hb with q | q
        · exact n.ap b z q
        · obtain ⟨_, o, e⟩ := n.rep.there b z
          rw [q] at e; cases e
    obtain ⟨fp4, E4, h4⟩ := E3.put (i := j) (by simpa using hl.2) E3.sub (Same.refl _) (fun _ _ _ h => h) E3.free n'.rep n'.nd ap
    refine hf _ fp4 F2 H2 ⟨gg.fz, gg.kp, gg.nw, fun b hb => ?_, gg.al⟩ E4
    rcases h4 b hb with z | z
    · rcases h3 b z with z | z
      · exact gg.ow b z
      · exact n.nw b z
    · exact g.back (n'.nw b z)
  · cases hm
end
end DL

set_option maxRecDepth 100000
set_option maxHeartbeats 1000000
/-! DL11: the pen, dicts of one's own, targets, powers. -/
namespace DL
open PySem PySem.Spec PyProof.Rows L2 RZ
variable [CC : ClsCtx] [XC : XcCtx]

def powD : PyData → PyData → Option PyData
  | .int i, .int j => if 0 ≤ j ∧ j ≤ 1000000 ∧ i.natAbs < 2 ^ 64 then some (.int (i ^ j.toNat)) else none
  | _, _ => none
theorem od_pow {X : Cx} : OpD X (binaryOp .Pow) powD := by
  intro pins s σ H x y v u Q I rx ry h
  obtain ⟨F, d, e, z, hs, hx, hy, hz, q⟩ := h
  cases hx <;> cases hy <;> simp only [powD] at hz <;> try (cases hz; done)
  split at hz
  · rename_i hc
    cases hz
    exact op_pow pins s σ H _ _ v u Q I rx ry ⟨_, _, rfl, rfl, hc, q _ F H (Ext.refl hs) (.int _)⟩
  · cases hz

/-! ### the pen's keys -/
def Pen.get (P : Pen) (k : Str) : Option PyData :=
  if k = "cells" then some (.list (P.cells.map .int)) else if k = "at" then some (.int P.at_) else if k = "digits" then some (.int P.digits) else if k = "count" then some (.int P.count) else if k = "fold" then some (.int P.fold) else none
def Pen.put (P : Pen) (k : Str) (n : Int) : Option Pen :=
  if k = "at" then some { P with at_ := n } else if k = "digits" then some { P with digits := n } else if k = "count" then some { P with count := n } else if k = "fold" then some { P with fold := n } else none
section
variable {K : PySem.W.Frag} {F H : Hp} {σ : L2.St} {δ : Sl} {fp : List Addr} {i : Nat}
theorem valV_str {kvs : List (Key × V)} {k k2 : Str} {v : V} : valV ((Sum.inr k2, v) :: kvs) (Sum.inr k : Key) = if k2 = k then some v else valV kvs (Sum.inr k) := by
  by_cases e : k2 = k
  · rw [if_pos e]; exact valV_pos (congrArg Sum.inr e)
  · rw [if_neg e]; exact valV_neg fun z => e (by injection z)
theorem k_cells_at : ¬ (Str.ofString "cells" = Str.ofString "at") := by decide +kernel
theorem k_cells_digits : ¬ (Str.ofString "cells" = Str.ofString "digits") := by decide +kernel
theorem k_cells_count : ¬ (Str.ofString "cells" = Str.ofString "count") := by decide +kernel
theorem k_cells_fold : ¬ (Str.ofString "cells" = Str.ofString "fold") := by decide +kernel
theorem k_at_cells : ¬ (Str.ofString "at" = Str.ofString "cells") := by decide +kernel
theorem k_at_digits : ¬ (Str.ofString "at" = Str.ofString "digits") := by decide +kernel
theorem k_at_count : ¬ (Str.ofString "at" = Str.ofString "count") := by decide +kernel
theorem k_at_fold : ¬ (Str.ofString "at" = Str.ofString "fold") := by decide +kernel
theorem k_digits_cells : ¬ (Str.ofString "digits" = Str.ofString "cells") := by decide +kernel
theorem k_digits_at : ¬ (Str.ofString "digits" = Str.ofString "at") := by decide +kernel
theorem k_digits_count : ¬ (Str.ofString "digits" = Str.ofString "count") := by decide +kernel
theorem k_digits_fold : ¬ (Str.ofString "digits" = Str.ofString "fold") := by decide +kernel
theorem k_count_cells : ¬ (Str.ofString "count" = Str.ofString "cells") := by decide +kernel
theorem k_count_at : ¬ (Str.ofString "count" = Str.ofString "at") := by decide +kernel
theorem k_count_digits : ¬ (Str.ofString "count" = Str.ofString "digits") := by decide +kernel
theorem k_count_fold : ¬ (Str.ofString "count" = Str.ofString "fold") := by decide +kernel
theorem k_fold_cells : ¬ (Str.ofString "fold" = Str.ofString "cells") := by decide +kernel
theorem k_fold_at : ¬ (Str.ofString "fold" = Str.ofString "at") := by decide +kernel
theorem k_fold_digits : ¬ (Str.ofString "fold" = Str.ofString "digits") := by decide +kernel
theorem k_fold_count : ¬ (Str.ofString "fold" = Str.ofString "count") := by decide +kernel
theorem pen_val {ca : Addr} {P : Pen} {k : Str} {d : PyData} (h : P.get k = some d) (hs : SqL K F ca (P.cells.map V.int)) : ∃ v, valV (penKvs ca P) (Sum.inr k) = some v ∧ Dp K F v d := by
  unfold Pen.get at h
  unfold penKvs
  split at h
  · rename_i e; subst e; cases h
    exact ⟨_, by simp [valV_str, k_cells_at, k_cells_digits, k_cells_count, k_cells_fold, k_at_cells, k_at_digits, k_at_count, k_at_fold, k_digits_cells, k_digits_at, k_digits_count, k_digits_fold, k_count_cells, k_count_at, k_count_digits, k_count_fold, k_fold_cells, k_fold_at, k_fold_digits, k_fold_count], .lst hs (dpa_of_ints _)⟩
  · split at h
    · rename_i n1 e; subst e; cases h
      exact ⟨_, by simp [valV_str, k_cells_at, k_cells_digits, k_cells_count, k_cells_fold, k_at_cells, k_at_digits, k_at_count, k_at_fold, k_digits_cells, k_digits_at, k_digits_count, k_digits_fold, k_count_cells, k_count_at, k_count_digits, k_count_fold, k_fold_cells, k_fold_at, k_fold_digits, k_fold_count], .int _⟩
    · split at h
      · rename_i n1 n2 e; subst e; cases h
        exact ⟨_, by simp [valV_str, k_cells_at, k_cells_digits, k_cells_count, k_cells_fold, k_at_cells, k_at_digits, k_at_count, k_at_fold, k_digits_cells, k_digits_at, k_digits_count, k_digits_fold, k_count_cells, k_count_at, k_count_digits, k_count_fold, k_fold_cells, k_fold_at, k_fold_digits, k_fold_count], .int _⟩
      · split at h
        · rename_i n1 n2 n3 e; subst e; cases h
          exact ⟨_, by simp [valV_str, k_cells_at, k_cells_digits, k_cells_count, k_cells_fold, k_at_cells, k_at_digits, k_at_count, k_at_fold, k_digits_cells, k_digits_at, k_digits_count, k_digits_fold, k_count_cells, k_count_at, k_count_digits, k_count_fold, k_fold_cells, k_fold_at, k_fold_digits, k_fold_count], .int _⟩
        · split at h
          · rename_i n1 n2 n3 n4 e; subst e; cases h
            exact ⟨_, by simp [valV_str, k_cells_at, k_cells_digits, k_cells_count, k_cells_fold, k_at_cells, k_at_digits, k_at_count, k_at_fold, k_digits_cells, k_digits_at, k_digits_count, k_digits_fold, k_count_cells, k_count_at, k_count_digits, k_count_fold, k_fold_cells, k_fold_at, k_fold_digits, k_fold_count], .int _⟩
          · cases h
theorem pen_put {ca : Addr} {P P' : Pen} {k : Str} {n : Int} (h : P.put k n = some P') : putK (penKvs ca P) (Sum.inr k) (.int n) = penKvs ca P' ∧ P'.cells = P.cells := by
  unfold Pen.put at h
  split at h
  · rename_i e; subst e; cases h; exact ⟨by simp [penKvs, putK, k_cells_at, k_cells_digits, k_cells_count, k_cells_fold, k_at_cells, k_at_digits, k_at_count, k_at_fold, k_digits_cells, k_digits_at, k_digits_count, k_digits_fold, k_count_cells, k_count_at, k_count_digits, k_count_fold, k_fold_cells, k_fold_at, k_fold_digits, k_fold_count], rfl⟩
  · split at h
    · rename_i n1 e; subst e; cases h; exact ⟨by simp [penKvs, putK, k_cells_at, k_cells_digits, k_cells_count, k_cells_fold, k_at_cells, k_at_digits, k_at_count, k_at_fold, k_digits_cells, k_digits_at, k_digits_count, k_digits_fold, k_count_cells, k_count_at, k_count_digits, k_count_fold, k_fold_cells, k_fold_at, k_fold_digits, k_fold_count], rfl⟩
    · split at h
      · rename_i n1 n2 e; subst e; cases h; exact ⟨by simp [penKvs, putK, k_cells_at, k_cells_digits, k_cells_count, k_cells_fold, k_at_cells, k_at_digits, k_at_count, k_at_fold, k_digits_cells, k_digits_at, k_digits_count, k_digits_fold, k_count_cells, k_count_at, k_count_digits, k_count_fold, k_fold_cells, k_fold_at, k_fold_digits, k_fold_count], rfl⟩
      · split at h
        · rename_i n1 n2 n3 e; subst e; cases h; exact ⟨by simp [penKvs, putK, k_cells_at, k_cells_digits, k_cells_count, k_cells_fold, k_at_cells, k_at_digits, k_at_count, k_at_fold, k_digits_cells, k_digits_at, k_digits_count, k_digits_fold, k_count_cells, k_count_at, k_count_digits, k_count_fold, k_fold_cells, k_fold_at, k_fold_digits, k_fold_count], rfl⟩
        · cases h
/-- one object of one's own is written -/
theorem ER.wr1 (E : ER K F H σ δ fp) {c : C} {a : Addr} (hc : δ[i]? = some c) (hσ : σ[i]? = some (some (.ref a))) (h1 : ∀ {o : Option V} {fi : List Addr}, CRep K F H o c fi → ∃ b, o = some (.ref b) ∧ fi = [b] ∧ F b = none) :
    ∀ o' c', CRep K F (upd H a o') (some (.ref a)) c' [a] → ER K F (upd H a o') σ (δ.set i c') fp ∧ Go fp F H fp F (upd H a o') := by
  obtain ⟨o, fl, fi, fr, h2, h3, h4, h5⟩ := E.rep.at hc
  obtain ⟨b, rfl, rfl, n⟩ := h1 h3
  rw [hσ] at h2
  cases h2
  have nd := E.nd
  have hna : ∀ b, b ∈ fl ++ fr → b ≠ a := fun b hb e => by
    subst e
    rw [h4, List.nodup_append] at nd
    rcases List.mem_append.mp hb with q | q
    · exact nd.2.2 b q b (by simp) rfl
    · have := nd.2.1
      rw [List.nodup_append] at this
      exact this.2.2 b (by simp) b q rfl
  intro o' c' cr
  refine ⟨⟨fun b u e => by rw [upd_ne fun z => by rw [z, n] at e; cases e]; exact E.sub b u e, ?_, E.nd⟩, ⟨Same.refl _, fun b u hb e => by rw [upd_ne fun z => hb (by rw [z, h4]; simp)]; exact e, fun b e z => absurd e z, fun _ h => .inl h, fun b u e => ?_⟩⟩
  · have q := h5 (F' := F) (H' := upd H a o') (o' := some (.ref a)) (c' := c') (fi' := [a]) (Same.refl _) (fun b u hb e => by rw [upd_ne (hna b hb)]; exact e) (fun b hb => E.free b (by rw [h4]; rcases List.mem_append.mp hb with q | q <;> simp [q])) cr
    rw [set_same hσ, ← h4] at q
    exact q
  · by_cases hb : b = a
    · exact ⟨_, by rw [hb]; exact upd_same⟩
    · exact ⟨u, by rw [upd_ne hb]; exact e⟩
theorem crep_pen {o : Option V} {fi : List Addr} {p : Addr} {P : Pen} (h : CRep K F H o (.pen p P) fi) : ∃ b, o = some (.ref b) ∧ fi = [b] ∧ F b = none := by
  cases h with
  | pen h n r => exact ⟨_, rfl, rfl, n⟩
theorem crep_dk {o : Option V} {fi : List Addr} {P : List (Key × PyData)} (h : CRep K F H o (.dk P) fi) : ∃ b, o = some (.ref b) ∧ fi = [b] ∧ F b = none := by
  cases h with
  | dk h n _ r => exact ⟨_, rfl, rfl, n⟩
theorem ER.pen (E : ER K F H σ δ fp) {p : Addr} {P : Pen} (hc : δ[i]? = some (.pen p P)) : ∃ ca, σ[i]? = some (some (.ref p)) ∧ H p = some (.dK (penKvs ca P)) ∧ F p = none ∧ SqL K F ca (P.cells.map V.int) := by
  obtain ⟨o, fl, fi, fr, h2, h3, h4, h5⟩ := E.rep.at hc
  cases h3 with
  | pen h n r => exact ⟨_, h2, h, n, r⟩
end
def penGetM (i : Nat) (k : Str) : M PyData := fun δ => match δ[i]? with
  | some (.pen _ P) => match P.get k with
    | some d => some (.ok d δ)
    | none => none
  | _ => none
def penPutM (i : Nat) (k : Str) (d : PyData) : M Ctl := fun δ => match δ[i]?, d with
  | some (.pen p P), .int n => match P.put k n with
    | some P' => some (.ok .nx (δ.set i (.pen p P')))
    | none => none
  | _, _ => none
section
variable {X : Cx} {cls : Str → Option Addr} {W : WX} {pos p p2 pos' : Pos} {x k : Str} {j : Nat} {e : Expr} {me : M PyData} {i : Nat}
theorem noSl_str : NoSl (.Constant (.str k) j p2) := fun _ _ => rfl
/-- pen['k'] -/
theorem de_penGet (i : Nat) (hu : X.A.units + 1 < cLine) (hN : X.N[i]? = some x := by rfl) (hv : Vis X.env.scope x := by first | exact Or.inl rfl | exact Or.inr (Or.inl rfl) | exact Or.inr (Or.inr rfl)) (hd : (x == ("__debug__" : Str)) = false := by decide) (hcd : (x == ("__classdict__" : Str)) = false := by decide) :
    DE X cls W (.Subscript (.Name x p) (.Constant (.str k) j p2) pos) (penGetM i k) := by
  refine pe_imp (pe_dget hu (pv i hN hv hd hcd) pe_str noSl_str) fun σ H Q h => ?_
  obtain ⟨F, fp, δ, E, r, hm, hf⟩ := h
  unfold penGetM at hm
  split at hm
  · rename_i a P hc
    split at hm
    · rename_i d hg
      cases hm
      obtain ⟨ca, hσ, ha, hn, hq⟩ := E.pen hc
      obtain ⟨v, e1, e2⟩ := pen_val hg hq
      exact ⟨_, hσ, a, v, rfl, by rw [← e1]; exact DGet.k (k := Sum.inr k) ha, hf fp F H (Go.refl _ _ _) E v e2⟩
    · cases hm
  · cases hm
/-- pen['k'] = e -/
theorem ds_penPut (i : Nat) (hu : X.A.units + 1 < cLine) (he : DE X cls W e me) (hN : X.N[i]? = some x := by rfl) (hv : Vis X.env.scope x := by first | exact Or.inl rfl | exact Or.inr (Or.inl rfl) | exact Or.inr (Or.inr rfl)) (hd : (x == ("__debug__" : Str)) = false := by decide) (hcd : (x == ("__classdict__" : Str)) = false := by decide)
    (hs : swapsWith e (some (.Subscript (.Name x p) (.Constant (.str k) j p2) pos')) pos.line X.env = pure false := by rfl) :
    DS X cls W (.Assign [.Subscript (.Name x p) (.Constant (.str k) j p2) pos'] e pos) (bnd me (penPutM i k)) := by
  refine ps_imp (ps_dput hu (pv i hN hv hd hcd) pe_str he hs) fun D σ H h => ?_
  obtain ⟨F, fp, δ, h⟩ := h
  refine Tm.mono (TmA.tm (ts_bnd (Rel := Dp X.K) h)) fun v H1 ⟨d, F1, fp1, δ1, rx, s1, _, E1, r, hm, hf⟩ => ?_
  unfold penPutM at hm
  split at hm
  · rename_i a P n hc
    split at hm
    · rename_i P' hg
      cases hm
      cases rx
      obtain ⟨ca, hσ, ha, hn, hq⟩ := E1.pen hc
      obtain ⟨e1, e2⟩ := pen_put (ca := ca) hg
      obtain ⟨E2, g2⟩ := E1.wr1 hc hσ crep_pen (.dK (penKvs ca P')) (.pen a P') (.pen upd_same hn (by rw [e2]; exact hq))
      have := DPut.k (k := Sum.inr k) (v := .int n) ha (by show 5 < sizeLine; rw [sizeLine_eq]; omega)
      rw [e1] at this
      exact ⟨_, hσ, a, _, rfl, this, hf σ fp1 F1 _ g2 E2⟩
    · cases hm
  · cases hm
end

/-! ### dicts of one's own, read -/
def dkLook (kvs : List (Key × PyData)) (k : Key) : Option PyData := (kvs.find? fun kv => decide (kv.1 = k)).map (·.2)
def keyD : PyData → Option Key
  | .int i => some (.inl i)
  | .str s => some (.inr s)
  | _ => none
section
variable {K : PySem.W.Frag} {F H : Hp} {σ : L2.St} {δ : Sl} {fp : List Addr} {i : Nat}
theorem key_of {v : V} {d : PyData} {k : Key} (h : Dp K F v d) (e : keyD d = some k) : v = kV k := by
  cases h <;> cases e <;> rfl
theorem dk_look : ∀ {kvv : List (Key × V)} {kvs : List (Key × PyData)} (k : Key), kvv.map (·.1) = kvs.map (·.1) → DpAll K F (kvv.map (·.2)) (kvs.map (·.2)) → (dkLook kvs k = none → valV kvv k = none) ∧ ∀ d, dkLook kvs k = some d → ∃ v, valV kvv k = some v ∧ Dp K F v d
  | [], [], k, _, _ => ⟨fun _ => rfl, fun d h => by cases h⟩
  | [], _ :: _, k, h, _ => by cases h
  | _ :: _, [], k, h, _ => by cases h
  | (k1, v1) :: r1, (k2, d2) :: r2, k, h, g => by
    simp only [List.map_cons] at h g
    injection h with h1 h2
    subst h1
    cases g with
    | cons g1 g2 =>
      obtain ⟨i1, i2⟩ := dk_look k h2 g2
      by_cases e : k1 = k
      · refine ⟨fun z => ?_, fun d z => ⟨v1, valV_pos e, ?_⟩⟩
        · simp [dkLook, List.find?_cons, e] at z
        · simp [dkLook, List.find?_cons, e] at z; subst z; exact g1
      · have z1 : dkLook ((k1, d2) :: r2) k = dkLook r2 k := by simp [dkLook, List.find?_cons, e]
        rw [z1, valV_neg e]
        exact ⟨i1, i2⟩
theorem ER.dk (E : ER K F H σ δ fp) {kvs : List (Key × PyData)} (hc : δ[i]? = some (.dk kvs)) : ∃ a kvv, σ[i]? = some (some (.ref a)) ∧ H a = some (.dK kvv) ∧ F a = none ∧ kvv.map (·.1) = kvs.map (·.1) ∧ DpAll K F (kvv.map (·.2)) (kvs.map (·.2)) := by
  obtain ⟨o, fl, fi, fr, h2, h3, h4, h5⟩ := E.rep.at hc
  cases h3 with
  | dk h n e r => exact ⟨_, _, h2, h, n, e, r⟩
end
def dkM {α : Type} (i : Nat) (f : List (Key × PyData) → Option α) : M α := fun δ => match δ[i]? with
  | some (.dk kvs) => match f kvs with
    | some z => some (.ok z δ)
    | none => none
  | _ => none
section
variable {X : Cx} {cls : Str → Option Addr} {W : WX} {pos p p2 pos' : Pos} {x k : Str} {j : Nat} {e : Expr} {me : M PyData} {i : Nat}
theorem dkM_of {α : Type} {f : List (Key × PyData) → Option α} {δ : Sl} {r : Rs α} (h : dkM i f δ = some r) : ∃ kvs z, δ[i]? = some (.dk kvs) ∧ f kvs = some z ∧ r = .ok z δ := by
  unfold dkM at h
  split at h
  · rename_i kvs e
    split at h
    · rename_i z e2; cases h; exact ⟨kvs, z, e, e2, rfl⟩
    · cases h
  · cases h
/-- x[e], x a dict of one's own -/
theorem de_dkGet (i : Nat) (hu : X.A.units + 1 < cLine) (he : DE X cls W e me) (hs : NoSl e := by exact fun _ _ => rfl) (hN : X.N[i]? = some x := by rfl) (hv : Vis X.env.scope x := by first | exact Or.inl rfl | exact Or.inr (Or.inl rfl) | exact Or.inr (Or.inr rfl)) (hd : (x == ("__debug__" : Str)) = false := by decide) (hcd : (x == ("__classdict__" : Str)) = false := by decide) :
    DE X cls W (.Subscript (.Name x p) e pos) (dkM i (fun _ => some ()) |> fun m => bnd m fun _ => bnd me fun d => dkM i fun kvs => (keyD d).bind (dkLook kvs)) := by
  refine pe_imp (pe_dget hu (pv i hN hv hd hcd) he hs) fun σ H Q h => ?_
  obtain ⟨F, fp, δ, E, r, hm, hf⟩ := h
  have hm0 := hm
  unfold bnd at hm
  cases e0 : dkM i (fun _ => some ()) δ with
  | none => simp only [e0] at hm; cases hm
  | some r0 =>
    obtain ⟨kvs0, z, hc0, _, rfl⟩ := dkM_of e0
    simp only [e0] at hm
    obtain ⟨a0, kvv0, hσ, _⟩ := E.dk hc0
    refine ⟨_, hσ, Tm.mono (TmA.tm (tm_bnd (Rel := Dp X.K) (Rel2 := Dp X.K) ⟨E, r, hm, hf⟩)) fun v H1 ⟨d, F1, fp1, δ1, rx, s1, _, _, E1, r1, hm1, hf1⟩ => ?_⟩
    obtain ⟨kvs, z, hc, hk, rfl⟩ := dkM_of hm1
    obtain ⟨a, kvv, hσ', ha, hn, h1, h2⟩ := E1.dk hc
    rw [hσ] at hσ'
    cases hσ'
    cases ek : keyD d with
    | none => rw [ek] at hk; cases hk
    | some k =>
      rw [ek] at hk
      obtain ⟨w, e1, e2⟩ := (dk_look k h1 h2).2 z hk
      refine ⟨_, w, rfl, ?_, hf1 fp1 F1 H1 (Go.refl _ _ _) E1 w e2⟩
      rw [key_of rx ek, ← e1]
      exact DGet.k ha
theorem dkLook_none {kvv : List (Key × V)} {kvs : List (Key × PyData)} {K : PySem.W.Frag} {F : Hp} (k : Key) (h1 : kvv.map (·.1) = kvs.map (·.1)) (h2 : DpAll K F (kvv.map (·.2)) (kvs.map (·.2))) : (valV kvv k).isSome = (dkLook kvs k).isSome := by
  cases e : dkLook kvs k with
  | none => rw [(dk_look k h1 h2).1 e]; rfl
  | some d =>
    obtain ⟨v, e1, _⟩ := (dk_look k h1 h2).2 d e
    rw [e1]; rfl
/-- e in x, x a dict of one's own -/
theorem dt_dkIn (i : Nat) (hu : X.A.units + 1 < cLine) (he : DE X cls W e me) (hN : X.N[i]? = some x := by rfl) (hv : Vis X.env.scope x := by first | exact Or.inl rfl | exact Or.inr (Or.inl rfl) | exact Or.inr (Or.inr rfl)) (hd : (x == ("__debug__" : Str)) = false := by decide) (hcd : (x == ("__classdict__" : Str)) = false := by decide) :
    DT X cls W (.Compare e [.In] [.Name x p] pos) (bnd me fun d => dkM i fun kvs => (keyD d).map fun k => (dkLook kvs k).isSome) := by
  refine pt_imp (pt_cmp (pc_din hu he (pv i hN hv hd hcd)) rfl) fun σ H Q h => ?_
  obtain ⟨F, fp, δ, h⟩ := h
  refine Tm.mono (TmA.tm (tm_bnd (Rel := Dp X.K) h)) fun v H1 ⟨d, F1, fp1, δ1, rx, s1, _, _, E1, r, hm, hf⟩ => ?_
  obtain ⟨kvs, z, hc, hk, rfl⟩ := dkM_of hm
  obtain ⟨a, kvv, hσ, ha, hn, h1, h2⟩ := E1.dk hc
  cases ek : keyD d with
  | none => rw [ek] at hk; cases hk
  | some k =>
    rw [ek] at hk
    cases hk
    refine ⟨_, hσ, a, _, rfl, by rw [key_of rx ek]; exact DGet.k ha, _, rfl, ?_⟩
    exact hf fp1 F1 H1 (Go.refl _ _ _) E1 _ (dkLook_none k h1 h2)
theorem dt_dkNotIn (i : Nat) (hu : X.A.units + 1 < cLine) (he : DE X cls W e me) (hN : X.N[i]? = some x := by rfl) (hv : Vis X.env.scope x := by first | exact Or.inl rfl | exact Or.inr (Or.inl rfl) | exact Or.inr (Or.inr rfl)) (hd : (x == ("__debug__" : Str)) = false := by decide) (hcd : (x == ("__classdict__" : Str)) = false := by decide) :
    DT X cls W (.Compare e [.NotIn] [.Name x p] pos) (bnd me fun d => dkM i fun kvs => (keyD d).map fun k => !(dkLook kvs k).isSome) := by
  refine pt_imp (pt_cmp (pc_dnotin hu he (pv i hN hv hd hcd)) rfl) fun σ H Q h => ?_
  obtain ⟨F, fp, δ, h⟩ := h
  refine Tm.mono (TmA.tm (tm_bnd (Rel := Dp X.K) h)) fun v H1 ⟨d, F1, fp1, δ1, rx, s1, _, _, E1, r, hm, hf⟩ => ?_
  obtain ⟨kvs, z, hc, hk, rfl⟩ := dkM_of hm
  obtain ⟨a, kvv, hσ, ha, hn, h1, h2⟩ := E1.dk hc
  cases ek : keyD d with
  | none => rw [ek] at hk; cases hk
  | some k =>
    rw [ek] at hk
    cases hk
    refine ⟨_, hσ, a, _, rfl, by rw [key_of rx ek]; exact DGet.k ha, _, rfl, ?_⟩
    exact hf fp1 F1 H1 (Go.refl _ _ _) E1 _ (by rw [dkLook_none k h1 h2])
end

/-! ### dict displays -/
def dctM : List (Str × M PyData) → M (List (Key × PyData))
  | [] => ret []
  | (k, m) :: r => bnd m fun d => bnd (dctM r) fun ds => ret ((.inr k, d) :: ds)
def trsOf (K : PySem.W.Frag) (cls : Str → Option Addr) (W : WX) : List (Str × M PyData) → List (TE × TE)
  | [] => []
  | (k, m) :: r => (tC (.str k), tE K cls W m) :: trsOf K cls W r
def RelK (K : PySem.W.Frag) (F : Hp) (kvv : List (Key × V)) (kvs : List (Key × PyData)) : Prop := kvv.map (·.1) = kvs.map (·.1) ∧ DpAll K F (kvv.map (·.2)) (kvs.map (·.2))
theorem dct_run {K : PySem.W.Frag} {cls : Str → Option Addr} {W : WX} {σ : L2.St} : ∀ (l : List (Str × M PyData)) {F H : Hp} {fp : List Addr} {δ : Sl} {Q : List (Key × V) → Hp → Prop} {Q' : List (V × V) → Hp → Prop}, TmA K cls W (RelK K) (dctM l) F fp δ σ H Q →
    (∀ kvv H', Q kvv H' → Q' (kvv.map fun kv => (kV kv.1, kv.2)) H') → tPairs (trsOf K cls W l) σ H Q'
  | [], F, H, fp, δ, Q, Q', h, i => by
    obtain ⟨E, q⟩ := tm_ret h
    exact i [] H (q F H (Ext.refl E.sub) [] ⟨rfl, .nil⟩)
  | (k, m) :: r, F, H, fp, δ, Q, Q', h, i => by
    refine Tm.mono (TmA.tm (tm_bnd (Rel := Dp K) h)) fun v H1 ⟨d, F1, fp1, δ1, rx, s1, _, _, h1⟩ => ?_
    refine dct_run r (tm_bnd (Rel := RelK K) h1) fun kvv H2 ⟨ds, F2, fp2, δ2, ry, s2, _, _, h2⟩ => ?_
    obtain ⟨E, q⟩ := tm_ret h2
    exact i ((.inr k, v) :: kvv) H2 (q F2 H2 (Ext.refl E.sub) _ ⟨by simp [ry.1], .cons (dp_mono s2 _ rx) ry.2⟩)
theorem mergeK_nodup : ∀ (more acc : List (Key × V)), ((acc ++ more).map (·.1)).Nodup → mergeK acc more = acc ++ more
  | [], acc, _ => by simp [mergeK]
  | p :: r, acc, h => by
    have hn : (acc.any fun kv => decide (kv.1 = p.1)) = false := by
      rw [List.any_eq_false]
      intro kv hk e
      rw [List.map_append, List.nodup_append] at h
      exact h.2.2 kv.1 (List.mem_map_of_mem hk) p.1 (by simp) (by simpa using e)
    have e1 : putK acc p.1 p.2 = acc ++ [p] := by
      unfold putK
      rw [hn]
      rfl
    have := mergeK_nodup r (acc ++ [p]) (by simpa using h)
    simp only [mergeK, List.foldl_cons] at this ⊢
    rw [e1, this]
    simp
theorem dctM_keys : ∀ {l : List (Str × M PyData)} {δ δ' : Sl} {kvs : List (Key × PyData)}, dctM l δ = some (.ok kvs δ') → kvs.map (·.1) = l.map fun p => Sum.inr p.1
  | [], δ, δ', kvs, h => by cases h; rfl
  | (k, m) :: r, δ, δ', kvs, h => by
    simp only [dctM, bnd] at h
    split at h
    · cases h
    · cases h
    · split at h
      · cases h
      · cases h
      · rename_i e
        cases h
        simp [dctM_keys e]
section
variable {X : Cx} {cls : Str → Option Addr} {W : WX} {pos p2 : Pos} {keys : List (Option Expr)} {values : List Expr} {l : List (Str × M PyData)} {k : Str} {j : Nat} {e : Expr} {me : M PyData}
theorem dps_nil : PPs X pos [] [] (trsOf X.K cls W []) := pps_nil
theorem dps_cons (he : DE X cls W e me) (hr : PPs X pos keys values (trsOf X.K cls W l)) : PPs X pos (some (.Constant (.str k) j p2) :: keys) (e :: values) (trsOf X.K cls W ((k, me) :: l)) := pps_cons pe_str he hr
/-- {'k': e, ..}, a dict of one's own -/
theorem dn_dict (h : PPs X pos keys values (trsOf X.K cls W l)) (hnd : (l.map (·.1)).Nodup) (hall : keys.all (·.isSome) = true := by rfl) (hl : keys.length = values.length := by rfl) (h0 : keys ≠ [] := by exact List.cons_ne_nil _ _) (h15 : keys.length ≤ 15 := by decide) (hl2 : l.length ≤ 15 := by decide) :
    DN X cls W (.Dict keys values pos) (bnd (dctM l) fun kvs => ret (.dk kvs)) := by
  refine pe_imp (pe_disp h hall hl h0 h15) fun σ H Q h => ?_
  obtain ⟨F, fp, δ, E, r, hm, hf⟩ := h
  intro p hp
  have x0 : Ext F H F (upd H p (.dK [])) := Ext.lost E.sub hp
  have E0 := E.ext x0
  have pfp : p ∉ fp := fun hb => by
    obtain ⟨_, o, e⟩ := E.rep.there p hb
    rw [hp] at e; cases e
  have g0 : Go fp F H fp F (upd H p (.dK [])) := x0.go
  have Fp : F p = none := E.sub.free hp
  -- what is made of it
  have key : TmA X.K cls W (RelK X.K) (dctM l) F fp δ σ (upd H p (.dK [])) (fun kvv H1 => ∃ kvs F1 fp1 δ1, RelK X.K F1 kvv kvs ∧ Go fp F (upd H p (.dK [])) fp1 F1 H1 ∧ ER X.K F1 H1 σ δ1 fp1 ∧ dctM l δ = some (.ok kvs δ1) ∧ r = .ok (.dk kvs) δ1) := by
    refine ⟨E0, ?_⟩
    unfold bnd at hm
    cases e : dctM l δ with
    | none => rw [e] at hm; cases hm
    | some r1 =>
      rw [e] at hm
      refine ⟨r1, rfl, ?_⟩
      cases r1 with
      | ex n fs δ1 => cases hm; exact fun Cx dd fp' F' H' c g E x => hf Cx dd fp' F' H' c (g0.trans g) E (x.back g0)
      | ok kvs δ1 => cases hm; exact fun fp' F' H' g E v rel => ⟨kvs, F', fp', δ1, rel, g, E, rfl, rfl⟩
  refine dct_run l key fun kvv H1 ⟨kvs, F1, fp1, δ1, ⟨r1, r2⟩, g1, E1, em, er⟩ => ?_
  subst er
  have hk := dctM_keys em
  have hp1 : H1 p = some (.dK []) := g1.kp p _ pfp upd_same
  have hlen : kvv.length = l.length := by
    have := congrArg List.length (r1.trans hk)
    simpa using this
  refine ⟨hp1, kvv, rfl, by omega, ?_⟩
  have em2 : mergeK [] kvv = kvv := mergeK_nodup kvv [] (by
    rw [List.nil_append, r1, hk]
    have e3 : (l.map fun p => (Sum.inr p.1 : Key)) = (l.map (·.1)).map Sum.inr := by simp
    rw [e3]
    unfold List.Nodup
    rw [List.pairwise_map]
    exact hnd.imp fun z e => z (by injection e))
  rw [em2]
  have F1p : F1 p = none := by
    cases q : F1 p with
    | none => rfl
    | some u =>
      rcases g1.nw p Fp (by rw [q]; exact fun z => nomatch z) with z | z
      · rw [upd_same] at z; cases z
      · exact absurd z pfp
  have pfp1 : p ∉ fp1 := fun hb => by
    rcases g1.ow p hb with z | z
    · exact pfp z
    · rw [upd_same] at z; cases z
  have g2 := (g0.trans g1).aside (o := .dK kvv) hp
  exact hf fp1 F1 _ g2 (E1.aside F1p pfp1) _ [p] ⟨.dk upd_same F1p r1 r2, by simp, (fun b hb => by
    obtain rfl : b = p := by simpa using hb
    exact pfp1), (fun b hb => by
    obtain rfl : b = p := by simpa using hb
    exact .inr hp)⟩
def asgM (t : Tgt) (d : PyData) : M Ctl := fun δ => (Tgt.set t d δ).map fun δ1 => .ok .nx δ1
/-- target = e -/
theorem ds_asgT (t : Tgt) {tg : Expr} (he : DE X cls W e me) (hg : PG X tg (Tgt.tg X.K t)) (hs : swapsWithSole [tg] e pos.line X.env = pure false := by rfl) (hw : swappedStores [tg] e X.env = pure none := by rfl)
    (h1 : (assignEach [tg] X.env).map (·.2) = [assign tg X.env] := by rfl) : DS X cls W (.Assign [tg] e pos) (bnd me (asgM t)) := by
  refine ps_imp (ps_asg he hg hs hw h1) fun D σ H h => ?_
  obtain ⟨F, fp, δ, h⟩ := h
  refine Tm.mono (TmA.tm (ts_bnd (Rel := Dp X.K) h)) fun v H1 ⟨d, F1, fp1, δ1, rx, s1, _, E1, r, hm, hf⟩ => ?_
  unfold asgM at hm
  cases e2 : Tgt.set t d δ1 with
  | none => rw [e2] at hm; cases hm
  | some δ2 =>
    rw [e2] at hm
    cases hm
    exact tgt_run t E1 rx e2 fun σ' fp' g E' _ => hf σ' fp' F1 H1 g E'
end
end DL

set_option maxRecDepth 100000
set_option maxHeartbeats 1000000
/-! DL12: defs: their promises from their bodies; defs that get the pen. -/
namespace DL
open PySem PySem.Spec PyProof.Rows L2 RZ
variable [CC : ClsCtx] [XC : XcCtx]

def startD (n : Nat) (cs : List C) : Sl := cs ++ List.replicate (n - cs.length) .un
section
variable {K : PySem.W.Frag} {F H : Hp}
theorem srep_un : ∀ n : Nat, SRep K F H (List.replicate n none) (List.replicate n .un) []
  | 0 => .nil
  | n + 1 => SRep.cons (fp := []) (fps := []) .un (srep_un n)
theorem srep_sh : ∀ {ds : List PyData} {vs : List V} {σ : L2.St} {δ : Sl} {fp : List Addr}, DpAll K F vs ds → SRep K F H σ δ fp → SRep K F H (vs.map some ++ σ) (ds.map C.sh ++ δ) fp
  | [], _, σ, δ, fp, h, g => by cases h; exact g
  | d :: ds, _, σ, δ, fp, h, g => by
    cases h with
    | cons h1 h2 => exact SRep.cons (fp := []) (.sh h1) (srep_sh h2 g)
theorem er_start {N : List Str} {vs : List V} {ds : List PyData} (s : Same F H) (h : DpAll K F vs ds) : ER K F H (L2.start N vs) (startD N.length (ds.map C.sh)) [] := by
  refine ⟨s, ?_, List.nodup_nil⟩
  unfold L2.start startD
  rw [List.length_map, dpa_len h]
  exact srep_sh h (srep_un _)
theorem er_startP {N : List Str} {p ca : Addr} {P : Pen} {vs : List V} {ds : List PyData} (s : Same F H) (hp : H p = some (.dK (penKvs ca P))) (hf : F p = none) (hc : SqL K F ca (P.cells.map V.int)) (h : DpAll K F vs ds) : ER K F H (L2.start N (.ref p :: vs)) (startD N.length (.pen p P :: ds.map C.sh)) [p] := by
  refine ⟨s, ?_, by simp⟩
  unfold L2.start startD
  rw [List.length_cons, List.length_cons, List.length_map, dpa_len h]
  have := SRep.cons (CRep.pen hp hf hc) (srep_sh (H := H) h (srep_un (K := K) (F := F) (H := H) (N.length - (ds.length + 1))))
  simpa using this
end
def bodyR (mb : M Ctl) (δ : Sl) : Option RO := match mb δ with
  | some (.ok .nx _) => some (.val .none)
  | some (.ok (.rt d) _) => some (.val d)
  | some (.ex n fs _) => some (.exc n fs)
  | _ => none
def fnB (N n : Nat) (mb : M Ctl) (ds : List PyData) : Option RO := if ds.length = n then bodyR mb (startD N (ds.map C.sh)) else none
def penOut (p : Addr) (d : PyData) (δ' : Sl) : Option (PyData × Pen) := match δ'[(0 : Nat)]? with
  | some (.pen p' P') => if p' = p then some (d, P') else none
  | _ => none
def fnBP (N n : Nat) (mb : M Ctl) (p : Addr) (P : Pen) (ds : List PyData) : Option (PyData × Pen) := if ds.length = n then match mb (startD N (.pen p P :: ds.map C.sh)) with
  | some (.ok (.rt d) δ') => penOut p d δ'
  | _ => none
  else none
def spP (K : PySem.W.Frag) (n : Nat) (fn : Addr → Pen → List PyData → Option (PyData × Pen)) : Sp := fun vs H Q E => vs.length = n + 1 ∧ ∃ F p ca P ws ds d P', vs = .ref p :: ws ∧ Same F H ∧ H p = some (.dK (penKvs ca P)) ∧ F p = none ∧ SqL K F ca (P.cells.map V.int) ∧ DpAll K F ws ds ∧ fn p P ds = some (d, P') ∧
  ∀ v F' H' ca', Go [p] F H [p] F' H' → Same F' H' → H' p = some (.dK (penKvs ca' P')) → F' p = none → SqL K F' ca' (P'.cells.map V.int) → Dp K F' v d → Q v H'
section
variable {P : Program} {w : World} {K : PySem.W.Frag} {mg : Str → Option Value} {base : Heap} {cls : Str → Option Addr} {x qual : Str} {st : Stmt} {f : Addr} {fd : FuncData} {N ps : List Str} {k : Nat} {mb : M Ctl}
abbrev bodyCx (P : Program) (w : World) (K : PySem.W.Frag) (mg : Str → Option Value) (base : Heap) (N : List Str) (qual : Str) (st : Stmt) (f : Addr) (cdv : Value) (A : Around) (outer : List Env) (s : Shared) (H : Hp) (E : XK) : Cx := cxOf (L2.CX P w) P w K mg base N qual (defScope st) f cdv A outer s H E
theorem Go.ext {F H F' H' : Hp} {fp' : List Addr} (g : Go [] F H fp' F' H') (s : Same F' H') : Ext F H F' H' := ⟨g.fz, fun a o h => g.kp a o (by simp) h, fun a h n => (g.nw a h n).elim id fun z => by simp at z, s⟩
/-- a def of data -/
theorem fn_D (fn : List PyData → Option RO) (Fu : Fun K x qual st f fd) (S : FnScope N ps (defScope st)) (hfn : ∀ ds r, fn ds = some r → fnB N.length ps.length mb ds = some r)
    (hbody : ∀ (cdv : Value) (A : Around) (outer : List Env) (s : Shared) (H : Hp) (E : XK), Room k (A.deeper (envOfC qual (defScope st) s.heap.objs.size f cdv)) → DSs (bodyCx P w K mg base N qual st f cdv A outer s H E) cls (fun c d _ H => E c d H) (defBody st) mb) :
    FnOk P w K mg base (L2.CX P w) (k + 1) f fd ps (spD K cls ps.length fn) := by
  refine Fun.okX Fu S (fun _ _ _ _ h => h.1) fun cdv A outer s H vs Q E hr hsp => ⟨_, hbody cdv A outer s H E hr, ?_⟩
  obtain ⟨hl, F, ds, r, hs, hd, hf, hend⟩ := hsp
  have hb := hfn ds r hf
  unfold fnB at hb
  split at hb
  · refine ⟨F, [], startD N.length (ds.map C.sh), er_start hs hd, ?_⟩
    unfold bodyR at hb
    cases e : mb (startD N.length (ds.map C.sh)) with
    | none => rw [e] at hb; cases hb
    | some r1 =>
      rw [e] at hb
      refine ⟨r1, rfl, ?_⟩
      cases r1 with
      | ex n fs δ1 => cases hb; exact fun Cx dd σ' fp' F' H' hc g E' x => hend Cx dd F' H' hc (g.ext E'.sub) x
      | ok c δ1 =>
        cases c with
        | nx => cases hb; exact fun σ' fp' F' H' g E' => hend .non F' H' (g.ext E'.sub) .non
        | rt d => cases hb; exact fun σ' fp' F' H' g E' v rv => hend v F' H' (g.ext E'.sub) rv
        | bk => cases hb
        | ct => cases hb
  · cases hb
/-- a def that gets the pen first -/
theorem fn_P (fn : Addr → Pen → List PyData → Option (PyData × Pen)) {p0 : Str} (Fu : Fun K x qual st f fd) (S : FnScope N (p0 :: ps) (defScope st)) (hfn : ∀ p P ds r, fn p P ds = some r → fnBP N.length ps.length mb p P ds = some r)
    (hbody : ∀ (cdv : Value) (A : Around) (outer : List Env) (s : Shared) (H : Hp) (E : XK), Room k (A.deeper (envOfC qual (defScope st) s.heap.objs.size f cdv)) → DSs (bodyCx P w K mg base N qual st f cdv A outer s H E) cls (fun c d _ H => E c d H) (defBody st) mb) :
    FnOk P w K mg base (L2.CX P w) (k + 1) f fd (p0 :: ps) (spP K ps.length fn) := by
  refine Fun.okX Fu S (fun _ _ _ _ h => h.1) fun cdv A outer s H vs Q E hr hsp => ⟨_, hbody cdv A outer s H E hr, ?_⟩
  obtain ⟨hl, F, p, ca, P0, ws, ds, d, P', rfl, hs, hp, hfp, hca, hd, hf, hend⟩ := hsp
  have hb := hfn p P0 ds _ hf
  unfold fnBP at hb
  split at hb
  · refine ⟨F, [p], startD N.length (.pen p P0 :: ds.map C.sh), er_startP hs hp hfp hca hd, ?_⟩
    split at hb
    · rename_i d1 δ1 e
      refine ⟨_, e, ?_⟩
      unfold penOut at hb
      split at hb
      · rename_i p' P1 e1
        split at hb
        · rename_i hpp
          subst hpp
          cases hb
          intro σ' fp' F' H' g E' v rv
          obtain ⟨ca', hσ, ha, hn, hq⟩ := E'.pen e1
          exact hend v F' H' ca' ⟨g.fz, g.kp, g.nw, fun a h => .inl h, g.al⟩ E'.sub ha hn hq rv
        · cases hb
      · cases hb
    · cases hb
  · cases hb
end

/-! ### the pen handed on -/
section
variable {K : PySem.W.Frag} {F H F' H' : Hp} {σ : L2.St} {δ : Sl} {fp : List Addr} {i : Nat}
theorem ER.swap (E : ER K F H σ δ fp) {c c' : C} {a : Addr} (hc : δ[i]? = some c) (hσ : σ[i]? = some (some (.ref a))) (h1 : ∀ {o : Option V} {fi : List Addr}, CRep K F H o c fi → ∃ b, o = some (.ref b) ∧ fi = [b] ∧ F b = none)
    (g : Go [a] F H [a] F' H') (s : Same F' H') (cr : CRep K F' H' (some (.ref a)) c' [a]) : ER K F' H' σ (δ.set i c') fp ∧ Go fp F H fp F' H' := by
  obtain ⟨o, fl, fi, fr, h2, h3, h4, h5⟩ := E.rep.at hc
  have th := h3.there
  obtain ⟨b, rfl, rfl, n⟩ := h1 h3
  rw [hσ] at h2
  cases h2
  have nd := E.nd
  have hna : ∀ b, b ∈ fl ++ fr → b ≠ a := fun b hb e => by
    subst e
    rw [h4, List.nodup_append] at nd
    rcases List.mem_append.mp hb with q | q
    · exact nd.2.2 b q b (by simp) rfl
    · have := nd.2.1
      rw [List.nodup_append] at this
      exact this.2.2 b (by simp) b q rfl
  have inl : ∀ b, b ∈ fl ++ fr → b ∈ fp := fun b hb => by
    rw [h4]; rcases List.mem_append.mp hb with q | q <;> simp [q]
  have afp : a ∈ fp := by rw [h4]; simp
  refine ⟨⟨s, ?_, E.nd⟩, ⟨g.fz, fun b u hb e => g.kp b u (fun z => hb (by
    obtain rfl : b = a := by simpa using z
    exact afp)) e, fun b e n => ?_, fun _ h => .inl h, g.al⟩⟩
  · have q := h5 (F' := F') (H' := H') (o' := some (.ref a)) (c' := c') (fi' := [a]) g.fz (fun b u hb e => g.kp b u (fun z => hna b hb (by simpa using z)) e) (fun b hb => ?_) cr
    · rw [set_same hσ, ← h4] at q
      exact q
    · obtain ⟨n0, u, e⟩ := E.rep.there b (inl b hb)
      cases q : F' b with
      | none => rfl
      | some u' =>
        rcases g.nw b n0 (by rw [q]; exact fun z => nomatch z) with z | z
        · rw [e] at z; cases z
        · exact absurd (by simpa using z) (hna b hb)
  · rcases g.nw b e n with z | z
    · exact .inl z
    · obtain rfl : b = a := by simpa using z
      exact .inr afp
end
def isPen (i : Nat) : M Unit := fun δ => match δ[i]? with
  | some (.pen _ _) => some (.ok () δ)
  | _ => none
def callP (i n : Nat) (fn : Addr → Pen → List PyData → Option (PyData × Pen)) (ds : List PyData) : M PyData := fun δ => match δ[i]? with
  | some (.pen p P) => if ds.length = n then match fn p P ds with
    | some (d, P') => some (.ok d (δ.set i (.pen p P')))
    | none => none
    else none
  | _ => none
theorem isPen_of {i : Nat} {δ : Sl} {r : Rs Unit} (h : isPen i δ = some r) : ∃ p P, δ[i]? = some (.pen p P) ∧ r = .ok () δ := by
  unfold isPen at h
  split at h
  · rename_i p P e; cases h; exact ⟨p, P, e, rfl⟩
  · cases h
section
variable {X : Cx} {cls : Str → Option Addr} {W : WX} {pos p p2 : Pos} {x y : Str} {es : List Expr} {ma : M (List PyData)} {fn : Addr → Pen → List PyData → Option (PyData × Pen)} {k n : Nat} {f : Addr} {fd : FuncData} {ps : List Str}
theorem tm_callP {K : PySem.W.Frag} {F H : Hp} {fp : List Addr} {δ : Sl} {σ : L2.St} {Q : VK} {i : Nat} {ds : List PyData} {ws : List V} {E : XK} (h : TmA K cls W (Dp K) (callP i n fn ds) F fp δ σ H Q) (ha : DpAll K F ws ds) {v : V} (hv : σ[i]? = some (some v)) : spP K n fn (v :: ws) H Q E := by
  obtain ⟨E1, r, hm, hf⟩ := h
  unfold callP at hm
  split at hm
  · rename_i p P hc
    split at hm
    · rename_i hl
      split at hm
      · rename_i d P' hfn
        cases hm
        obtain ⟨ca, hσ, hp, hn, hq⟩ := E1.pen hc
        rw [hσ] at hv
        cases hv
        refine ⟨by rw [List.length_cons, dpa_len ha, hl], F, p, ca, P, ws, ds, d, P', rfl, E1.sub, hp, hn, hq, ha, hfn, fun v F' H' ca' g s h1 h2 h3 rv => ?_⟩
        obtain ⟨E2, g2⟩ := E1.swap hc hσ crep_pen g s (.pen h1 h2 h3)
        exact hf fp F' H' g2 E2 v rv
      · cases hm
    · cases hm
  · cases hm
/-- f(pen, ..) -/
theorem de_callP (i : Nat) (G : FnOk X.prog X.w X.K X.mg X.base (L2.CX X.prog X.w) k f fd ps (spP X.K n fn)) (hr : Room k X.A) (tk : Takes X W) (hm : X.mg x = some (.ref f)) (hk : PySem.W.keepIn X.K (.ref f) = true) (hb : Binds X.K fd ps [])
    (ha : DA X cls W es ma) (hg : Gl X x := by rfl) (hdb : (x == ("__debug__" : Str)) = false := by decide) (he : starEach (.Name y p2 :: es) X.env = (false, eval (.Name y p2) X.env) :: starEach es X.env := by rfl) (hpl : (backTo pos (starEach es X.env)).any (·.1) = false := by rfl)
    (hN : X.N[i]? = some y := by rfl) (hv : Vis X.env.scope y := by first | exact Or.inl rfl | exact Or.inr (Or.inl rfl) | exact Or.inr (Or.inr rfl)) (hd : (y == ("__debug__" : Str)) = false := by decide) (hcd : (y == ("__classdict__" : Str)) = false := by decide) :
    DE X cls W (.Call (.Name x p) (.Name y p2 :: es) [] pos) (bnd (isPen i) fun _ => bnd ma (callP i n fn)) := by
  refine pe_imp (pe_callSD (E := WE W) G hr hg hm hk hb .nil (fun σ => passAt tk σ) (pa_cons (pv i hN hv hd hcd) ha he) hdb he hpl) fun σ H Q h => ?_
  obtain ⟨F, fp, δ, E, r, hm, hf⟩ := h
  have hm0 := hm
  unfold bnd at hm0
  cases e0 : isPen i δ with
  | none => simp only [e0] at hm0; cases hm0
  | some r0 =>
    obtain ⟨p0, P0, hc0, rfl⟩ := isPen_of e0
    simp only [e0] at hm0
    obtain ⟨ca, hσ, _⟩ := E.pen hc0
    refine ⟨_, hσ, Tm.mono (TmA.tm (tm_bnd (Rel := DpAll X.K) (Rel2 := Dp X.K) ⟨E, r, hm0, hf⟩)) fun vs H1 ⟨ds, F1, fp1, δ1, rx, s1, _, _, h1⟩ => ?_⟩
    show spP X.K n fn ((_ :: vs) ++ []) H1 Q (WE W σ)
    rw [List.append_nil]
    exact tm_callP h1 rx hσ
end
end DL

set_option maxRecDepth 100000
set_option maxHeartbeats 1000000
/-! DL13: lists of lists, all of one's own. -/
namespace DL
open PySem PySem.Spec PyProof.Rows L2 RZ
variable [CC : ClsCtx] [XC : XcCtx]

section
variable {K : PySem.W.Frag} {F H F' H' : Hp} {σ : L2.St} {δ : Sl} {fp : List Addr} {i : Nat}
theorem OlAll.len : ∀ {bs : List Addr} {dss : List (List PyData)}, OlAll K F H bs dss → bs.length = dss.length
  | _, _, .nil => rfl
  | _, _, .cons _ _ _ r => by simp [r.len]
theorem OlAll.get : ∀ {bs : List Addr} {dss : List (List PyData)} {k : Nat} {ds : List PyData}, OlAll K F H bs dss → dss[k]? = some ds → ∃ b vs, bs[k]? = some b ∧ H b = some (.lst vs) ∧ F b = none ∧ DpAll K F vs ds
  | _, _, _, _, .nil, e => by simp at e
  | _, _, 0, _, .cons h n d r, e => by simp at e; subst e; exact ⟨_, _, rfl, h, n, d⟩
  | _, _, k + 1, _, .cons h n d r, e => by
    obtain ⟨b, vs, e1, e2, e3, e4⟩ := r.get (k := k) (by simpa using e)
    exact ⟨b, vs, by simpa using e1, e2, e3, e4⟩
theorem OlAll.app : ∀ {bs : List Addr} {dss : List (List PyData)} {b : Addr} {vs : List V} {ds : List PyData}, OlAll K F H bs dss → H b = some (.lst vs) → F b = none → DpAll K F vs ds → OlAll K F H (bs ++ [b]) (dss ++ [ds])
  | _, _, _, _, _, .nil, h, n, d => .cons h n d .nil
  | _, _, _, _, _, .cons h1 n1 d1 r, h, n, d => .cons h1 n1 d1 (r.app h n d)
theorem OlAll.erase : ∀ {bs : List Addr} {dss : List (List PyData)} (k : Nat), OlAll K F H bs dss → OlAll K F H (bs.eraseIdx k) (dss.eraseIdx k)
  | _, _, _, .nil => .nil
  | _, _, 0, .cons _ _ _ r => r
  | _, _, k + 1, .cons h n d r => .cons h n d (r.erase k)
/-- one of the lists is written -/
theorem OlAll.wr : ∀ {bs : List Addr} {dss : List (List PyData)} {k : Nat} {b : Addr} {vs : List V} {ds : List PyData}, OlAll K F H bs dss → bs.Nodup → bs[k]? = some b → DpAll K F vs ds → OlAll K F (upd H b (.lst vs)) bs (dss.set k ds)
  | _, _, _, _, _, _, .nil, _, e, _ => by simp at e
  | _, _, 0, _, _, _, .cons h n d r, nd, e, d' => by
    simp at e; subst e
    rw [List.nodup_cons] at nd
    exact .cons upd_same n d' (r.tr (Same.refl _) (fun b o hb q => by rw [upd_ne fun z => nd.1 (by rw [← z]; exact hb)]; exact q) fun b hb => (r.there b hb).1)
  | b0 :: _, _, k + 1, b, _, _, .cons h n d r, nd, e, d' => by
    rw [List.nodup_cons] at nd
    rw [List.getElem?_cons_succ] at e
    refine .cons ?_ n d (r.wr nd.2 e d')
    rw [upd_ne fun z => nd.1 (by rw [z]; exact List.mem_of_getElem? e)]
    exact h
/-- what is known of a list of lists -/
theorem ER.ol (E : ER K F H σ δ fp) {dss : List (List PyData)} (hc : δ[i]? = some (.ol dss)) : ∃ a bs, σ[i]? = some (some (.ref a)) ∧ H a = some (.lst (bs.map V.ref)) ∧ F a = none ∧ OlAll K F H bs dss ∧ (a :: bs).Nodup ∧
    (∀ k b vs ds, bs[k]? = some b → DpAll K F vs ds → ER K F (upd H b (.lst vs)) σ (δ.set i (.ol (dss.set k ds))) fp ∧ Go fp F H fp F (upd H b (.lst vs))) ∧
    (∀ k, ∃ fp', ER K F (upd H a (.lst ((bs.eraseIdx k).map V.ref))) σ (δ.set i (.ol (dss.eraseIdx k))) fp' ∧ Go fp F H fp' F (upd H a (.lst ((bs.eraseIdx k).map V.ref)))) := by
  obtain ⟨o, fl, fi, fr, h1, h2, h3, h4⟩ := E.rep.at hc
  cases h2 with
  | @ol a bs _ h n r =>
    have nd := E.nd
    rw [h3, List.nodup_append] at nd
    obtain ⟨n1, n2, n3⟩ := nd
    have n2' := n2
    rw [List.nodup_append] at n2
    have apart : ∀ b, b ∈ fl ++ fr → b ∉ a :: bs := fun b hb hi => by
      rcases List.mem_append.mp hb with q | q
      · exact n3 b q b (List.mem_append_left _ hi) rfl
      · exact n2.2.2 b hi b q rfl
    have inl : ∀ b, b ∈ fl ++ fr → b ∈ fp := fun b hb => by
      rw [h3]; rcases List.mem_append.mp hb with q | q <;> simp [q]
    have ini : ∀ b, b ∈ a :: bs → b ∈ fp := fun b hb => by
      rw [h3]; exact List.mem_append_right _ (List.mem_append_left _ hb)
    have nab : a ∉ bs := (List.nodup_cons.mp n2.1).1
    refine ⟨a, bs, h1, h, n, r, n2.1, fun k b vs ds hb da => ?_, fun k => ?_⟩
    · have hbm : b ∈ bs := List.mem_of_getElem? hb
      have hbf : F b = none := (r.there b hbm).1
      refine ⟨⟨fun c u e => by rw [upd_ne fun z => by rw [z, hbf] at e; cases e]; exact E.sub c u e, ?_, E.nd⟩, ⟨Same.refl _, fun c u hc e => by rw [upd_ne fun z => hc (by rw [z]; exact ini b (by simp [hbm]))]; exact e, fun c e z => absurd e z, fun _ h => .inl h, fun c u e => ?_⟩⟩
      · have q := h4 (F' := F) (H' := upd H b (.lst vs)) (o' := some (.ref a)) (c' := .ol (dss.set k ds)) (fi' := a :: bs) (Same.refl _) (fun c u hc e => by rw [upd_ne fun z => apart c hc (by rw [z]; simp [hbm])]; exact e) (fun c hc => E.free c (inl c hc))
          (.ol (by rw [upd_ne fun z => nab (by rw [z]; exact hbm)]; exact h) n (r.wr (List.nodup_cons.mp n2.1).2 hb da))
        rw [set_same h1, ← h3] at q
        exact q
      · by_cases hc : c = b
        · exact ⟨_, by rw [hc]; exact upd_same⟩
        · exact ⟨u, by rw [upd_ne hc]; exact e⟩
    · have sub : ∀ b, b ∈ bs.eraseIdx k → b ∈ bs := fun b hb => List.mem_of_mem_eraseIdx hb
      have r' : OlAll K F (upd H a (.lst ((bs.eraseIdx k).map V.ref))) (bs.eraseIdx k) (dss.eraseIdx k) := (r.erase k).tr (Same.refl _) (fun b o hb q => by rw [upd_ne fun z => nab (by rw [← z]; exact sub b hb)]; exact q) fun b hb => (r.there b (sub b hb)).1
      refine ⟨fl ++ ((a :: bs.eraseIdx k) ++ fr), ⟨fun c u e => by rw [upd_ne fun z => by rw [z, n] at e; cases e]; exact E.sub c u e, ?_, ?_⟩, ⟨Same.refl _, fun c u hc e => by rw [upd_ne fun z => hc (by rw [z]; exact ini a (by simp))]; exact e, fun c e z => absurd e z, fun b hb => .inl ?_, fun c u e => ?_⟩⟩
      · have q := h4 (F' := F) (H' := upd H a (.lst ((bs.eraseIdx k).map V.ref))) (o' := some (.ref a)) (c' := .ol (dss.eraseIdx k)) (fi' := a :: bs.eraseIdx k) (Same.refl _) (fun c u hc e => by rw [upd_ne fun z => apart c hc (by rw [z]; simp)]; exact e) (fun c hc => E.free c (inl c hc)) (.ol upd_same n r')
        rw [set_same h1] at q
        exact q
      · have m : ∀ b, b ∈ a :: bs.eraseIdx k → b ∈ a :: bs := fun b hb => by
          rcases List.mem_cons.mp hb with q | q
          · simp [q]
          · exact List.mem_cons_of_mem _ (sub b q)
        rw [List.nodup_append]
        refine ⟨n1, ?_, fun x hx y hy => ?_⟩
        · rw [List.nodup_append]
          refine ⟨List.nodup_cons.mpr ⟨fun z => nab (sub _ z), (List.nodup_cons.mp n2.1).2.sublist (List.eraseIdx_sublist ..)⟩, n2.2.1, fun x hx y hy => n2.2.2 x (m x hx) y hy⟩
        · rcases List.mem_append.mp hy with q | q
          · exact n3 x hx y (List.mem_append_left _ (m y q))
          · exact n3 x hx y (List.mem_append_right _ q)
      · rcases List.mem_append.mp hb with q | q
        · exact inl b (List.mem_append_left _ q)
        · rcases List.mem_append.mp q with q | q
          · rcases List.mem_cons.mp q with q | q
            · exact ini b (by simp [q])
            · exact ini b (List.mem_cons_of_mem _ (sub b q))
          · exact inl b (List.mem_append_right _ q)
      · by_cases hc : c = a
        · exact ⟨_, by rw [hc]; exact upd_same⟩
        · exact ⟨u, by rw [upd_ne hc]; exact e⟩
/-- the lists within become shared -/
theorem ER.olOw (E : ER K F H σ δ fp) {dss : List (List PyData)} (hc : δ[i]? = some (.ol dss)) : ∃ F' fp', Go fp F H fp' F' H ∧ ER K F' H σ (δ.set i (.ow (dss.map .list))) fp' := by
  obtain ⟨o, fl, fi, fr, h1, h2, h3, h4⟩ := E.rep.at hc
  cases h2 with
  | @ol a bs _ h n r =>
    have nd := E.nd
    rw [h3, List.nodup_append] at nd
    obtain ⟨n1, n2, n3⟩ := nd
    rw [List.nodup_append] at n2
    have apart : ∀ b, b ∈ fl ++ fr → b ∉ a :: bs := fun b hb hi => by
      rcases List.mem_append.mp hb with q | q
      · exact n3 b q b (List.mem_append_left _ hi) rfl
      · exact n2.2.2 b hi b q rfl
    have inl : ∀ b, b ∈ fl ++ fr → b ∈ fp := fun b hb => by
      rw [h3]; rcases List.mem_append.mp hb with q | q <;> simp [q]
    have ini : ∀ b, b ∈ a :: bs → b ∈ fp := fun b hb => by
      rw [h3]; exact List.mem_append_right _ (List.mem_append_left _ hb)
    have nab : a ∉ bs := (List.nodup_cons.mp n2.1).1
    have s1 : Same F (frz F H bs) := fun b u e => by
      rw [frz_out (fun hb => by rw [(r.there b hb).1] at e; cases e)]; exact e
    have s2 : Same (frz F H bs) H := fun b u e => by
      by_cases hb : b ∈ bs
      · rw [frz_in hb] at e; exact e
      · rw [frz_out hb] at e; exact E.sub b u e
    have q := h4 (F' := frz F H bs) (H' := H) (o' := some (.ref a)) (c' := .ow (dss.map .list)) (fi' := [a]) s1 (fun b u _ e => e) (fun b hb => by rw [frz_out fun z => apart b hb (by simp [z])]; exact E.free b (inl b hb)) (.ow h (by rw [frz_out nab]; exact n) (ola_frz r (fun b hb => hb) s1))
    rw [set_same h1] at q
    refine ⟨frz F H bs, _, ⟨s1, fun _ _ _ e => e, fun b e z => ?_, fun b hb => .inl ?_, fun _ o e => ⟨o, e⟩⟩, s2, q, ?_⟩
    · by_cases hb : b ∈ bs
      · exact .inr (ini b (by simp [hb]))
      · rw [frz_out hb] at z; exact absurd e z
    · rcases List.mem_append.mp hb with q | q
      · exact inl b (List.mem_append_left _ q)
      · rcases List.mem_append.mp q with q | q
        · exact ini b (by simpa using Or.inl q)
        · exact inl b (List.mem_append_right _ q)
    · rw [List.nodup_append]
      refine ⟨n1, List.nodup_cons.mpr ⟨fun z => apart a (List.mem_append_right _ z) (by simp), n2.2.1⟩, fun x hx y hy => ?_⟩
      rcases List.mem_cons.mp hy with q | q
      · rw [q]; exact n3 x hx a (by simp)
      · exact n3 x hx y (List.mem_append_right _ q)
/-- a slot is set aside -/
theorem ER.take (E : ER K F H σ δ fp) {c : C} (hc : δ[i]? = some c) : ∃ o fc fpr, σ[i]? = some o ∧ CRep K F H o c fc ∧ ER K F H σ (δ.set i .un) fpr ∧ fc.Nodup ∧ (∀ b, b ∈ fc → b ∉ fpr) ∧ (∀ b, b ∈ fpr → b ∈ fp) ∧ ∀ b, b ∈ fc → b ∈ fp := by
  obtain ⟨o, fl, fi, fr, h1, h2, h3, h4⟩ := E.rep.at hc
  have nd := E.nd
  rw [h3, List.nodup_append] at nd
  obtain ⟨n1, n2, n3⟩ := nd
  rw [List.nodup_append] at n2
  have inl : ∀ b, b ∈ fl ++ fr → b ∈ fp := fun b hb => by
    rw [h3]; rcases List.mem_append.mp hb with q | q <;> simp [q]
  have q := h4 (F' := F) (H' := H) (o' := o) (c' := .un) (fi' := []) (Same.refl _) (fun b u _ e => e) (fun b hb => E.free b (inl b hb)) .un
  rw [set_same h1] at q
  refine ⟨o, fi, fl ++ fr, h1, h2, ⟨E.sub, by simpa using q, ?_⟩, n2.1, fun b hb z => ?_, inl, fun b hb => by rw [h3]; simp [hb]⟩
  · rw [List.nodup_append]
    exact ⟨n1, n2.2.1, fun x hx y hy => n3 x hx y (List.mem_append_right _ hy)⟩
  · rcases List.mem_append.mp z with q | q
    · exact n3 b q b (List.mem_append_left _ hb) rfl
    · exact n2.2.2 b hb b q rfl
theorem Go.wide {fpr fp1 : List Addr} {F1 H1 : Hp} (g : Go fpr F H fp1 F1 H1) (h : ∀ b, b ∈ fpr → b ∈ fp) : Go fp F H fp1 F1 H1 :=
  ⟨g.fz, fun a o ha e => g.kp a o (fun z => ha (h a z)) e, fun a e n => (g.nw a e n).imp id (h a), fun a ha => (g.ow a ha).imp (h a) id, g.al⟩
end

theorem refs_inj : ∀ {l m : List Addr}, l.map V.ref = m.map V.ref → l = m
  | [], [], _ => rfl
  | [], _ :: _, h => by cases h
  | _ :: _, [], h => by cases h
  | a :: l, b :: m, h => by
    simp only [List.map_cons] at h
    injection h with h1 h2
    injection h1 with h1
    rw [h1, refs_inj h2]
theorem map_erase {α β : Type} (f : α → β) : ∀ (l : List α) (k : Nat), (l.map f).eraseIdx k = (l.eraseIdx k).map f
  | [], _ => rfl
  | _ :: _, 0 => rfl
  | a :: l, k + 1 => congrArg (f a :: ·) (map_erase f l k)
/-! ### statements -/
def olAt (i j : Nat) (δ : Sl) : Option (List (List PyData) × Nat × List PyData) := match δ[i]?, δ[j]? with
  | some (.ol dss), some (.sh (.int k)) => if 0 ≤ k then match dss[k.toNat]? with
      | some ds => some (dss, k.toNat, ds)
      | none => none
    else none
  | _, _ => none
theorem olAt_of {i j : Nat} {δ : Sl} {dss : List (List PyData)} {k : Nat} {ds : List PyData} (h : olAt i j δ = some (dss, k, ds)) : δ[i]? = some (.ol dss) ∧ δ[j]? = some (.sh (.int k)) ∧ dss[k]? = some ds := by
  unfold olAt at h
  split at h
  · rename_i dss' k' e1 e2
    split at h
    · rename_i hk
      split at h
      · rename_i ds' e3
        cases h
        exact ⟨e1, by rw [e2, Int.toNat_of_nonneg hk], e3⟩
      · cases h
    · cases h
  · cases h
section
variable {K : PySem.W.Frag} {F H : Hp} {σ : L2.St} {δ : Sl} {fp : List Addr} {i j : Nat} {dss : List (List PyData)} {ds : List PyData} {k : Nat}
theorem atI_nat {α : Type} {l : List α} {k : Nat} {x : α} (h : l[k]? = some x) : atI l (k : Int) = some x := by
  have hl := (List.getElem?_eq_some_iff.mp h).1
  unfold atI ixN
  rw [if_pos (by omega), if_pos (by omega)]
  simpa using h
/-- lines[at], read -/
theorem ER.olAt (E : ER K F H σ δ fp) (h : olAt i j δ = some (dss, k, ds)) : ∃ (a : Addr) (bs : List Addr) (b : Addr) (vs : List V), σ[i]? = some (some (.ref a)) ∧ σ[j]? = some (some (.int k)) ∧ H a = some (.lst (bs.map V.ref)) ∧ atI (bs.map V.ref) (k : Int) = some (.ref b) ∧ bs[k]? = some b ∧ H b = some (.lst vs) ∧ DpAll K F vs ds ∧ δ[i]? = some (.ol dss) ∧
    (∀ vs ds, DpAll K F vs ds → ER K F (upd H b (.lst vs)) σ (δ.set i (.ol (dss.set k ds))) fp ∧ Go fp F H fp F (upd H b (.lst vs))) ∧
    (∃ fp', ER K F (upd H a (.lst ((bs.map V.ref).eraseIdx k))) σ (δ.set i (.ol (dss.eraseIdx k))) fp' ∧ Go fp F H fp' F (upd H a (.lst ((bs.map V.ref).eraseIdx k)))) := by
  obtain ⟨e1, e2, e3⟩ := olAt_of h
  obtain ⟨a, bs, hσ, ha, hn, r, _, u1, u2⟩ := E.ol e1
  obtain ⟨v, hσ2, rv⟩ := E.look e2 rfl
  cases rv
  obtain ⟨b, vs, f1, f2, f3, f4⟩ := r.get e3
  exact ⟨a, bs, b, vs, hσ, hσ2, ha, atI_nat (by rw [List.getElem?_map, f1]; rfl), f1, f2, f4, e1, fun vs ds da => u1 k b vs ds f1 da, by rw [map_erase]; exact u2 k⟩
end
/-- lines[at].pop() -/
def olPopM (i j : Nat) : M Ctl := fun δ => match olAt i j δ with
  | some (dss, k, ds) => if ds = [] then none else some (.ok .nx (δ.set i (.ol (dss.set k ds.dropLast))))
  | none => none
/-- lines[at].append(e) -/
def olAppM (i j : Nat) (me : M PyData) : M Ctl := fun δ => match olAt i j δ with
  | some (dss, k, ds) => match me (δ.set i .un) with
    | some (.ok d δ1) => if i < δ1.length ∧ ds.length < sizeLine then some (.ok .nx (δ1.set i (.ol (dss.set k (ds ++ [d]))))) else none
    | some (.ex n fs δ1) => some (.ex n fs δ1)
    | none => none
  | none => none
/-- lines.pop(at) -/
def olDelM (i j : Nat) : M Ctl := fun δ => match olAt i j δ with
  | some (dss, k, _) => if k < 2 ^ 62 then some (.ok .nx (δ.set i (.ol (dss.eraseIdx k)))) else none
  | none => none
/-- lines.insert(at, e) -/
def olInsM (i : Nat) (ma : M (List PyData)) : M Ctl := fun δ => match δ[i]? with
  | some (.ol _) => match ma δ with
    | some (.ok [.int k, d] δ1) => match δ1[i]? with
      | some (.ol dss) => if 0 ≤ k ∧ k < 2 ^ 62 ∧ dss.length < sizeLine then some (.ok .nx (δ1.set i (.ow ((dss.map .list).take k.toNat ++ [d] ++ (dss.map .list).drop k.toNat)))) else none
      | _ => none
    | some (.ex n fs δ1) => some (.ex n fs δ1)
    | _ => none
  | _ => none
section
variable {X : Cx} {cls : Str → Option Addr} {W : WX} {pos p p2 ipos apos epos : Pos} {x y : Str} {e e2 : Expr} {me : M PyData} {ma : M (List PyData)} {i j : Nat}
abbrev tOlAt (X : Cx) (i j : Nat) : TE := tOp (rIxL X.K) (fun σ H Q => ∃ v, σ[i]? = some (some v) ∧ Q v H) (fun σ H Q => ∃ v, σ[j]? = some (some v) ∧ Q v H)
theorem pe_olAt (i j : Nat) (hN : X.N[i]? = some x) (hv : Vis X.env.scope x) (hd : (x == ("__debug__" : Str)) = false) (hcd : (x == ("__classdict__" : Str)) = false) (hN2 : X.N[j]? = some y) (hv2 : Vis X.env.scope y) (hd2 : (y == ("__debug__" : Str)) = false) (hcd2 : (y == ("__classdict__" : Str)) = false) :
    PE X (.Subscript (.Name x p) (.Name y p2) ipos) (tOlAt X i j) := pe_ix ix_list (pv i hN hv hd hcd) (pv j hN2 hv2 hd2 hcd2) (fun _ _ => rfl)
theorem ds_olPop (i j : Nat) (hN : X.N[i]? = some x := by rfl) (hv : Vis X.env.scope x := by first | exact Or.inl rfl | exact Or.inr (Or.inl rfl) | exact Or.inr (Or.inr rfl)) (hd : (x == ("__debug__" : Str)) = false := by decide) (hcd : (x == ("__classdict__" : Str)) = false := by decide)
    (hN2 : X.N[j]? = some y := by rfl) (hv2 : Vis X.env.scope y := by first | exact Or.inl rfl | exact Or.inr (Or.inl rfl) | exact Or.inr (Or.inr rfl)) (hd2 : (y == ("__debug__" : Str)) = false := by decide) (hcd2 : (y == ("__classdict__" : Str)) = false := by decide)
    (hsw : swapsWith (.Call (.Attribute (.Subscript (.Name x p) (.Name y p2) ipos) "pop" apos) [] [] pos) none epos.line X.env = pure false := by rfl)
    (hbase : attributeBase (.Subscript (.Name x p) (.Name y p2) ipos) "pop" X.env (eval (.Subscript (.Name x p) (.Name y p2) ipos) X.env) = eval (.Subscript (.Name x p) (.Name y p2) ipos) X.env := by rfl) (hline : (apos.endLine == pos.line) = true := by rfl) :
    DS X cls W (.Expr (.Call (.Attribute (.Subscript (.Name x p) (.Name y p2) ipos) "pop" apos) [] [] pos) epos) (olPopM i j) := by
  refine ps_imp (ps_expr (pe_bm0 PySem.F.plainAttrs_list PySem.F.slot_list_pop PySem.F.type_list_pop mt_pop (pe_olAt i j hN hv hd hcd hN2 hv2 hd2 hcd2) hbase hline) hsw) fun D σ H h => ?_
  obtain ⟨F, fp, δ, E, r, hm, hf⟩ := h
  unfold olPopM at hm
  split at hm
  · rename_i dss k ds ho
    split at hm
    · cases hm
    · rename_i hne
      cases hm
      obtain ⟨a, bs, b, vs, hσ, hσ2, ha, hat, hb, hbl, da, hc, wr, _⟩ := E.olAt ho
      have hvs : vs ≠ [] := fun z => hne (by
        have := dpa_len da
        rw [z] at this
        exact List.eq_nil_of_length_eq_zero this.symm)
      have hl : vs.length - 1 < vs.length := by
        have := List.length_pos_iff.mpr hvs
        omega
      obtain ⟨E2, g2⟩ := wr vs.dropLast ds.dropLast (by rw [List.dropLast_eq_take, List.dropLast_eq_take, dpa_len da]; exact dpa_take _ da)
      exact ⟨_, hσ, _, hσ2, a, _, _, _, rfl, rfl, SqL.of ha, hat, .inl ⟨rfl, vs, SqL.of hbl⟩, b, vs, vs[vs.length - 1], rfl, rfl, hbl, List.getElem?_eq_getElem hl, hf σ fp F _ g2 E2⟩
  · cases hm
theorem ds_olDel (i j : Nat) (hN : X.N[i]? = some x := by rfl) (hv : Vis X.env.scope x := by first | exact Or.inl rfl | exact Or.inr (Or.inl rfl) | exact Or.inr (Or.inr rfl)) (hd : (x == ("__debug__" : Str)) = false := by decide) (hcd : (x == ("__classdict__" : Str)) = false := by decide)
    (hN2 : X.N[j]? = some y := by rfl) (hv2 : Vis X.env.scope y := by first | exact Or.inl rfl | exact Or.inr (Or.inl rfl) | exact Or.inr (Or.inr rfl)) (hd2 : (y == ("__debug__" : Str)) = false := by decide) (hcd2 : (y == ("__classdict__" : Str)) = false := by decide)
    (hsw : swapsWith (.Call (.Attribute (.Name x p) "pop" apos) [.Name y p2] [] pos) none epos.line X.env = pure false := by rfl)
    (hbase : attributeBase (.Name x p) "pop" X.env (eval (.Name x p) X.env) = eval (.Name x p) X.env := by rfl)
    (hfew : ((backTo pos (starEach [.Name y p2] X.env)).all (fun x => !x.1) && (backToKw pos (keywordEach [] X.env)).all (fun x => x.1.isSome) && decide (([.Name y p2] : List Expr).length + ([] : List Keyword).length + (if ([] : List Keyword).isEmpty then 0 else 1) < 30)) = true := by rfl)
    (hline : (apos.endLine == pos.line) = true := by rfl) (hs : starEach [.Name y p2] X.env = (false, eval (.Name y p2) X.env) :: starEach [] X.env := by rfl) (hplain : (backTo pos (starEach [] X.env)).any (·.1) = false := by rfl) :
    DS X cls W (.Expr (.Call (.Attribute (.Name x p) "pop" apos) [.Name y p2] [] pos) epos) (olDelM i j) := by
  refine ps_imp (ps_expr (pe_bm PySem.F.plainAttrs_list PySem.F.slot_list_pop PySem.F.type_list_pop mt_popAt (pv i hN hv hd hcd) (pa_cons (pv j hN2 hv2 hd2 hcd2) pa_nil hs) hbase hfew hline hs hplain) hsw) fun D σ H h => ?_
  obtain ⟨F, fp, δ, E, r, hm, hf⟩ := h
  unfold olDelM at hm
  split at hm
  · rename_i dss k ds ho
    split at hm
    · rename_i hk
      cases hm
      obtain ⟨a, bs, b, vs, hσ, hσ2, ha, hat, hb, hbl, da, hc, _, fp', E2, g2⟩ := E.olAt ho
      have hl := (List.getElem?_eq_some_iff.mp hb).1
      refine ⟨_, hσ, .inl ⟨rfl, _, SqL.of ha⟩, _, hσ2, a, _, k, k, .ref b, rfl, rfl, ha, by omega, by omega, ?_, by rw [List.getElem?_map, hb]; rfl, hf σ fp' F _ g2 E2⟩
      rw [seqIndex_of (by omega) (by rw [List.length_map]; omega)]
      rfl
    · cases hm
  · cases hm
theorem ds_olApp (i j : Nat) (he : DE X cls W e me) (hN : X.N[i]? = some x := by rfl) (hv : Vis X.env.scope x := by first | exact Or.inl rfl | exact Or.inr (Or.inl rfl) | exact Or.inr (Or.inr rfl)) (hd : (x == ("__debug__" : Str)) = false := by decide) (hcd : (x == ("__classdict__" : Str)) = false := by decide)
    (hN2 : X.N[j]? = some y := by rfl) (hv2 : Vis X.env.scope y := by first | exact Or.inl rfl | exact Or.inr (Or.inl rfl) | exact Or.inr (Or.inr rfl)) (hd2 : (y == ("__debug__" : Str)) = false := by decide) (hcd2 : (y == ("__classdict__" : Str)) = false := by decide)
    (hsw : swapsWith (.Call (.Attribute (.Subscript (.Name x p) (.Name y p2) ipos) "append" apos) [e] [] pos) none epos.line X.env = pure false := by rfl)
    (hbase : attributeBase (.Subscript (.Name x p) (.Name y p2) ipos) "append" X.env (eval (.Subscript (.Name x p) (.Name y p2) ipos) X.env) = eval (.Subscript (.Name x p) (.Name y p2) ipos) X.env := by rfl)
    (hfew : ((backTo pos (starEach [e] X.env)).all (fun x => !x.1) && (backToKw pos (keywordEach [] X.env)).all (fun x => x.1.isSome) && decide (([e] : List Expr).length + ([] : List Keyword).length + (if ([] : List Keyword).isEmpty then 0 else 1) < 30)) = true := by rfl)
    (hline : (apos.endLine == pos.line) = true := by rfl) (hs : starEach [e] X.env = (false, eval e X.env) :: starEach [] X.env := by rfl) (hplain : (backTo pos (starEach [] X.env)).any (·.1) = false := by rfl) :
    DS X cls W (.Expr (.Call (.Attribute (.Subscript (.Name x p) (.Name y p2) ipos) "append" apos) [e] [] pos) epos) (olAppM i j me) := by
  refine ps_imp (ps_expr (pe_bm PySem.F.plainAttrs_list PySem.F.slot_list_append PySem.F.type_list_append mt_append (pe_olAt i j hN hv hd hcd hN2 hv2 hd2 hcd2) (pa_cons he pa_nil hs) hbase hfew hline hs hplain) hsw) fun D σ H h => ?_
  obtain ⟨F, fp, δ, E, r, hm, hf⟩ := h
  unfold olAppM at hm
  split at hm
  · rename_i dss k ds ho
    obtain ⟨a, bs, b, vs, hσ, hσ2, ha, hat, hb, hbl, da, hc, _, _⟩ := E.olAt ho
    refine ⟨_, hσ, _, hσ2, a, _, _, _, rfl, rfl, SqL.of ha, hat, .inl ⟨rfl, vs, SqL.of hbl⟩, ?_⟩
    obtain ⟨o, fc, fpr, ho2, cr, Er, ndc, apc, sub, subc⟩ := E.take hc
    rw [hσ] at ho2
    cases ho2
    have nw : New X.K fp H fpr F H (.ref a) (.ol dss) fc := ⟨cr, ndc, apc, fun b hb => .inl (subc b hb)⟩
    refine ⟨F, fpr, δ.set i .un, Er, ?_⟩
    split at hm
    · rename_i d δ1 e1
      refine ⟨_, e1, fun fp1 F1 H1 g E1 v rv => ?_⟩
      split at hm
      · rename_i hl
        cases hm
        have n1 := nw.stay g
        obtain ⟨fp2, E2, h2⟩ := n1.put E1 hl.1
        rw [set_same hσ] at E2
        have hc2 : (δ1.set i (.ol dss))[i]? = some (.ol dss) := List.getElem?_set_self hl.1
        -- the list at b stands as it stood
        have bfc : b ∈ fc ∧ a ∈ fc := by
          cases cr with
          | @ol _ bs' _ h' n' r' =>
            rw [ha] at h'
            have e1 : bs.map V.ref = bs'.map V.ref := by injection h' with h'; injection h'
            have e2 := refs_inj e1
            subst e2
            exact ⟨List.mem_cons_of_mem _ (List.mem_of_getElem? hb), List.mem_cons_self⟩
        have hb1 : H1 b = some (.lst vs) := g.kp b _ (apc b bfc.1) hbl
        have ha1 : H1 a = some (.lst (bs.map V.ref)) := g.kp a _ (apc a bfc.2) ha
        obtain ⟨_, _, e3⟩ := olAt_of ho
        obtain ⟨a', bs', hσ', ha', hn', r', _, u1, _⟩ := E2.ol hc2
        rw [hσ] at hσ'
        cases hσ'
        rw [ha1] at ha'
        have e2 : bs = bs' := refs_inj (by injection ha' with h'; injection h')
        subst e2
        obtain ⟨b', vs', f1, f2, f3, f4⟩ := r'.get e3
        rw [hb] at f1
        cases f1
        rw [hb1] at f2
        cases f2
        obtain ⟨E3, g3⟩ := u1 k b (vs ++ [v]) (ds ++ [d]) hb (dpa_app f4 (.cons rv .nil))
        rw [List.set_set] at E3
        refine ⟨b, vs, v, rfl, rfl, hb1, by rw [dpa_len f4]; exact hl.2, hf σ fp2 F1 _ ?_ E3⟩
        have gw := g.wide sub
        refine Go.trans (fp1 := fp2) (F1 := F1) (H1 := H1) ⟨gw.fz, gw.kp, gw.nw, fun c hcc => ?_, gw.al⟩ g3
        rcases h2 c hcc with z | z
        · exact gw.ow c z
        · exact .inl (subc c z)
      · cases hm
    · rename_i n fs δ1 e1
      cases hm
      exact ⟨_, e1, fun Cx dd fp' F' H' c g E' x => hf Cx dd σ fp' F' H' c (g.wide sub) E' x⟩
    · cases hm
  · cases hm
theorem ds_olIns (i : Nat) (ha : DA X cls W [e, e2] ma) (hN : X.N[i]? = some x := by rfl) (hv : Vis X.env.scope x := by first | exact Or.inl rfl | exact Or.inr (Or.inl rfl) | exact Or.inr (Or.inr rfl)) (hd : (x == ("__debug__" : Str)) = false := by decide) (hcd : (x == ("__classdict__" : Str)) = false := by decide)
    (hsw : swapsWith (.Call (.Attribute (.Name x p) "insert" apos) [e, e2] [] pos) none epos.line X.env = pure false := by rfl)
    (hbase : attributeBase (.Name x p) "insert" X.env (eval (.Name x p) X.env) = eval (.Name x p) X.env := by rfl)
    (hfew : ((backTo pos (starEach [e, e2] X.env)).all (fun x => !x.1) && (backToKw pos (keywordEach [] X.env)).all (fun x => x.1.isSome) && decide (([e, e2] : List Expr).length + ([] : List Keyword).length + (if ([] : List Keyword).isEmpty then 0 else 1) < 30)) = true := by rfl)
    (hline : (apos.endLine == pos.line) = true := by rfl) (hs : starEach [e, e2] X.env = (false, eval e X.env) :: starEach [e2] X.env := by rfl) (hplain : (backTo pos (starEach [e2] X.env)).any (·.1) = false := by rfl) :
    DS X cls W (.Expr (.Call (.Attribute (.Name x p) "insert" apos) [e, e2] [] pos) epos) (olInsM i ma) := by
  refine ps_imp (ps_expr (pe_bm PySem.F.plainAttrs_list PySem.F.slot_list_insert PySem.F.type_list_insert mt_insert (pv i hN hv hd hcd) ha hbase hfew hline hs hplain) hsw) fun D σ H h => ?_
  obtain ⟨F, fp, δ, E, r, hm, hf⟩ := h
  unfold olInsM at hm
  split at hm
  · rename_i dss0 hc0
    obtain ⟨a, bs0, hσ, ha0, _⟩ := E.ol hc0
    refine ⟨_, hσ, .inl ⟨rfl, _, SqL.of ha0⟩, F, fp, δ, E, ?_⟩
    split at hm
    · rename_i k d δ1 e1
      refine ⟨_, e1, fun fp1 F1 H1 g E1 vs rvs => ?_⟩
      split at hm
      · rename_i dss hc
        split at hm
        · rename_i hk
          cases hm
          obtain ⟨F2, fp2, g2, E2⟩ := E1.olOw hc
          have hl := (List.getElem?_eq_some_iff.mp hc).1
          obtain ⟨a', vs2, hσ', ha', da, wr⟩ := E2.wr (List.getElem?_set_self hl)
          rw [hσ] at hσ'
          cases hσ'
          cases rvs with
          | cons r1 rr =>
            cases rr with
            | cons r2 rr =>
              cases rr
              cases r1
              obtain ⟨E3, g3⟩ := wr _ _ (dpa_app (dpa_app (dpa_take k.toNat da) (.cons (dp_mono g2.fz _ r2) .nil)) (dpa_drop k.toNat da))
              rw [List.set_set] at E3
              exact ⟨a, vs2, k, _, rfl, rfl, ha', by rw [dpa_len da, List.length_map]; exact hk.2.2, hk.1, by omega, hf σ fp2 F2 _ ((g.trans g2).trans g3) E3⟩
        · cases hm
      · cases hm
    · rename_i n fs δ1 e1
      cases hm
      exact ⟨_, e1, fun Cx dd fp' F' H' c g E' x => hf Cx dd σ fp' F' H' c g E' x⟩
    · cases hm
  · cases hm
end
end DL

set_option maxRecDepth 100000
set_option maxHeartbeats 1000000
/-! DL14: lists of lists made by a comprehension; one sign of one of them set by the pen. -/
namespace DL
open PySem PySem.Spec PyProof.Rows L2 RZ
variable [CC : ClsCtx] [XC : XcCtx]

def compLN (t : Tgt) (vs : List Nat) (mt : M Bool) (me : M C) : List PyData → M (List (List PyData))
  | [], δ => some (.ok [] δ)
  | d :: ds, δ => match Tgt.set t d δ with
    | none => none
    | some δ1 => match mt δ1 with
      | some (.ok false δ2) => compLN t vs mt me ds (wipeD δ2 vs)
      | some (.ok true δ2) => match me δ2 with
        | some (.ok (.ow y) δ3) => match compLN t vs mt me ds (wipeD δ3 vs) with
          | some (.ok ys δ4) => some (.ok (y :: ys) δ4)
          | _ => none
        | _ => none
      | _ => none
def compAN (t : Tgt) (vs : List Nat) (mt : M Bool) (me : M C) (ds : List PyData) : M (List (List PyData)) := fun δ => if ds.length ≤ sizeLine then compLN t vs mt me ds (wipeD δ vs) else none
def compMN (mi : M (List PyData)) (t : Tgt) (vs : List Nat) (mt : M Bool) (me : M C) : M (List (List PyData)) := bnd mi fun ds => compAN t vs mt me ds
theorem compLN_ok {t : Tgt} {vs : List Nat} {mt : M Bool} {me : M C} : ∀ {ds : List PyData} {δ : Sl} {r : Rs (List (List PyData))}, compLN t vs mt me ds δ = some r → (∀ i ∈ vs, i < δ.length → δ[i]? = some .un) → ∃ ys δ', r = .ok ys δ' ∧ ∀ i ∈ vs, i < δ'.length → δ'[i]? = some .un
  | [], δ, r, h, hu => by cases h; exact ⟨_, _, rfl, hu⟩
  | d :: ds, δ, r, h, hu => by
    simp only [compLN] at h
    split at h
    · cases h
    · split at h
      · exact compLN_ok h fun i hi hl => wipeD_get_in hi (by rw [wipeD_len] at hl; exact hl)
      · split at h
        · split at h
          · rename_i e
            cases h
            obtain ⟨ys, δ', e1, e2⟩ := compLN_ok e fun i hi hl => wipeD_get_in hi (by rw [wipeD_len] at hl; exact hl)
            cases e1
            exact ⟨_, _, rfl, e2⟩
          · cases h
        · cases h
      · cases h
section
variable {K : PySem.W.Frag} {F H F' H' : Hp} {fp fp0 : List Addr} {H0 : Hp} {σ : L2.St} {δ : Sl}
/-- a list of lists that grows -/
theorem New.grow {D : Addr} {acc : List V} {accd : List (List PyData)} {y : List PyData} {fc fb : List Addr} {v : V} (n : New K fp0 H0 fp F H (.ref D) (.ol accd) fc) (hD : H D = some (.lst acc)) {fpb : List Addr} {Hb : Hp} (nb : New K fpb Hb fp F H v (.ow y) fb) (old : ∀ c, c ∈ fc → c ∉ fpb ∧ ∃ o, Hb c = some o) (new : ∀ c, c ∈ fpb ∨ Hb c = none → c ∈ fp0 ∨ H0 c = none) :
    ∃ fc', New K fp0 H0 fp F (upd H D (.lst (acc ++ [v]))) (.ref D) (.ol (accd ++ [y])) fc' ∧ (∀ c, c ∈ fc' → c ∈ fc ∨ c ∈ fb) ∧ D ∈ fc' := by
  cases n with
  | mk rep nd ap nw =>
    cases rep with
    | @ol _ bs _ h nF r =>
      cases nb with
      | mk repb ndb apb nwb =>
        cases repb with
        | @ow a vs _ ha na da =>
          rw [hD] at h
          obtain rfl : acc = bs.map V.ref := by injection h with h; injection h
          have aout : a ∉ D :: bs := fun hm => by
            obtain ⟨q1, o, q2⟩ := old a hm
            rcases nwb a (by simp) with z | z
            · exact q1 z
            · rw [q2] at z; cases z
          have aD : a ≠ D := fun z => aout (by simp [z])
          have nDb : D ∉ bs := (List.nodup_cons.mp nd).1
          refine ⟨D :: (bs ++ [a]), ⟨?_, ?_, ?_, ?_⟩, ?_, by simp⟩
          · have r2 : OlAll K F (upd H D (.lst (bs.map V.ref ++ [V.ref a]))) (bs ++ [a]) (accd ++ [y]) := (r.tr (H' := upd H D (.lst (bs.map V.ref ++ [V.ref a]))) (Same.refl _) (fun b o hb q => by rw [upd_ne fun z => nDb (by rw [← z]; exact hb)]; exact q) fun b hb => (r.there b hb).1).app (by rw [upd_ne aD]; exact ha) na da
            refine .ol (by rw [upd_same]; simp) nF r2
          · refine List.nodup_cons.mpr ⟨fun z => ?_, ?_⟩
            · rcases List.mem_append.mp z with q | q
              · exact nDb q
              · exact aD (List.mem_singleton.mp q).symm
            · rw [List.nodup_append]
              exact ⟨(List.nodup_cons.mp nd).2, by simp, fun x hx z hz e => aout (by
                obtain rfl : z = a := by simpa using hz
                rw [← e]; simp [hx])⟩
          · intro b hb
            rcases List.mem_cons.mp hb with q | q
            · exact ap b (by simp [q])
            · rcases List.mem_append.mp q with q | q
              · exact ap b (by simp [q])
              · exact apb b q
          · intro b hb
            rcases List.mem_cons.mp hb with q | q
            · exact nw b (by simp [q])
            · rcases List.mem_append.mp q with q | q
              · exact nw b (by simp [q])
              · exact new b (nwb b q)
          · intro c hc
            rcases List.mem_cons.mp hc with q | q
            · exact .inl (by simp [q])
            · rcases List.mem_append.mp q with q | q
              · exact .inl (by simp [q])
              · exact .inr q
end
theorem lc_DN {K : PySem.W.Frag} {cls : Str → Option Addr} {W : WX} {mi : M (List PyData)} {t : Tgt} {vs : List Nat} {mt : M Bool} {me : M C} {σ : L2.St} {H F : Hp} {fp : List Addr} {δ : Sl} {Q : VK} {r : Rs (List (List PyData))}
    (hts : ∀ i ∈ Tgt.slots t, i ∈ vs) (E : ER K F H σ δ fp) (hm : compMN mi t vs mt me δ = some r)
    (hx : ∀ n fs δ', r = .ex n fs δ' → ∀ Cx dd fp' F' H', cls n = some Cx → Go fp F H fp' F' H' → ER K F' H' σ δ' fp' → Xr K H F' H' dd fs → W (.ref Cx) (some dd) σ H')
    (hq : ∀ ys δ', r = .ok ys δ' → ∀ fp' F' H' v fc, Go fp F H fp' F' H' → ER K F' H' σ δ' fp' → New K fp H fp' F' H' v (.ol ys) fc → Q v H') :
    tLc (tIt K cls W mi) (Tgt.tg K t) (tT K cls W0 mt) (tN K cls W0 me) vs σ H Q := by
  unfold compMN bnd at hm
  cases e : mi δ with
  | none => rw [e] at hm; cases hm
  | some r1 =>
    rw [e] at hm
    refine ⟨F, fp, δ, E, r1, e, ?_⟩
    cases r1 with
    | ex n fs δ1 => cases hm; exact hx n fs δ1 rfl
    | ok ds δ1 =>
      intro fp1 F1 H1 g1 E1 J ok D hD
      simp only [compAN] at hm
      split at hm
      · rename_i hlen
        obtain ⟨ys0, δE, hr, hun⟩ := compLN_ok hm fun i hi hl => wipeD_get_in hi (by rw [wipeD_len] at hl; exact hl)
        subst hr
        obtain ⟨fpw, Ew, hw⟩ := E1.wipe vs
        have FD : F1 D = none := E1.sub.free hD
        have fD : D ∉ fpw := fun hb => by
          obtain ⟨_, o, z⟩ := E1.rep.there D (hw D hb)
          rw [hD] at z; cases z
        have n0 : New K fp1 H1 fpw F1 (upd H1 D (.lst [])) (.ref D) (.ol []) [D] := ⟨.ol upd_same FD .nil, by simp, (fun b hb => by
          obtain rfl : b = D := by simpa using hb
          exact fD), (fun b hb => by
          obtain rfl : b = D := by simpa using hb
          exact .inr hD)⟩
        refine ⟨fun i m H2 => m = ds.length - i ∧ i ≤ ds.length ∧ ∃ F2 fp2 δ2 acc accd ys fc, ER K F2 H2 (L2.wipe σ vs) δ2 fp2 ∧ Same F1 F2 ∧ Go fp1 F1 H1 fp2 F2 H2 ∧ H2 D = some (.lst acc) ∧ New K fp1 H1 fp2 F2 H2 (.ref D) (.ol accd) fc ∧ D ∈ fc ∧ acc.length ≤ i ∧
            compLN t vs mt me (ds.drop i) δ2 = some (.ok ys δE) ∧ accd ++ ys = ys0, ⟨_, rfl, Nat.zero_le _, F1, fpw, wipeD δ1 vs, [], [], ys0, [D], Ew.aside FD fD, Same.refl _, ?_, upd_same, n0, by simp, Nat.le_refl _, hm, rfl⟩, ?_⟩
        · exact (sub_go hw).aside hD
        · rintro i m H2 ⟨rfl, hi, F2, fp2, δ2, acc, accd, ys, fc, E2, s2, g2, aD, nN, Dfc, la, hc, ey⟩
          obtain ⟨ok1, ok2⟩ := ok i F2 H2 s2 E2.sub
          by_cases hl : i < ds.length
          · have ed : ds[i]? = some ds[i] := List.getElem?_eq_getElem hl
            obtain ⟨hgo, hy⟩ := ok1 _ ed
            rw [List.drop_eq_getElem_cons hl] at hc
            simp only [compLN] at hc
            refine .inr ⟨hgo, fun H' => ∃ F2 fp2 δ2 acc accd ys fc, ER K F2 H' (L2.wipe σ vs) δ2 fp2 ∧ Same F1 F2 ∧ Go fp1 F1 H1 fp2 F2 H' ∧ H' D = some (.lst acc) ∧ New K fp1 H1 fp2 F2 H' (.ref D) (.ol accd) fc ∧ D ∈ fc ∧ acc.length ≤ i + 1 ∧
              compLN t vs mt me (ds.drop (i + 1)) δ2 = some (.ok ys δE) ∧ accd ++ ys = ys0, fun H' q => ⟨ds.length - (i + 1), by omega, rfl, hl, q⟩, fun x H' y => ?_⟩
            obtain ⟨F', ex, rx⟩ := hy x H' y
            split at hc
            · cases hc
            · rename_i δa ea
              refine tgt_run t (E2.ext ex) rx ea fun σ3 fp3 g3 E3 w3 => ⟨by rw [w3 vs hts, wipe_wipe], ?_⟩
              have gx : Go fp2 F2 H2 fp3 F' H' := ex.go.trans g3
              have nN3 := nN.stay gx
              have aD3 : H' D = some (.lst acc) := ex.kp _ _ aD
              have wσ : L2.wipe σ3 vs = L2.wipe σ vs := by rw [w3 vs hts, wipe_wipe]
              cases et : mt δa with
              | none => rw [et] at hc; cases hc
              | some rt =>
                rw [et] at hc
                cases rt with
                | ex n fs δb => cases hc
                | ok b δb =>
                  refine ⟨F', fp3, δa, E3, _, et, fun fp4 F4 H4 g4 E4 v hv => ?_⟩
                  subst hv
                  have nN4 := nN3.stay g4
                  have aD4 : H4 D = some (.lst acc) := g4.kp D _ (nN3.ap D Dfc) aD3
                  cases v with
                  | false =>
                    simp only at hc
                    refine iteF ?_
                    obtain ⟨fp5, E5, h5⟩ := E4.wipe vs
                    rw [wσ] at E5
                    exact ⟨F4, fp5, wipeD δb vs, acc, accd, ys, fc, E5, s2.trans (gx.fz.trans g4.fz), (g2.trans (gx.trans g4)).trans (sub_go h5), aD4, nN4.stay (sub_go h5), Dfc, by omega, hc, ey⟩
                  | true =>
                    simp only at hc
                    refine iteT ?_
                    cases ee : me δb with
                    | none => rw [ee] at hc; cases hc
                    | some re =>
                      rw [ee] at hc
                      cases re with
                      | ex n fs δc => cases hc
                      | ok c δc =>
                        cases c with
                        | ow y =>
                          simp only at hc
                          refine ⟨F4, fp4, δb, E4, _, ee, fun fp5 F5 H5 g5 E5 v fb nb => ?_⟩
                          have nN5 := nN4.stay g5
                          have aD5 : H5 D = some (.lst acc) := g5.kp D _ (nN4.ap D Dfc) aD4
                          have gg : Go fp1 F1 H1 fp4 F4 H4 := g2.trans (gx.trans g4)
                          refine ⟨acc, aD5, by omega, ?_⟩
                          split at hc
                          · rename_i ys' δ4 eq
                            cases hc
                            have hold : ∀ c, c ∈ fc → c ∉ fp4 ∧ ∃ o, H4 c = some o := fun c hcc => ⟨nN4.ap c hcc, (nN4.rep.there c hcc).2⟩
                            have hnew : ∀ c, c ∈ fp4 ∨ H4 c = none → c ∈ fp1 ∨ H1 c = none := fun c hcc => gg.back hcc
                            obtain ⟨fc', n6, h6, D6⟩ := nN5.grow aD5 nb hold hnew
                            obtain ⟨fp6, E6, h7⟩ := E5.wipe vs
                            rw [wσ] at E6
                            have dF : F5 D = none := (nN5.rep.there D Dfc).1
                            have dfp : D ∉ fp6 := fun hb => nN5.ap D Dfc (h7 D hb)
                            refine ⟨F5, fp6, wipeD δc vs, acc ++ [v], accd ++ [y], ys', fc', E6.aside dF dfp, s2.trans (gx.fz.trans (g4.fz.trans g5.fz)), ((gg.trans g5).trans (sub_go h7)).aside hD, upd_same, ⟨n6.rep, n6.nd, fun b hb z => n6.ap b hb (h7 b z), n6.nw⟩, D6, by simp; omega, eq, by rw [← ey]; simp⟩
                          · cases hc
                        | _ => cases hc
          · have e0 : ds.drop i = [] := List.drop_eq_nil_of_le (by omega)
            rw [e0] at hc
            cases hc
            refine .inl ⟨ok2 (by omega), ?_⟩
            rw [List.append_nil] at ey
            subst ey
            obtain ⟨fp3, E3, h3⟩ := ER.unwipe (σ := σ) vs E2 (wipe_wipe σ vs) (wipe_length σ vs) hun
            have nf := nN.stay (sub_go h3)
            exact hq _ _ rfl fp3 F2 H2 _ fc ((g1.trans g2).trans (sub_go h3)) E3 (nf.back g1)
      · cases hm
section
variable {X : Cx} {cls : Str → Option Addr} {W : WX} {pos pos' p : Pos} {elt tg iter : Expr} {ifs : List Expr} {scope : Scope} {own : List (Str × Nat)} {mi : M (List PyData)} {mt : M Bool} {me : M C}
/-- x = [elt for tg in iter if ..], each elt a list of its own -/
theorem ds_setLcL (i : Nat) (t : Tgt) {y : Str} {py : Pos} {spos : Pos} (hc : X.calm = true) (hN : X.N.Nodup) (hi : DI X cls W tg iter mi) (ok : BlkOk X.N X.env.scope scope own) (hts : ∀ i ∈ Tgt.slots t, i ∈ own.map (·.2))
    (hg : ∀ (s : Shared) (H : Hp) (C : Addr) (cl : List (Str × Addr)) (fp : List Addr), PG (X.blk s H scope (compEnvC scope cl C X.env) fp) tg (Tgt.tg X.K t)) (ht : ∀ (s : Shared) (H : Hp) (C : Addr) (cl : List (Str × Addr)) (fp : List Addr), DTs (X.blk s H scope (compEnvC scope cl C X.env) fp) cls W0 ifs mt)
    (he : ∀ (s : Shared) (H : Hp) (C : Addr) (cl : List (Str × Addr)) (fp : List Addr), DN (X.blk s H scope (compEnvC scope cl C X.env) fp) cls W0 elt me)
    (hsw : swapsWith (.ListComp elt [⟨tg, iter, ifs, 0⟩] scope pos) (some (.Name y py)) spos.line X.env = pure true) (hy : X.N[i]? = some y := by rfl) (hyl : X.env.scope.names.lookup y = some .local := by rfl) (hs : ∀ x, foldedSetIterable iter X.env x = pure x := by intro _; rfl) :
    DS X cls W (.Assign [.Name y py] (.ListComp elt [⟨tg, iter, ifs, 0⟩] scope pos) spos) (bnd (compMN mi t (own.map (·.2)) mt me) fun dss => putC i (.ol dss)) := by
  refine ps_imp (L2.ps_setLc (tt := tT X.K cls W0 mt) (te := tN X.K cls W0 me) hc hN hy hyl hsw hi ok hg ht he hs) fun D' σ H h => ?_
  obtain ⟨F, fp, δ, E, r, hm, hf⟩ := h
  unfold bnd at hm
  cases e : compMN mi t (own.map (·.2)) mt me δ with
  | none => rw [e] at hm; cases hm
  | some r1 =>
    rw [e] at hm
    refine lc_DN (r := r1) hts E e (fun n fs δ' er => ?_) (fun ys δ' er fp' F' H' v fc g E' n => ?_)
    · subst er; cases hm; exact fun Cx dd fp' F' H' c g E x => hf Cx dd σ fp' F' H' c g E x
    · subst er
      unfold putC at hm
      simp only at hm
      split at hm
      · rename_i hl
        cases hm
        obtain ⟨fp2, E2, h2⟩ := n.put E' hl
        refine hf _ fp2 F' H' ⟨g.fz, g.kp, g.nw, fun b hb => ?_, g.al⟩ E2
        rcases h2 b hb with z | z
        · exact g.ow b z
        · exact n.nw b z
      · cases hm
/-- lines[at][f(pen, len(lines[at]))] = e -/
def olSetM (i j ip : Nat) (fn : Addr → Pen → List PyData → Option (PyData × Pen)) (me : M PyData) : M Ctl := bnd me fun d δ => match olAt i j δ, δ[ip]? with
  | some (dss, k, ds), some (.pen p P) => match fn p P [.int ds.length] with
    | some (.int n, P') => if 0 ≤ n ∧ n < ds.length then some (.ok .nx ((δ.set ip (.pen p P')).set i (.ol (dss.set k (ds.set n.toNat d))))) else none
    | _ => none
  | _, _ => none
end
section
variable {X : Cx} {cls : Str → Option Addr} {W : WX} {pos p1 p2 p3 p4 p5 p6 p7 q1 q2 q3 q4 q5 : Pos} {x y fx pn : Str} {e : Expr} {me : M PyData} {fn : Addr → Pen → List PyData → Option (PyData × Pen)} {k : Nat} {f : Addr} {fd : FuncData} {ps : List Str}
theorem ds_olSet (i j ip : Nat) (G : FnOk X.prog X.w X.K X.mg X.base (L2.CX X.prog X.w) k f fd ps (spP X.K 1 fn)) (hr : Room k X.A) (tk : Takes X W) (hm : X.mg fx = some (.ref f)) (hk : PySem.W.keepIn X.K (.ref f) = true) (hb : Binds X.K fd ps []) (he : DE X cls W e me) (hml : X.mg "len" = none)
    (hij : ip ≠ i := by decide) (hN : X.N[i]? = some x := by rfl) (hv : Vis X.env.scope x := by first | exact Or.inl rfl | exact Or.inr (Or.inl rfl) | exact Or.inr (Or.inr rfl)) (hd : (x == ("__debug__" : Str)) = false := by decide) (hcd : (x == ("__classdict__" : Str)) = false := by decide)
    (hN2 : X.N[j]? = some y := by rfl) (hv2 : Vis X.env.scope y := by first | exact Or.inl rfl | exact Or.inr (Or.inl rfl) | exact Or.inr (Or.inr rfl)) (hd2 : (y == ("__debug__" : Str)) = false := by decide) (hcd2 : (y == ("__classdict__" : Str)) = false := by decide)
    (hN3 : X.N[ip]? = some pn := by rfl) (hv3 : Vis X.env.scope pn := by first | exact Or.inl rfl | exact Or.inr (Or.inl rfl) | exact Or.inr (Or.inr rfl)) (hd3 : (pn == ("__debug__" : Str)) = false := by decide) (hcd3 : (pn == ("__classdict__" : Str)) = false := by decide)
    (hg : Gl X fx := by rfl) (hdb : (fx == ("__debug__" : Str)) = false := by decide) (hgl : Gl X "len" := by rfl)
    (hs1 : starEach [.Name pn q1, .Call (.Name "len" q2) [.Subscript (.Name x q3) (.Name y q4) q5] [] p5] X.env = (false, eval (.Name pn q1) X.env) :: starEach [.Call (.Name "len" q2) [.Subscript (.Name x q3) (.Name y q4) q5] [] p5] X.env := by rfl)
    (hpl1 : (backTo p6 (starEach [.Call (.Name "len" q2) [.Subscript (.Name x q3) (.Name y q4) q5] [] p5] X.env)).any (·.1) = false := by rfl)
    (hs2 : starEach [.Call (.Name "len" q2) [.Subscript (.Name x q3) (.Name y q4) q5] [] p5] X.env = (false, eval (.Call (.Name "len" q2) [.Subscript (.Name x q3) (.Name y q4) q5] [] p5) X.env) :: starEach [] X.env := by rfl)
    (hs3 : starEach [.Subscript (.Name x q3) (.Name y q4) q5] X.env = (false, eval (.Subscript (.Name x q3) (.Name y q4) q5) X.env) :: starEach [] X.env := by rfl) (hpl3 : (backTo p5 (starEach [] X.env)).any (·.1) = false := by rfl)
    (ha : ∀ v, assign (.Subscript (.Subscript (.Name x p1) (.Name y p2) p3) (.Call (.Name fx p4) [.Name pn q1, .Call (.Name "len" q2) [.Subscript (.Name x q3) (.Name y q4) q5] [] p5] [] p6) p7) X.env v = (do
      let ov ← holding [v] (eval (.Subscript (.Name x p1) (.Name y p2) p3) X.env)
      let iv ← holding [v, ov] (eval (.Call (.Name fx p4) [.Name pn q1, .Call (.Name "len" q2) [.Subscript (.Name x q3) (.Name y q4) q5] [] p5] [] p6) X.env)
      standAt p7
      holding [v, ov, iv] (setItem ov iv v)
      release [v, ov, iv] []) := by intro _; rfl)
    (hsw : swapsWithSole [.Subscript (.Subscript (.Name x p1) (.Name y p2) p3) (.Call (.Name fx p4) [.Name pn q1, .Call (.Name "len" q2) [.Subscript (.Name x q3) (.Name y q4) q5] [] p5] [] p6) p7] e pos.line X.env = pure false := by rfl)
    (hss : swappedStores [.Subscript (.Subscript (.Name x p1) (.Name y p2) p3) (.Call (.Name fx p4) [.Name pn q1, .Call (.Name "len" q2) [.Subscript (.Name x q3) (.Name y q4) q5] [] p5] [] p6) p7] e X.env = pure none := by rfl)
    (h1 : (assignEach [.Subscript (.Subscript (.Name x p1) (.Name y p2) p3) (.Call (.Name fx p4) [.Name pn q1, .Call (.Name "len" q2) [.Subscript (.Name x q3) (.Name y q4) q5] [] p5] [] p6) p7] X.env).map (·.2) = [assign (.Subscript (.Subscript (.Name x p1) (.Name y p2) p3) (.Call (.Name fx p4) [.Name pn q1, .Call (.Name "len" q2) [.Subscript (.Name x q3) (.Name y q4) q5] [] p5] [] p6) p7) X.env] := by rfl) :
    DS X cls W (.Assign [.Subscript (.Subscript (.Name x p1) (.Name y p2) p3) (.Call (.Name fx p4) [.Name pn q1, .Call (.Name "len" q2) [.Subscript (.Name x q3) (.Name y q4) q5] [] p5] [] p6) p7] e pos) (olSetM i j ip fn me) := by
  have hidx := pe_callSD (p := p4) (pos := p6) (E := WE W) G hr hg hm hk hb .nil (fun σ => passAt tk σ) (pa_cons (pv (pos := q1) ip hN3 hv3 hd3 hcd3) (pa_cons (pe_callB (p := q2) (pos := p5) call_len_seq hgl hml PySem.boot_len (pa_cons (pe_olAt (p := q3) (p2 := q4) (ipos := q5) i j hN hv hd hcd hN2 hv2 hd2 hcd2) pa_nil hs3) (he := hs3) (hpl := hpl3)) pa_nil hs2) hs1) hdb hs1 hpl1
  refine ps_imp (ps_asg he (pg_sub (pe_olAt i j hN hv hd hcd hN2 hv2 hd2 hcd2) hidx set_list ha) hsw hss h1) fun D σ H h => ?_
  obtain ⟨F, fp, δ, h⟩ := h
  refine Tm.mono (TmA.tm (ts_bnd (Rel := Dp X.K) h)) fun v H1 ⟨d, F1, fp1, δ1, rx, s1, _, E1, r, hm, hf⟩ => ?_
  dsimp only at hm
  split at hm
  · rename_i dss k ds p P ho hp
    split at hm
    · rename_i n P' hfn
      split at hm
      · rename_i hn
        cases hm
        obtain ⟨a, bs, b, vs, hσ, hσ2, hla, hat, hb, hbl, da, hc, _, _⟩ := E1.olAt ho
        obtain ⟨ca, hσp, hpH, hpF, hpc⟩ := E1.pen hp
        refine ⟨_, hσ, _, hσ2, a, _, _, _, rfl, rfl, SqL.of hla, hat, ?_⟩
        refine ⟨_, hσp, _, hσ, _, hσ2, a, _, _, _, rfl, rfl, SqL.of hla, hat, b, vs, rfl, .inl (SqL.of hbl), rfl, F1, p, ca, P, [.int vs.length], [.int ds.length], .int n, P', rfl, E1.sub, hpH, hpF, hpc, .cons (by rw [dpa_len da]; exact .int _) .nil, hfn, fun u F' H' ca' g s h1 h2 h3 ru => ?_⟩
        cases ru
        obtain ⟨E2, g2⟩ := E1.swap hp hσp crep_pen g s (.pen h1 h2 h3)
        have hbp : b ∉ [p] := fun z => by
          obtain rfl : b = p := by simpa using z
          rw [hbl] at hpH; cases hpH
        have hb' : H' b = some (.lst vs) := g.kp b _ hbp hbl
        have hap : a ∉ [p] := fun z => by
          obtain rfl : a = p := by simpa using z
          rw [hla] at hpH; cases hpH
        have ha' : H' a = some (.lst (bs.map V.ref)) := g.kp a _ hap hla
        have hc2 : (δ1.set ip (.pen p P'))[i]? = some (.ol dss) := by rw [List.getElem?_set_ne hij]; exact hc
        obtain ⟨a2, bs2, hσ', ha2, _, r2, _, u1, _⟩ := E2.ol hc2
        rw [hσ] at hσ'
        cases hσ'
        rw [ha'] at ha2
        have e2 : bs = bs2 := refs_inj (by injection ha2 with h'; injection h')
        subst e2
        obtain ⟨E3, g3⟩ := u1 k b (vs.set n.toNat v) (ds.set n.toNat d) hb (dpa_set n.toNat (dpa_mono g.fz _ da) (dp_mono g.fz _ rx))
        refine ⟨b, vs, n, n.toNat, rfl, rfl, hb', ?_, hf σ fp1 F' _ (g2.trans g3) E3⟩
        unfold ixN
        rw [if_pos hn.1, if_pos (by rw [dpa_len da]; exact hn.2)]
      · cases hm
    · cases hm
  · cases hm
end
end DL

set_option maxRecDepth 100000
set_option maxHeartbeats 1000000
/-! DL15: exceptions made and raised; several clauses with a name each. -/
namespace DL
open PySem PySem.Spec PyProof.Rows L2 RZ
variable [CC : ClsCtx] [XC : XcCtx]

/-! ### several clauses 'except C as n' -/
/-- the ends of a suite: the name's slot goes empty -/
def offI (D : Ends) (i : Nat) : Ends := { nx := fun τ G => D.nx (τ.set i none) G, rt := D.rt, bk := fun τ G => D.bk (τ.set i none) G, ct := fun τ G => D.ct (τ.set i none) G }
def wAsM (K : PySem.W.Frag) (Wo : WX) (D : Ends) : List (Value × Nat × (Addr → Value → Option Addr → TS)) → WX
  | [] => Wo
  | (cv, i, tsu) :: rest => fun cl dd τ G => ∃ yes, PySem.W.exmOne K cl cv = some yes ∧ (yes = true → ∀ ea, G ea = none → tsu ea cl dd (offI D i) (τ.set i (some (.ref ea))) G) ∧ (yes = false → wAsM K Wo D rest cl dd τ G)
inductive ClsAs (X : Cx) : List ExceptHandler → List (Value × Nat × (Addr → Value → Option Addr → TS)) → Prop
  | done : ClsAs X [] []
  | more {xn n : Str} {i : Nat} {cv : Value} {tsu : Addr → Value → Option Addr → TS} {st0 : Stmt} {sts : List Stmt} {np hp : Pos} {rest : List ExceptHandler} {l : List (Value × Nat × (Addr → Value → Option Addr → TS))} (hi : X.N[i]? = some n) (hk : X.env.kindOf n = some .local) (hc : Names X xn cv)
      (hsu : ∀ (ea : Addr) (eo : Obj) (cl : Value) (dd : Option Addr) (pl : List (Addr × Obj)), Zc cl dd eo → (∃ fs, eo.data = .fields fs) → PSs (X.suite ea ((ea, eo) :: pl)) (st0 :: sts) (tsu ea cl dd)) (r : ClsAs X rest l) :
      ClsAs X (.ExceptHandler (some (.Name xn np)) (some n) (st0 :: sts) hp :: rest) ((cv, i, tsu) :: l)
section
variable {X : Cx} {body : List Stmt} {hd0 : ExceptHandler} {hds : List ExceptHandler} {l : List (Value × Nat × (Addr → Value → Option Addr → TS))} {pos : Pos} {tb : WX → TS} {Wo : WX}
theorem ps_tryAs (hs : X.stack = X.env :: X.outer) (hf : X.env.frame = some X.env.locals) (hN : X.N.Nodup) (tk : Takes X Wo)
    (hb : ∀ (W : WX) (pl : List (Addr × Obj)) (xe : Value → Shared → Prop), Takes (X.tr pl xe) W → PassesOwn (model X.prog X.w) X.A X.env xe → PSs (X.tr pl xe) body (tb W)) (hh : ClsAs X (hd0 :: hds) l) :
    PS X (.Try body (hd0 :: hds) [] [] pos) (fun D τ G => tb (wAsM X.K Wo D l) D τ G) := by
  refine ⟨fun pins sh τ G D II hw => ?_⟩
  have okX := II.ok
  have hframes : X.A.frames = some (X.env :: X.outer) := by rw [okX.frames, hs]
  refine wpAny_Try_except (wpAny_mono ((hb (wAsM X.K Wo D l) (X.pn ++ pins) (fun ev sA => wpAny (model X.prog X.w) X.A (noteFrame ev X.env) (fun _ sB => wpAny (model X.prog X.w) X.A (setFlight ev none) (fun _ sC =>
    wpAny (model X.prog X.w) X.A (handleBy ev X.env (hd0 :: hds)) (SP X pins D) X.xe sC) X.xe sB) X.xe sA) (fun ev sx hx => ?_) PassesOwn.looking).run [] sh τ G D (II.toTry _) hw) (fun fl sE hsp => ?_) (fun _ _ he => he))
  · obtain ⟨ea, B, sI, pl2, τ2, G2, cl, dd, rfl, Jt, nb, up, sky, na, os, ag, wish⟩ := hx
    have JJ : Inv X pins τ2 G2 sI := Jt.ofTry okX
    have sky2 : Sky B (X.env :: X.outer) ea (Zc cl dd) X.env.locals sx.heap := by rw [← hs]; exact sky
    show wpAny (model X.prog X.w) X.A (noteFrame (.ref ea) X.env) _ _ _
    refine Sky.land Zc.steady hframes hf sky2 fun hp3 fly3 up3 => ?_
    have J3 : Inv X pins τ2 G2 { sx with heap := hp3 } := JJ.landed nb fly3.1 (up.trans up3) os ag
    obtain ⟨eo3, fs3, get3, z3, dat3⟩ := fly3.there
    have noFrame : ea ∉ frs (X.env :: X.outer) := fun hm => by
      obtain ⟨_, o2, e2, hnf⟩ := fly3.2.2.1.mem hm
      rw [get3] at e2
      cases e2
      exact hnf _ dat3
    have noL : ea ≠ X.env.locals := fun z => noFrame (List.mem_filterMap.mpr ⟨X.env, List.mem_cons_self, by rw [hf, z]⟩)
    have noF : ea ∉ X.fs := fun hm => by
      obtain ⟨env2, he, q⟩ := List.mem_filterMap.mp hm
      exact noFrame (List.mem_filterMap.mpr ⟨env2, List.mem_cons_of_mem _ he, q⟩)
    have S3 := J3.suite get3 dat3 na noL noF
    have all : ∀ {hs2 : List ExceptHandler} {l2 : List (Value × Nat × (Addr → Value → Option Addr → TS))}, ClsAs X hs2 l2 → wAsM X.K Wo D l2 cl dd τ2 G2 → wpAny (model X.prog X.w) X.A (handleBy (.ref ea) X.env hs2) (SP X pins D) X.xe { sx with heap := hp3 } := by
      intro hs2 l2 hk2
      induction hk2 with
      | done =>
        intro wish
        refine wpAny_handleBy_nil ?_
        obtain ⟨_, _, _, eo, fs, TT, oT, ts2, he, hz, hd, h1, _⟩ := id fly3
        unfold PySem.passOn
        refine wpAny_bind (wpAny_field he hd h1 ?_)
        rw [if_neg (show ¬ ((Value.ref TT == Value.none) = true) from by simp)]
        have last : wpAny (model X.prog X.w) X.A (setFlight (.ref ea) X.env.frame) (fun _ sD => wpAny (model X.prog X.w) X.A (throw (.ref ea) : Sem Flow) (SP X pins D) X.xe sD) X.xe { sx with heap := hp3 } := by
          rw [hf]
          exact HandSPX.setFlight_upZ fly3 fun hp4 hh4 up4 => wpAny_throw (tk _ _ ⟨ea, B, sI, pins, τ2, G2, cl, dd, rfl, JJ, nb, (up.trans up3).trans up4, .inr (.inr (by rw [hs]; exact hh4)), na, os, ag, wish⟩)
        first
          | exact wpAny_bind (wpAny_pure (wpAny_bind last))
          | exact wpAny_bind last
      | @more xn n i cv tsu st0 sts np hp rest l3 hi hkl hc hsu r ih =>
        intro wish
        obtain ⟨yes, hyes, h1, h0⟩ := wish
        refine wpAny_handleBy_cons (codeAny_handlers_test ?_) (by intro q; cases q)
        have looksT : PySem.W.Looks (model X.prog X.w) hp3 (typeOf (.ref ea)) cl := fun A Q E s k q => wpAny_typeOf_ref (k _ _ get3) (by rw [z3.1]; exact q)
        have looksM := PySem.W.exm_one (M := model X.prog X.w) (J3.kIn) looksT hyes
        have named : ∀ {Q : Value → Shared → Prop} {E : Value → Shared → Prop}, Q cv { sx with heap := hp3 } → wpAny (model X.prog X.w) (X.A.mark (some (.ref ea))) (eval (.Name xn np) X.env) Q E { sx with heap := hp3 } := fun {Q E} q => by
          obtain ⟨hg, hdbg, hm | ⟨hm, hv, hnn⟩⟩ := hc
          · exact ld_glob (X := X.suite ea ((ea, eo3) :: (X.pn ++ pins))) S3 hg hm q hdbg
          · exact ld_blt (X := X.suite ea ((ea, eo3) :: (X.pn ++ pins))) S3 hg hm hv q hnn hdbg
        refine named (looksM.here ?_)
        cases yes with
        | false => exact ih (h0 rfl)
        | true =>
          refine codeAny_handlers_suite_as (HandSPX.lands_againZ fly3 fun hp4 fly4 up4 => ?_)
          have J4 : Inv X pins τ2 G2 { sx with heap := hp4 } := JJ.landed nb fly4.1 ((up.trans up3).trans up4) os ag
          obtain ⟨eo4, fs4, get4, z4, dat4⟩ := fly4.there
          have S4 := J4.suite get4 dat4 na noL noF
          refine store_ok (X := X.suite ea ((ea, eo4) :: (X.pn ++ pins))) (v := .ref ea) S4 hN hi (.inl hkl) rfl (fun s5 S5 => ?_) (.inr hkl)
          refine wpAny_mono ((hsu ea eo4 cl dd (X.pn ++ pins) z4 ⟨_, dat4⟩).run [] s5 _ G2 _ S5 (h1 rfl ea na)) (fun fl s6 hsp => ?_) (fun _ _ z => False.elim z)
          have fin : ∀ {τ6 : L2.St} {G6 : Hp} {Q : Shared → Prop}, Inv (X.suite ea ((ea, eo4) :: (X.pn ++ pins))) [] τ6 G6 s6 → (∀ s7, Inv X pins (τ6.set i none) G6 s7 → Q s7) →
              wpAny (model X.prog X.w) X.A (do bindName X.env n .none; unbindBehindTheSuite X.env n hp) (fun _ s7 => Q s7) X.xe s6 := fun {τ6 G6 Q} S6 hq => gone_ok (S6.unsuite okX) hN hi hkl hq
          cases fl with
          | next =>
            obtain ⟨τ6, G6, S6, q6⟩ := hsp
            exact fin S6 fun _ J7 => ⟨_, _, J7, q6⟩
          | brk =>
            obtain ⟨τ6, G6, S6, q6⟩ := hsp
            exact fin S6 fun _ J7 => ⟨_, _, J7, q6⟩
          | cont =>
            obtain ⟨τ6, G6, S6, q6⟩ := hsp
            exact fin S6 fun _ J7 => ⟨_, _, J7, q6⟩
          | ret u =>
            obtain ⟨v6, τ6, G6, S6, r6, q6⟩ := hsp
            exact fin S6 fun _ J7 => ⟨_, _, _, J7, r6, q6⟩
    exact all hh wish
  · cases fl with
    | next =>
      obtain ⟨τ2, G2, Jt, q⟩ := hsp
      exact wpAny_execs_nil ⟨τ2, G2, Jt.ofTry okX, q⟩
    | brk =>
      obtain ⟨τ2, G2, Jt, q⟩ := hsp
      exact ⟨τ2, G2, Jt.ofTry okX, q⟩
    | cont =>
      obtain ⟨τ2, G2, Jt, q⟩ := hsp
      exact ⟨τ2, G2, Jt.ofTry okX, q⟩
    | ret u =>
      obtain ⟨v, τ2, G2, Jt, r, q⟩ := hsp
      exact ⟨v, τ2, G2, Jt.ofTry okX, r, q⟩
end
end DL

set_option maxRecDepth 100000
set_option maxHeartbeats 1000000
/-! DL16: the __init__ of an exception's class; raise. -/
namespace DL
open PySem PySem.Spec PyProof.Rows L2 RZ
variable [CC : ClsCtx] [XC : XcCtx]

abbrev tv (i : Nat) : TE := fun σ H Q => ∃ v, σ[i]? = some (some v) ∧ Q v H
def tInit (K : PySem.W.Frag) : List (Str × Nat) → TS
  | [] => fun D σ H => D.nx σ H
  | (f, i) :: r => tSeq (tOst K f (tv 0) (tv i)) (tInit K r)
def pickAll (σ : L2.St) : List Nat → List V → Prop
  | [], [] => True
  | i :: is, v :: vs => σ[i]? = some (some v) ∧ pickAll σ is vs
  | _, _ => False
theorem init_old {K : PySem.W.Frag} {C a : Addr} (T : OexC K C) {D : Ends} {σ : L2.St} (h0 : σ[0]? = some (some (.ref a))) : ∀ (l : List (Str × Nat)) (ws : List V) (fs : List (Str × V)) (H : Hp) (dx : Addr), (∀ p ∈ l, PySem.W.findIn K (.ref C) p.1 = some none) →
    pickAll σ (l.map (·.2)) ws → H a = some (exo a C (some dx)) → H dx = some (exd dx fs) → dx ≠ a → fs.length + l.length ≤ 900 → D.nx σ (upd H dx (exd dx (((l.map (·.1)).zip ws).reverse ++ fs))) → tInit K l D σ H
  | [], ws, fs, H, dx, _, hp, ha, hd, hne, _, q => by
    cases ws with
    | nil =>
      have e : upd H dx (exd dx ((([] : List Str).zip ([] : List V)).reverse ++ fs)) = H := by
        funext b
        by_cases hb : b = dx
        · rw [hb, upd_same]; exact hd.symm
        · rw [upd_ne hb]
      show D.nx σ H
      rw [← e]; exact q
    | cons _ _ => exact hp.elim
  | (f, i) :: l, [], _, _, _, _, hp, _, _, _, _, _ => hp.elim
  | (f, i) :: l, w :: ws, fs, H, dx, hno, hp, ha, hd, hne, hl, q => by
    refine ⟨w, hp.1, .ref a, h0, a, C, rfl, T, hno _ List.mem_cons_self, .inr ⟨dx, fs, ha, hd, by simp at hl; omega, ?_⟩⟩
    refine init_old T h0 l ws ((f, w) :: fs) _ dx (fun p hp => hno p (List.mem_cons_of_mem _ hp)) hp.2 (by rw [upd_ne (Ne.symm hne)]; exact ha) upd_same hne (by simp at hl ⊢; omega) ?_
    have e : upd (upd H dx (exd dx ((f, w) :: fs))) dx (exd dx (((l.map (·.1)).zip ws).reverse ++ (f, w) :: fs)) = upd H dx (exd dx (((((f, i) :: l).map (·.1)).zip (w :: ws)).reverse ++ fs)) := by
      funext b
      by_cases hb : b = dx
      · rw [hb, upd_same, upd_same]; simp
      · rw [upd_ne hb, upd_ne hb, upd_ne hb]
    rw [e]; exact q
theorem init_run {K : PySem.W.Frag} {C a : Addr} (T : OexC K C) {D : Ends} {σ : L2.St} (h0 : σ[0]? = some (some (.ref a))) {f : Str} {i : Nat} {l : List (Str × Nat)} {w : V} {ws : List V} {H : Hp} (hno : ∀ p ∈ (f, i) :: l, PySem.W.findIn K (.ref C) p.1 = some none)
    (hp : pickAll σ (((f, i) :: l).map (·.2)) (w :: ws)) (ha : H a = some (exo a C none)) (hl : l.length ≤ 800) (q : ∀ dx, H dx = none → dx ≠ a → D.nx σ (upd (upd H dx (exd dx (((((f, i) :: l).map (·.1)).zip (w :: ws)).reverse))) a (exo a C (some dx)))) : tInit K ((f, i) :: l) D σ H := by
  refine ⟨w, hp.1, .ref a, h0, a, C, rfl, T, hno _ List.mem_cons_self, .inl ⟨ha, fun dx hdx hne => ?_⟩⟩
  refine init_old T h0 l ws [(f, w)] _ dx (fun p hp => hno p (List.mem_cons_of_mem _ hp)) hp.2 upd_same (by rw [upd_ne hne, upd_same]) hne (by simp; omega) ?_
  have e : upd (upd (upd H dx (exd dx [(f, w)])) a (exo a C (some dx))) dx (exd dx (((l.map (·.1)).zip ws).reverse ++ [(f, w)])) = upd (upd H dx (exd dx (((((f, i) :: l).map (·.1)).zip (w :: ws)).reverse))) a (exo a C (some dx)) := by
    funext b
    by_cases hb : b = dx
    · rw [hb, upd_same, upd_ne hne, upd_same]; simp
    · rw [upd_ne hb]
      by_cases hb2 : b = a
      · rw [hb2, upd_same, upd_same]
      · rw [upd_ne hb2, upd_ne hb2, upd_ne hb, upd_ne hb]
  rw [e]; exact q dx hdx hne
def spIn (C : Addr) (names : List Str) : Sp := fun vs H Q _ => ∃ a ws, vs = .ref a :: ws ∧ ws.length = names.length ∧ H a = some (exo a C none) ∧ ∀ dx, H dx = none → dx ≠ a → Q .non (upd (upd H dx (exd dx (names.zip ws).reverse)) a (exo a C (some dx)))
section
variable {P : Program} {w : World} {K : PySem.W.Frag} {mg : Str → Option Value} {base : Heap} {x qual : Str} {st : Stmt} {f C : Addr} {fd : FuncData} {N ps : List Str} {k : Nat} {n1 : Str} {names : List Str}
theorem pick_start : ∀ (ws : List V) (pre : L2.St) (tl : L2.St), pickAll (pre ++ (ws.map some ++ tl)) (List.range' pre.length ws.length) ws
  | [], pre, tl => trivial
  | v :: ws, pre, tl => by
    refine ⟨by simp, ?_⟩
    have := pick_start ws (pre ++ [some v]) tl
    simpa using this
theorem fn_init {p0 : Str} (T : OexC K C) (hno : ∀ f ∈ n1 :: names, PySem.W.findIn K (.ref C) f = some none) (Fu : Fun K x qual st f fd) (S : FnScope N (p0 :: ps) (defScope st)) (hl : ps.length = (n1 :: names).length) (hln : names.length ≤ 800)
    (hbody : ∀ (cdv : Value) (A : Around) (outer : List Env) (s : Shared) (H : Hp) (E : XK), PSs (bodyCx P w K mg base N qual st f cdv A outer s H E) (defBody st) (tInit K ((n1 :: names).zip (List.range' 1 (n1 :: names).length)))) :
    FnOk P w K mg base (L2.CX P w) (k + 1) f fd (p0 :: ps) (spIn C (n1 :: names)) := by
  refine Fun.okX Fu S (fun vs H Q E h => ?_) fun cdv A outer s H vs Q E hr hsp => ⟨_, hbody cdv A outer s H E, ?_⟩
  · obtain ⟨a, ws, rfl, hw, _⟩ := h
    rw [List.length_cons, List.length_cons, hw, hl]
  · obtain ⟨a, ws, rfl, hw, ha, q⟩ := hsp
    cases ws with
    | nil => cases hw
    | cons v ws =>
      have el : ((n1 :: names).zip (List.range' 1 (n1 :: names).length)) = (n1, 1) :: names.zip (List.range' 2 names.length) := by simp [List.range'_succ]
      rw [el]
      have m1 : ((n1, 1) :: names.zip (List.range' 2 names.length)).map (·.1) = n1 :: names := by
        simp only [List.map_cons]
        rw [List.map_fst_zip (by simp)]
      have m2 : ((n1, 1) :: names.zip (List.range' 2 names.length)).map (·.2) = List.range' 1 (v :: ws).length := by
        simp only [List.map_cons]
        rw [List.map_snd_zip (by simp), hw]
        simp [List.range'_succ]
      refine init_run T (a := a) (by simp [L2.start]) (fun p hp => hno p.1 ?_) (w := v) (ws := ws) ?_ ha (by simp; omega) (fun dx h1 h2 => ?_)
      · rw [← m1]; exact List.mem_map_of_mem hp
      · rw [m2]
        have := pick_start (v :: ws) [some (.ref a)] (List.replicate (N.length - (V.ref a :: v :: ws).length) none)
        simpa [L2.start] using this
      · rw [m1]; exact q dx h1 h2
end
section
variable {X : Cx} {e o : Expr} {f : Str} {i : Nat} {p pos : Pos} {rest : List Stmt} {l : List (Str × Nat)}
theorem init_nil : PSs X [] (tInit X.K []) := pss_nil
theorem init_cons {x y : Str} {p1 p2 p3 : Pos} (hr : PSs X rest (tInit X.K l)) (hN : X.N[0]? = some x := by rfl) (hN2 : X.N[i]? = some y := by rfl) (hv : Vis X.env.scope x := by first | exact Or.inl rfl | exact Or.inr (Or.inl rfl) | exact Or.inr (Or.inr rfl)) (hd : (x == ("__debug__" : Str)) = false := by decide) (hcd : (x == ("__classdict__" : Str)) = false := by decide)
    (hv2 : Vis X.env.scope y := by first | exact Or.inl rfl | exact Or.inr (Or.inl rfl) | exact Or.inr (Or.inr rfl)) (hd2 : (y == ("__debug__" : Str)) = false := by decide) (hcd2 : (y == ("__classdict__" : Str)) = false := by decide) (hs : swapsWith (.Name y p2) (some (.Attribute (.Name x p1) f p3)) pos.line X.env = pure false := by rfl) :
    PSs X (.Assign [.Attribute (.Name x p1) f p3] (.Name y p2) pos :: rest) (tInit X.K ((f, i) :: l)) := pss_cons (ps_ost (pv 0 hN hv hd hcd) (pv i hN2 hv2 hd2 hcd2) hs) hr
end

/-! ### raise -/
def raiseM (n : Str) (names : List Str) (ma : M (List PyData)) : M Ctl := bnd ma fun ds => if ds.length = names.length then thr n (names.zip ds).reverse else fun _ => none
section
variable {X : Cx} {cls : Str → Option Addr} {W : WX} {pos pos' p : Pos} {x n : Str} {e : Expr} {es : List Expr} {ma : M (List PyData)} {C fI : Addr} {fd : FuncData} {k : Nat} {ps names : List Str}
theorem look_zip {K : PySem.W.Frag} {F : Hp} : ∀ {names : List Str} {vs : List V} {ds : List PyData} {ac : List (Str × V)} {ad : List (Str × PyData)}, DpAll K F vs ds → (∀ f d, ad.lookup f = some d → ∃ v, ac.lookup f = some v ∧ Dp K F v d) → (∀ f, ad.lookup f = none → ac.lookup f = none) →
    ∀ f d, ((names.zip ds).reverse ++ ad).lookup f = some d → ∃ v, ((names.zip vs).reverse ++ ac).lookup f = some v ∧ Dp K F v d
  | [], _, _, ac, ad, h, g, g2, f, d, e => by simp at e ⊢; exact g f d e
  | _ :: _, _, _, ac, ad, .nil, g, g2, f, d, e => by simp at e ⊢; exact g f d e
  | n :: names, _, _, ac, ad, .cons (v := v) (vs := vt) (d := dd) (ds := dt) h1 h2, g, g2, f, d, e => by
    have e1 : ((n :: names).zip (dd :: dt)).reverse ++ ad = (names.zip dt).reverse ++ ((n, dd) :: ad) := by simp
    rw [e1] at e
    have := look_zip (ac := (n, v) :: ac) (ad := (n, dd) :: ad) h2 (fun f d h => ?_) (fun f h => ?_) f d e
    · simpa using this
    · rw [List.lookup_cons] at h ⊢
      cases q : f == n with
      | true => rw [q] at h; cases h; exact ⟨v, rfl, h1⟩
      | false => rw [q] at h; exact g f d h
    · rw [List.lookup_cons] at h ⊢
      cases q : f == n with
      | true => rw [q] at h; cases h
      | false => rw [q] at h; exact g2 f h
/-- raise C(e, ..), C with an __init__ that keeps what it gets -/
theorem ds_raise (n : Str) (hC : cls n = some C) (hc : X.calm = true) (tk : Takes X W) (T : OexC X.K C) (iC : PySem.W.findIn X.K (.ref C) "__init__" = some (some (.ref fI))) (tI : PySem.W.typeIn X.K (.ref fI) = some (.type "function"))
    (G : FnOk X.prog X.w X.K X.mg X.base (L2.CX X.prog X.w) k fI fd ps (spIn C names)) (hr : Room (k + 1) X.A) (hb : Binds X.K fd ps []) (hm : X.mg x = some (.ref C)) (ha : DA X cls W (e :: es) ma) (hln : names.length ≤ 900) (hg : Gl X x := by rfl) (hdb : (x == ("__debug__" : Str)) = false := by decide)
    (he : starEach (e :: es) X.env = (false, eval e X.env) :: starEach es X.env := by rfl) (hpl : (backTo pos (starEach es X.env)).any (·.1) = false := by rfl) :
    DS X cls W (.Raise (some (.Call (.Name x p) (e :: es) [] pos)) none pos') (raiseM n names ma) := by
  refine ps_imp (L2.ps_raise hc tk (pmk_oex T iC tI G hr hb .nil L2.passL hg hm ha hdb he hpl)) fun D σ H h => ?_
  obtain ⟨F, fp, δ, h⟩ := h
  refine Tm.mono (TmA.tm (ts_bnd (Rel := DpAll X.K) h)) fun vs H1 ⟨ds, F1, fp1, δ1, rx, s1, _, E1, r, hm, hf⟩ => ?_
  split at hm
  · rename_i hl
    cases hm
    refine ⟨by rw [dpa_len rx, hl]; omega, fun a na => ⟨a, vs, by rw [List.append_nil], by rw [dpa_len rx, hl], upd_same, fun dx hdx hne => ⟨rfl, dx, _, by rw [upd_same], by rw [upd_ne hne, upd_same], ?_, ?_⟩⟩⟩
    · rw [upd_ne hne] at hdx; exact hdx
    · have n1 : H1 dx = none := by rw [upd_ne hne] at hdx; exact hdx
      have sm : Same H1 (upd (del (upd (upd (upd H1 a (exo a C none)) dx (exd dx (names.zip vs).reverse)) a (exo a C (some dx))) a) dx (.xd (names.zip vs).reverse)) := fun b u eb => by
        rw [upd_ne (ne_of_none eb n1), del_ne (ne_of_none eb na), upd_ne (ne_of_none eb na), upd_ne (ne_of_none eb n1), upd_ne (ne_of_none eb na)]
        exact eb
      have xx : Ext F1 H1 F1 _ := ⟨Same.refl _, sm, fun a h n => absurd h n, E1.sub.trans sm⟩
      refine hf C dx σ fp1 F1 _ hC xx.go (E1.ext xx) ⟨n1, _, upd_same, fun f d hfd => ?_⟩
      have := look_zip (ac := []) (ad := []) (names := names) rx (fun f d h => by cases h) (fun f h => rfl) f d (by simpa using hfd)
      simpa using this
  · cases hm
end
end DL

set_option maxRecDepth 100000
set_option maxHeartbeats 1000000
/-! DL17: a lambda without parameters, handed to a def that calls it. -/
namespace DL
open PySem PySem.Spec PyProof.Rows L2 RZ LamX
variable [CC : ClsCtx] [XC : XcCtx]

/-- what the making of a lambda does: nothing, or a new code object in the table -/
def LamStep (H : Hp) (P : Addr) (q : Str) (ps : Array Value) (H1 : Hp) : Prop := H1 = H ∨ ∃ (pos : Pos) (c : Addr), H c = none ∧ H1 = upd (upd H P (.tbl (ps ++ #[rawInt pos.line, rawInt pos.col, .ref c]))) c (CodeO c q)
def TabAt (H : Hp) (P : Addr) (q : Str) (ps : Array Value) : Prop := H P = some (.tbl ps) ∧ TriplesOk ps.toList ∧ ∀ (pos : Pos) (cv : Value), codeAmong pos ps.toList = some cv → ∃ c, cv = .ref c ∧ H c = some (CodeO c q)
section
variable {X : Cx} {pins : List (Addr × Obj)} {σ : L2.St} {H : Hp} {s : Shared}
theorem lam_madeD {c P : Addr} {q : Str} {ps : Array Value} {params : Arguments} {body : Expr} {scope : Scope} {pos : Pos} {E : Value → Shared → Prop} {Q : Value → Shared → Prop} (II : Inv X pins σ H s) (TB : TabB X.base X.mg c P) (hcode : X.env.code = .ref c) (hqn : X.env.qual ++ "<lambda>" = q)
    (hT : TabAt H P q ps) (hdef : defaultsOf params X.env = ([], [])) (hfree : ∀ y ∈ scope.names, y.2 = .free → ∃ c, X.env.cells.lookup y.1 = some c)
    (k : ∀ (f c' : Addr) (pm ctv : Value) (H1 : Hp) (s1 : Shared), Inv X pins σ H1 s1 → LamStep H P q ps H1 →
      s1.heap.get? f = some (PySem.W.kla_obj "<lambda>" q params body scope (cloFrom X.env.cells scope.names []) pm c' ctv) → H1 f = none → f ∉ frs X.stack → H1 c' = some (CodeO c' q) → Q (.ref f) s1) :
    wpAny (model X.prog X.w) X.A (eval (.Lambda params body scope pos) X.env) Q E s := by
  subst hqn
  obtain ⟨hP, ht, ha⟩ := hT
  have heapP : s.heap.get? P = some { cls := .none, data := .fields ps } := II.hok P _ hP
  have blt : s.heap.BuiltinsAt X.mg P := TB.bm.keeps II.bk
  have off : ∀ f, s.heap.objs.size ≤ f → f ∉ frs X.stack := fun f hf z => by
    rcases List.mem_cons.mp (II.stkSub _ z) with e | e
    · have lt0 := II.lt
      rw [← e] at lt0
      exact Nat.lt_irrefl _ (Nat.lt_of_lt_of_le lt0 hf)
    · exact II.nofs hf e
  refine PySem.W.kla_eval hdef ?_
  cases hc : codeAmong pos ps.toList with
  | some cv =>
    obtain ⟨c', rfl, hco⟩ := ha pos cv hc
    refine PySem.W.kla_makeFunctionHit (mg := X.mg) (c := c) (P := P) (ps := ps) (closure_ok hfree) II.ok.glob (II.mod.glob.keeps II.bk) hcode (TB.code.keeps II.bk) heapP ht hc blt fun ctv hp2 tk2 hx hsz => ?_
    exact k hp2.objs.size c' _ ctv H _ (II.kept fun b o e => Heap.get?_push_of_some _ (hx b o e)) (.inl rfl) (Heap.get?_push_size _ rfl) (II.hok.fresh hsz) (off _ hsz) hco
  | none =>
    refine PySem.W.kla_makeFunction (mg := X.mg) (c := c) (P := P) (ps := ps) (closure_ok hfree) II.ok.glob (II.mod.glob.keeps II.bk) hcode (TB.code.keeps II.bk) heapP ht hc TB.gP blt fun c' ctv hp2 tk2 hx hge hlt hrec htb => ?_
    obtain ⟨c2, oc, fs, tk3, e2, hoc, hd, hv⟩ := hrec
    cases e2
    have hsz : s.heap.objs.size ≤ hp2.objs.size := by omega
    have nC : H c' = none := II.hok.fresh hge
    have J := inv_table (t' := tk2) (more := #[rawInt pos.line, rawInt pos.col, .ref c']) (h' := hp2.push (PySem.W.kla_obj "<lambda>" (X.env.qual ++ "<lambda>") params body scope (cloFrom X.env.cells scope.names []) ((X.mg "__name__").getD .none) c' ctv)) II hP
      (fun b o hb e => Heap.get?_push_of_some _ (hx b o hb e)) (Heap.get?_push_of_some _ htb) hge ⟨oc, fs, tk3, Heap.get?_push_of_some _ hoc, hd, hv⟩
    refine k hp2.objs.size c' _ ctv _ _ J (.inr ⟨pos, c', nC, rfl⟩) (Heap.get?_push_size _ rfl) ?_ (off _ hsz) upd_same
    have m1 : hp2.objs.size ≠ c' := by omega
    have m2 : hp2.objs.size ≠ P := Nat.ne_of_gt (Nat.lt_of_lt_of_le (Heap.lt_size heapP) hsz)
    rw [upd_ne m1, upd_ne m2]
    exact II.hok.fresh hsz
end
def zCx (X : Cx) (Ng : List Str) (x : Str) (sg : Scope) (g : Addr) (cdg : Value) (s : Shared) (H : Hp) : Cx := cxOf C8.CX0 X.prog X.w X.K X.mg X.base Ng x sg g cdg X.A X.stack s H C8.E0
/-- the def that calls what it got, a wish of exceptions at the very state -/
def GivesS (X : Cx) (Ng : List Str) (x : Str) (sg : Scope) (g : Addr) (cdg : Value) (bg : List Stmt) (a : Str) (q : Str) (TT : (XK → Hp → VK → Prop) → Hp → VK → Prop) : Prop :=
  ∀ (f c' : Addr) (s : Shared) (H : Hp) (Q : VK) (tl : XK → Hp → VK → Prop),
    (∀ (W : WX) (pl : List (Addr × Obj)) (xe : Value → Shared → Prop) (p1 p2 : Pos), Takes ((zCx X Ng x sg g cdg s H).tr pl xe) W →
      PE ((zCx X Ng x sg g cdg s H).tr pl xe) (.Call (.Name a p1) [] [] p2) (fun σZ HZ Q => ∃ E : XK, (∀ cl d H', E cl d H' → W cl d σZ H') ∧ σZ[0]? = some (some (.ref f)) ∧ HZ c' = some (CodeO c' q) ∧ tl E HZ Q)) →
    H c' = some (CodeO c' q) → TT tl H Q → ∃ t, PSs (zCx X Ng x sg g cdg s H).nox bg t ∧ t { nx := fun _ H' => Q .non H', rt := Q } (L2.start Ng [.ref f]) H
section
variable {X : Cx} {pins : List (Addr × Obj)} {σ : L2.St} {H : Hp} {s : Shared}
theorem pe_actS {Ng : List Str} {qg : Str} {sg : Scope} {g f c' : Addr} {cdg pm ctv : Value} {params : Arguments} {body : Expr} {scope : Scope} {k : Nat} {a : Str} {pl : List (Addr × Obj)} {xe : Value → Shared → Prop} {W : WX} {t : XK → TE} {p1 p2 : Pos}
    (II : Inv X pins σ H s) (L : LamS X.env.scope scope) (hf : s.heap.get? f = some (PySem.W.kla_obj "<lambda>" (X.env.qual ++ "<lambda>") params body scope (cloFrom X.env.cells scope.names []) pm c' ctv)) (hfn : H f = none) (hfr : f ∉ frs X.stack)
    (hbind : bindArgs (PySem.W.kla_fn "<lambda>" (X.env.qual ++ "<lambda>") params body scope (cloFrom X.env.cells scope.names []) pm (.ref c') ctv) ⟨[], []⟩ = pure [])
    (tk : Takes ((zCx X Ng qg sg g cdg s H).tr pl xe) W) (hr : Room (k + 1) (X.A.deeper (envOfC qg sg s.heap.objs.size g cdg)))
    (hbody : ∀ (A : Around) (outer : List Env) (s : Shared) (H : Hp) (E : XK), Room k (A.deeper (lamEnv X scope s.heap.objs.size f c')) → PE (lamCx X A outer s H E scope f c') body (t E))
    (hN : Ng[0]? = some a) (hv : Vis sg a) (hd : (a == ("__debug__" : Str)) = false := by decide) (hcd : (a == ("__classdict__" : Str)) = false := by decide) :
    PE ((zCx X Ng qg sg g cdg s H).tr pl xe) (.Call (.Name a p1) [] [] p2) (fun σZ HZ Q => ∃ E : XK, (∀ cl d H', E cl d H' → W cl d σZ H') ∧ σZ[0]? = some (some (.ref f)) ∧ HZ c' = some (CodeO c' (X.env.qual ++ "<lambda>")) ∧ t E σ HZ Q) := by
  refine ⟨fun pz sz σZ HZ Q JZ h => ?_⟩
  obtain ⟨E, hW, h0, hc, ht⟩ := h
  refine wpAny_Call_Name_kw (thn ((pe_var (pos := p1) (i := 0) hN hv hd hcd).run pz sz σZ HZ (fun v G => v = .ref f ∧ G = HZ) JZ ⟨.ref f, h0, rfl, rfl⟩) fun u s1 ⟨v, G1, J1, r1, ⟨ev, eG⟩⟩ => ?_)
  subst ev eG
  obtain rfl : u = Value.ref f := r1
  have of1 : s1.heap.get? f = some (PySem.W.kla_obj "<lambda>" (X.env.qual ++ "<lambda>") params body scope (cloFrom X.env.cells scope.names []) pm c' ctv) := J1.base.keep f _ hf hfn hfr (fun z => nomatch (show f ∈ ([] : List Addr) from z))
  refine PySem.W.callWith_F0 ⟨_, _, _, _, of1⟩ ?_
  have un : Un (frs X.stack) [] H G1 s.heap s1.heap := J1.base
  obtain ⟨⟨oc, fs, tt, hoc, hdc, hvc⟩, _, _⟩ := J1.hok c' _ hc
  have run : codeAny (model X.prog X.w) (X.A.deeper (envOfC qg sg s.heap.objs.size g cdg)) (.call (.ref f) ⟨[], []⟩) (CR (L2.CX X.prog X.w) (envOfC qg sg s.heap.objs.size g cdg :: X.stack) X.prog X.w G1 s1 Q E) s1 := by
    refine PySem.W.kla_callFunE hr.depth of1 rfl L.co L.gen rfl ⟨c', oc, fs, tt, rfl, hoc, hdc, hvc⟩ ?_
    rw [hbind]
    refine wpAny_pure (wpAny_newFunctionEnv (fun y hy => (L.own y hy).2) (fun y hy => absurd hy (by simp)) (fun hp1 hns hsb => ⟨J1.nolimit.fresh _ hsb, ?_⟩) L.kind)
    show codeAny _ _ (.expr body (lamEnv X scope s1.heap.objs.size f c')) _ _
    have kp : ∀ b o, s1.heap.get? b = some o → hp1.get? b = some o := fun b o e => hsb.extBut b o (Nat.ne_of_lt (Heap.lt_size e)) (Heap.get?_push_of_some _ e)
    have J2 : Inv (lamCx X (X.A.deeper (envOfC qg sg s.heap.objs.size g cdg)) (envOfC qg sg s.heap.objs.size g cdg :: X.stack) s1 G1 E scope f c') [] σ G1 { s1 with heap := hp1, toks := s1.toks + ([] : List (Str × Value)).length } :=
      lam_start2 II L J1.env0 hr.hd un hns kp
    refine PySem.W.kla_codeExpr (wpAny_mono ((hbody _ _ s1 G1 E (hr.deeper _)).run [] _ _ G1 Q J2 ht) (fun v s2 ⟨w2, G2, J3, rv, q⟩ => ⟨w2, G2, J3.os, J3.bare, J3.base, J3.hok, rv, q⟩) fun e s2 hq => hq)
  have ps : PassesAt (L2.CX X.prog X.w) ((zCx X Ng qg sg g cdg s H).tr pl xe) σZ E := fun pz2 G s0 e s2 JJ c => tk e s2 (XE.of_call JJ (fun cl d G2 hh => hW cl d G2 hh) c)
  refine wpAny_call (codeAny_mono run fun r s2 hq => ?_)
  cases r with
  | error e => exact ps pz G1 s1 e s2 J1 hq
  | ok fl => cases fl with
    | ret u => exact J1.after hq
    | next => exact False.elim hq
    | brk => exact False.elim hq
    | cont => exact False.elim hq
end
def tLamD (P : Addr) (q : Str) (TT : (XK → Hp → VK → Prop) → Hp → VK → Prop) (t : XK → TE) : TE := fun σ H Q => ∃ ps, TabAt H P q ps ∧ ∀ H1, LamStep H P q ps H1 → TT (fun E H' Q' => t E σ H' Q') H1 Q
section
variable {X : Cx}
/-- x(lambda: body) -/
theorem pe_lamD {TT : (XK → Hp → VK → Prop) → Hp → VK → Prop} {x a : Str} {q : Str} {g c P : Addr} {k : Nat} {pg : Arguments} {bg : List Stmt} {sg : Scope} {dV kV doc pm cdv ct oc : Value} {an od : Option Addr} {osl : Array (Option Value)} {Ng : List Str}
    {params : Arguments} {body : Expr} {scope : Scope} {t : XK → TE} {p lpos pos : Pos} (hg : Gl X x) (hm : X.mg x = some (.ref g)) (hk : PySem.W.keepIn X.K (.ref g) = true)
    (lk : X.K.lookup g = some ⟨oc, od, .func (PySem.W.fnOf x x pg bg sg dV kV doc pm an cdv ct), osl⟩) (hcg : PySem.W.codeIn X.K cdv x = true) (hb : L2.Binds X.K (PySem.W.fnOf x x pg bg sg dV kV doc pm an cdv ct) [a] []) (Sg : FnScope Ng [a] sg) (hNg : Ng[0]? = some a) (hva : Vis sg a)
    (hqn : X.env.qual ++ "<lambda>" = q) (hG : GivesS X Ng x sg g cdv bg a q TT)
    (TB : TabB X.base X.mg c P) (hcode : X.env.code = .ref c) (hr : Room (k + 2) X.A) (L : LamS X.env.scope scope) (hdef : defaultsOf params X.env = ([], []))
    (hbind : ∀ (q : Str) (cl : List (Str × Addr)) (pm cv ctv : Value), bindArgs (PySem.W.kla_fn "<lambda>" q params body scope cl pm cv ctv) ⟨[], []⟩ = pure [])
    (hbody : ∀ (A : Around) (outer : List Env) (s : Shared) (H : Hp) (E : XK) (f c' : Addr), Room k (A.deeper (lamEnv X scope s.heap.objs.size f c')) → PE (lamCx X A outer s H E scope f c') body (t E))
    (hdb : (x == ("__debug__" : Str)) = false := by decide) (hd : (a == ("__debug__" : Str)) = false := by decide) (hcd : (a == ("__classdict__" : Str)) = false := by decide) :
    PE X (.Call (.Name x p) [.Lambda params body scope lpos] [] pos) (tLamD P q TT t) := by
  refine ⟨fun pins s σ H Q II h => ?_⟩
  obtain ⟨ps, hT, h⟩ := h
  refine wpAny_Call_Name_kw (ld_glob II hg hm (PySem.W.callWith_K (h₀ := X.base) II.ok.mod.kin hk ?_ (by rfl) (by rfl)) hdb)
  show wpAny _ _ (spliced ((false, eval (.Lambda params body scope lpos) X.env) :: backTo pos (starEach [] X.env))) _ _ s
  refine Calls.spliced_cons (lam_madeD II TB hcode hqn hT hdef (L.has II.ok) fun f c' pm2 ctv H1 s1 J st hf hfn hfr hco => Calls.spliced_nil ⟨J.kIn, ?_⟩)
  subst hqn
  have run : codeAny (model X.prog X.w) X.A (.call (.ref g) ⟨[.ref f], []⟩) (CR C8.CX0 X.stack X.prog X.w H1 s1 Q C8.E0) s1 := by
    refine run_ofS (N := Ng) (ps := [a]) (us := [.ref f]) (vs := [.ref f]) lk hcg Sg hr J.env0 (hb s1 [.ref f] J.kIn rfl) (.cons rfl .nil) rfl fun hr2 => ?_
    obtain ⟨t2, ht2, hq2⟩ := hG f c' s1 H1 Q (fun E H' Q' => t E σ H' Q') (fun W pl xe p1 p2 tk => pe_actS J L hf hfn hfr (hbind _ _ _ _ _) tk hr2 (fun A outer s H E hr3 => hbody A outer s H E f c' hr3) hNg hva hd hcd) hco (h H1 st)
    exact ⟨t2, ht2.nox, hq2⟩
  refine wpAny_call (codeAny_mono run fun r s2 hq => ?_)
  cases r with
  | error e => exact (show False from hq).elim
  | ok fl => cases fl with
    | ret u => exact J.after hq
    | next => exact False.elim hq
    | brk => exact False.elim hq
    | cont => exact False.elim hq
end

/-! ### the lambda by data -/
def rsl {α : Type} : Rs α → Sl
  | .ok _ δ => δ
  | .ex _ _ δ => δ
/-- what a def makes of the lambda's end, told in data -/
def TTd (K : PySem.W.Frag) (cls : Str → Option Addr) (fR : Rs PyData → Option PyData) : (XK → Hp → VK → Prop) → Hp → VK → Prop := fun tl H Q => ∃ F fp σ δ r z, ER K F H σ δ fp ∧
  (∀ F1 H1 (E : XK) (Q' : VK), Ext F H F1 H1 → Fin K cls (fun c d _ h => E c d h) σ fp F1 H1 (fun x _ _ F' H' => ∀ v, Dp K F' v x → Q' v H') r → tl E H1 Q') ∧ fR r = some z ∧
  ∀ fp' F' H' v, Go fp F H fp' F' H' → ER K F' H' σ (rsl r) fp' → Dp K F' v z → Q v H'
def lamM (j : Nat) (P : Addr) (q : Str) (fR : Rs PyData → Option PyData) (m : M PyData) : M PyData := fun δ => match δ[j]? with
  | some (.tb P' q') => if P' = P ∧ q' = q then match m δ with
    | some r => match fR r with
      | some z => some (.ok z (rsl r))
      | none => none
    | none => none
    else none
  | _ => none
section
variable {K : PySem.W.Frag} {F H : Hp} {σ : L2.St} {δ : Sl} {fp : List Addr} {j : Nat} {P : Addr} {q : Str}
theorem ER.tabl (E : ER K F H σ δ fp) (hj : δ[j]? = some (.tb P q)) : ∃ ps, TabAt H P q ps ∧ ∀ H1, LamStep H P q ps H1 → ∃ F1, Go fp F H fp F1 H1 ∧ ER K F1 H1 σ δ fp := by
  obtain ⟨o, fl, fi, fr, h1, h2, h3, h4⟩ := E.rep.at hj
  cases h2 with
  | @tb _ _ _ ps h n tr cds =>
    refine ⟨ps, ⟨h, tr, fun pos cv hc => let ⟨c, a, b⟩ := cds pos cv hc; ⟨c, a, E.sub _ _ b⟩⟩, fun H1 st => ?_⟩
    rcases st with rfl | ⟨pos, c, nc, rfl⟩
    · exact ⟨F, Go.refl _ _ _, E⟩
    · have Fc : F c = none := E.sub.free nc
      have nPc : P ≠ c := fun z => by rw [z, nc] at h; cases h
      have s1 : Same F (upd F c (CodeO c q)) := same_new Fc
      have nd := E.nd
      have hna : ∀ b, b ∈ fl ++ fr → b ≠ P := fun b hb e => by
        subst e
        rw [h3, List.nodup_append] at nd
        rcases List.mem_append.mp hb with q | q
        · exact nd.2.2 b q b (by simp) rfl
        · have := nd.2.1
          rw [List.nodup_append] at this
          exact this.2.2 b (by simp) b q rfl
      have inl : ∀ b, b ∈ fl ++ fr → b ∈ fp := fun b hb => by
        rw [h3]; rcases List.mem_append.mp hb with q | q <;> simp [q]
      have nbc : ∀ b, b ∈ fl ++ fr → b ≠ c := fun b hb z => by
        obtain ⟨_, o, e⟩ := E.rep.there b (inl b hb)
        rw [z, nc] at e; cases e
      have Pfp : P ∈ fp := by rw [h3]; simp
      have eL : (ps ++ #[rawInt pos.line, rawInt pos.col, .ref c]).toList = ps.toList ++ [rawInt pos.line, rawInt pos.col, .ref c] := by simp
      have cr : CRep K (upd F c (CodeO c q)) (upd (upd H P (.tbl (ps ++ #[rawInt pos.line, rawInt pos.col, .ref c]))) c (CodeO c q)) o (.tb P q) [P] := by
        refine .tb (ps := ps ++ #[rawInt pos.line, rawInt pos.col, .ref c]) (by rw [upd_ne nPc, upd_same]) (by rw [upd_ne nPc]; exact n) (by rw [eL]; exact PySem.TriplesOk_snoc _ _ _ _ tr) fun p' cv hcv => ?_
        rw [eL] at hcv
        rcases among_app _ tr hcv with z | z
        · obtain ⟨c0, e1, e2⟩ := cds p' cv z
          exact ⟨c0, e1, s1 _ _ e2⟩
        · exact ⟨c, z, upd_same⟩
      have qq := h4 (F' := upd F c (CodeO c q)) (H' := upd (upd H P (.tbl (ps ++ #[rawInt pos.line, rawInt pos.col, .ref c]))) c (CodeO c q)) (o' := o) (c' := .tb P q) (fi' := [P]) s1 (fun b u hb e => by rw [upd_ne (nbc b hb), upd_ne (hna b hb)]; exact e) (fun b hb => by rw [upd_ne (nbc b hb)]; exact E.free b (inl b hb)) cr
      rw [set_same h1, set_same hj, ← h3] at qq
      refine ⟨_, ⟨s1, fun b u hb e => ?_, fun b e z => ?_, fun _ h => .inl h, fun b u e => ?_⟩, ⟨fun b u e => ?_, qq, E.nd⟩⟩
      · rw [upd_ne (ne_of_none e nc), upd_ne fun z => hb (by rw [z]; exact Pfp)]
        exact e
      · by_cases hb : b = c
        · rw [hb]; exact .inl nc
        · rw [upd_ne hb] at z; exact absurd e z
      · by_cases hb : b = c
        · exact ⟨_, by rw [hb]; exact upd_same⟩
        · by_cases hb2 : b = P
          · exact ⟨_, by rw [hb2, upd_ne nPc]; exact upd_same⟩
          · exact ⟨u, by rw [upd_ne hb, upd_ne hb2]; exact e⟩
      · by_cases hb : b = c
        · rw [hb, upd_same] at e; rw [hb, upd_same]; exact e
        · rw [upd_ne hb] at e
          rw [upd_ne hb, upd_ne fun z => by rw [z, n] at e; cases e]
          exact E.sub b u e
theorem Fin.imp {α : Type} {cls : Str → Option Addr} {W W' : WX} {k k' : α → Sl → List Addr → Hp → Hp → Prop} {r : Rs α} (h : Fin K cls W σ fp F H k r) (i : ∀ x d fp' F' H', k x d fp' F' H' → k' x d fp' F' H') (j : ∀ c d H', W c d σ H' → W' c d σ H') : Fin K cls W' σ fp F H k' r := by
  cases r with
  | ok x d => exact fun fp' F' H' g E => i _ _ _ _ _ (h fp' F' H' g E)
  | ex n fs d => exact fun Cx dd fp' F' H' c g E x => j _ _ _ (h Cx dd fp' F' H' c g E x)
/-- the reading of a lambda's call by data -/
theorem tLamD_of {cls : Str → Option Addr} {W : WX} {fR : Rs PyData → Option PyData} {m : M PyData} {Q : VK} (h : TmA K cls W (Dp K) (lamM j P q fR m) F fp δ σ H Q) : tLamD P q (TTd K cls fR) (fun E => tE K cls (fun c d _ h => E c d h) m) σ H Q := by
  obtain ⟨E, r, hm, hf⟩ := h
  unfold lamM at hm
  split at hm
  · rename_i P' q' hj
    split at hm
    · rename_i hpq
      obtain ⟨rfl, rfl⟩ := hpq
      split at hm
      · rename_i r1 e1
        split at hm
        · rename_i z ez
          cases hm
          obtain ⟨ps, ta, st⟩ := E.tabl hj
          refine ⟨ps, ta, fun H1 hst => ?_⟩
          obtain ⟨F1, g1, E1⟩ := st H1 hst
          refine ⟨F1, fp, σ, δ, r1, z, E1, fun F2 H2 E' Q' x hfin => ?_, ez, fun fp' F' H' v g E2 rv => hf fp' F' H' (g1.trans g) E2 v rv⟩
          exact ⟨F2, fp, δ, E1.ext x, r1, e1, hfin⟩
        · cases hm
      · cases hm
    · cases hm
  · cases hm
end
end DL

set_option maxRecDepth 100000
set_option maxHeartbeats 1000000
/-! DL18: short words for the printed walks. -/
namespace DL
open PySem PySem.Spec PyProof.Rows L2 RZ
variable [CC : ClsCtx] [XC : XcCtx]

abbrev opM (g : PyData → PyData → Option PyData) (ma mb : M PyData) : M PyData := bnd ma fun x => bnd mb fun y => lft (g x y)
abbrev tsM (g : PyData → PyData → Option PyData) (ma mb : M PyData) : M Bool := bnd ma fun x => bnd mb fun y => lft ((g x y).bind boolD)
abbrev consM (me : M PyData) (mr : M (List PyData)) : M (List PyData) := bnd me fun d => bnd mr fun ds => ret (d :: ds)
abbrev callM (n : Nat) (fn : List PyData → Option RO) (ma : M (List PyData)) : M PyData := bnd ma fun ds => if ds.length = n then roM (fn ds) else fun _ => none
abbrev callPM (i n : Nat) (fn : Addr → Pen → List PyData → Option (PyData × Pen)) (ma : M (List PyData)) : M PyData := bnd (isPen i) fun _ => bnd ma (callP i n fn)
abbrev bltM (g : List PyData → Option PyData) (ma : M (List PyData)) : M PyData := bnd ma fun ds => lft (g ds)
abbrev trM (ma : M PyData) : M Bool := bnd ma fun d => lft (truthD d)
abbrev notM (ta : M Bool) : M Bool := bnd ta fun b => ret (!b)
abbrev notVM (ma : M PyData) : M PyData := bnd ma fun d => lft ((boolD d).map fun b => .bool (!b))
abbrev tupM (ma : M (List PyData)) : M PyData := bnd ma fun ds => lft (tupD ds)
abbrev lstM (ma : M (List PyData)) : M PyData := bnd ma fun ds => lft (lstD ds)
abbrev isiM (g : PyData → Bool) (me : M PyData) : M PyData := bnd me fun d => lft (plD d (.bool (g d)))
abbrev negM (me : M PyData) : M PyData := bnd me fun d => lft (match d with | .int i => some (.int (-i)) | _ => none)
abbrev someM (me : M PyData) : M (Option Int) := bnd me fun d => lft ((intD d).map some)
abbrev slM (me : M PyData) (ml mh : M (Option Int)) : M PyData := bnd me fun d => bnd ml fun l => bnd mh fun h => lft (slD d l h)
abbrev strM (g : PyData → PyData → Option PyData) (mo me : M PyData) : M PyData := bnd mo fun d => if isStr d = true then bnd me fun d' => lft (g d d') else fun _ => none
abbrev retM (me : M PyData) : M Ctl := bnd me fun d => ret (.rt d)
abbrev setM (i : Nat) (me : M PyData) : M Ctl := bnd me fun d => putM i d
abbrev exprM (me : M PyData) : M Ctl := bnd me fun _ => ret .nx
abbrev lcM (mi : M (List PyData)) (t : Tgt) (vs : List Nat) (mt : M Bool) (me : M PyData) : M PyData := bnd (compM mi t vs mt me) fun ds => ret (.list ds)
abbrev setLcM (i : Nat) (mi : M (List PyData)) (t : Tgt) (vs : List Nat) (mt : M Bool) (me : M PyData) : M Ctl := bnd (compM mi t vs mt me) fun ds δ => if i < δ.length then some (.ok .nx (δ.set i (.ow ds))) else none
abbrev setLcLM (i : Nat) (mi : M (List PyData)) (t : Tgt) (vs : List Nat) (mt : M Bool) (me : M C) : M Ctl := bnd (compMN mi t vs mt me) fun dss => putC i (.ol dss)
abbrev itM (me : M PyData) : M (List PyData) := bnd me fun d => lft (itemsD d)
abbrev rngM (n : Nat) (ma : M (List PyData)) : M (List PyData) := bnd ma fun ds => lft (if ds.length = n then rangeA ds else none)
abbrev enM (ma : M (List PyData)) : M (List PyData) := bnd ma fun ds => lft (enumA ds)
abbrev zipM (ma : M (List PyData)) : M (List PyData) := bnd ma fun ds => lft (zipA ds)
abbrev parM (i j : Nat) (m1 m2 : M C) : M Ctl := bnd m1 fun c => bnd m2 fun c' => putC2 i j c c'
abbrev nshM (me : M PyData) : M C := bnd me fun d => ret (.sh d)
abbrev nlistM (me : M PyData) : M C := bnd me fun d => bnd (lft (seqOf d)) owM
abbrev nsplM (mo me : M PyData) : M C := bnd mo fun d => if isStr d = true then bnd me fun d' => bnd (lft ((splitD d d').bind seqOf)) owM else fun _ => none
abbrev ndictM (l : List (Str × M PyData)) : M C := bnd (dctM l) fun kvs => ret (.dk kvs)
abbrev dkGetM (i : Nat) (me : M PyData) : M PyData := bnd (dkM i (fun _ => some ())) fun _ => bnd me fun d => dkM i fun kvs => (keyD d).bind (dkLook kvs)
abbrev dkNotInM (i : Nat) (me : M PyData) : M Bool := bnd me fun d => dkM i fun kvs => (keyD d).map fun k => !(dkLook kvs k).isSome

theorem bo_len : bootBuiltins "len" = some (.builtin "len") := by decide +kernel
theorem bo_all : bootBuiltins "all" = some (.builtin "all") := by decide +kernel
theorem bo_any : bootBuiltins "any" = some (.builtin "any") := by decide +kernel
theorem bo_max : bootBuiltins "max" = some (.builtin "max") := by decide +kernel
theorem bo_min : bootBuiltins "min" = some (.builtin "min") := by decide +kernel
theorem bo_repr : bootBuiltins "repr" = some (.builtin "repr") := by decide +kernel
theorem bo_sorted : bootBuiltins "sorted" = some (.builtin "sorted") := by decide +kernel
theorem bo_isinstance : bootBuiltins "isinstance" = some (.builtin "isinstance") := by decide +kernel
theorem bo_int : bootBuiltins "int" = some (.type "int") := by decide +kernel
theorem bo_str : bootBuiltins "str" = some (.type "str") := by decide +kernel
theorem bo_bool : bootBuiltins "bool" = some (.type "bool") := by decide +kernel
theorem bo_tuple : bootBuiltins "tuple" = some (.type "tuple") := by decide +kernel
theorem bo_list : bootBuiltins "list" = some (.type "list") := by decide +kernel
theorem bo_set : bootBuiltins "set" = some (.type "set") := by decide +kernel
theorem bo_dict : bootBuiltins "dict" = some (.type "dict") := by decide +kernel
theorem bo_range : bootBuiltins "range" = some (.type "range") := by decide +kernel
/-- a def that may be called by its name -/
structure Cal (P : Program) (w : World) (K : PySem.W.Frag) (mg : Str → Option Value) (base : Heap) (x : Str) (k : Nat) (sp : Sp) : Prop where
  ex : ∃ (f : Addr) (fd : FuncData) (ps : List Str), FnOk P w K mg base (L2.CX P w) k f fd ps sp ∧ mg x = some (.ref f) ∧ PySem.W.keepIn K (.ref f) = true ∧ Binds K fd ps []
section
variable {X : Cx} {cls : Str → Option Addr} {W : WX} {pos p p2 : Pos} {x y : Str} {e : Expr} {es : List Expr} {ma : M (List PyData)} {k n : Nat}
theorem de_callC {fn : List PyData → Option RO} (c : Cal X.prog X.w X.K X.mg X.base x k (spD X.K cls n fn)) (hr : Room k X.A) (tk : Takes X W)
    (ha : DA X cls W (e :: es) ma) (hg : Gl X x := by rfl) (hdb : (x == ("__debug__" : Str)) = false := by decide) (he : starEach (e :: es) X.env = (false, eval e X.env) :: starEach es X.env := by rfl) (hpl : (backTo pos (starEach es X.env)).any (·.1) = false := by rfl)
    (hlen : (e :: es).length = n := by rfl) :
    DE X cls W (.Call (.Name x p) (e :: es) [] pos) (callM n fn ma) := by
  obtain ⟨f, fd, ps, G, hm, hk, hb⟩ := c.ex
  exact de_call G hr tk hm hk hb ha hg hdb he hpl hlen
theorem de_callPC (i : Nat) {fn : Addr → Pen → List PyData → Option (PyData × Pen)} (c : Cal X.prog X.w X.K X.mg X.base x k (spP X.K n fn)) (hr : Room k X.A) (tk : Takes X W)
    (ha : DA X cls W es ma) (hg : Gl X x := by rfl) (hdb : (x == ("__debug__" : Str)) = false := by decide) (he : starEach (.Name y p2 :: es) X.env = (false, eval (.Name y p2) X.env) :: starEach es X.env := by rfl) (hpl : (backTo pos (starEach es X.env)).any (·.1) = false := by rfl)
    (hN : X.N[i]? = some y := by rfl) (hv : Vis X.env.scope y := by first | exact Or.inl rfl | exact Or.inr (Or.inl rfl) | exact Or.inr (Or.inr rfl)) (hd : (y == ("__debug__" : Str)) = false := by decide) (hcd : (y == ("__classdict__" : Str)) = false := by decide) :
    DE X cls W (.Call (.Name x p) (.Name y p2 :: es) [] pos) (callPM i n fn ma) := by
  obtain ⟨f, fd, ps, G, hm, hk, hb⟩ := c.ex
  exact de_callP i G hr tk hm hk hb ha hg hdb he hpl hN hv hd hcd
theorem cal_D {P : Program} {w : World} {K : PySem.W.Frag} {mg : Str → Option Value} {base : Heap} {sp : Sp} {f : Addr} {fd : FuncData} {ps : List Str} (G : FnOk P w K mg base (L2.CX P w) k f fd ps sp) (hm : mg x = some (.ref f)) (hk : PySem.W.keepIn K (.ref f) = true) (hb : Binds K fd ps []) : Cal P w K mg base x k sp := ⟨⟨f, fd, ps, G, hm, hk, hb⟩⟩
end
/-- a def of the top as it stands behind it -/
structure DefT (K : PySem.W.Frag) (mg : Str → Option Value) (x : Str) (st : Stmt) (ps : List Str) : Prop where
  ex : ∃ (f : Addr) (fd : FuncData), mg x = some (.ref f) ∧ Fun K x x st f fd ∧ Binds K fd ps []
/-- a constant of the module -/
structure GlobT (K : PySem.W.Frag) (mg : Str → Option Value) (x : Str) (d : PyData) : Prop where
  ex : ∃ (v : V) (u : Value), mg x = some u ∧ RelV v u ∧ ∀ F : Hp, Dp K F v d
section
variable {X : Cx} {cls : Str → Option Addr} {W : WX} {pos : Pos} {x : Str} {d : PyData}
theorem de_globT (g : GlobT X.K X.mg x d) (hg : Gl X x := by rfl) (hdb : (x == ("__debug__" : Str)) = false := by decide) : DE X cls W (.Name x pos) (ret d) := by
  obtain ⟨v, u, hm, r, hd⟩ := g.ex
  exact de_glob hm r hd hg hdb
end
section
variable {P : Program} {w : World} {K : PySem.W.Frag} {mg : Str → Option Value} {base : Heap} {cls : Str → Option Addr} {x : Str} {st : Stmt} {N ps : List Str} {k : Nat} {mb : M Ctl}
theorem fn_DT (fn : List PyData → Option RO) (T : DefT K mg x st ps) (S : FnScope N ps (defScope st)) (hfn : ∀ ds r, fn ds = some r → fnB N.length ps.length mb ds = some r)
    (hbody : ∀ (f : Addr) (cdv : Value) (A : Around) (outer : List Env) (s : Shared) (H : Hp) (E : XK), Room k (A.deeper (envOfC x (defScope st) s.heap.objs.size f cdv)) → DSs (bodyCx P w K mg base N x st f cdv A outer s H E) cls (fun c d _ H => E c d H) (defBody st) mb) :
    Cal P w K mg base x (k + 1) (spD K cls ps.length fn) := by
  obtain ⟨f, fd, hm, Fu, hb⟩ := T.ex
  exact cal_D (fn_D fn Fu S hfn (hbody f)) hm Fu.kp hb
theorem fn_PT (fn : Addr → Pen → List PyData → Option (PyData × Pen)) {p0 : Str} (T : DefT K mg x st (p0 :: ps)) (S : FnScope N (p0 :: ps) (defScope st)) (hfn : ∀ p P ds r, fn p P ds = some r → fnBP N.length ps.length mb p P ds = some r)
    (hbody : ∀ (f : Addr) (cdv : Value) (A : Around) (outer : List Env) (s : Shared) (H : Hp) (E : XK), Room k (A.deeper (envOfC x (defScope st) s.heap.objs.size f cdv)) → DSs (bodyCx P w K mg base N x st f cdv A outer s H E) cls (fun c d _ H => E c d H) (defBody st) mb) :
    Cal P w K mg base x (k + 1) (spP K ps.length fn) := by
  obtain ⟨f, fd, hm, Fu, hb⟩ := T.ex
  exact cal_D (fn_P fn Fu S hfn (hbody f)) hm Fu.kp hb
end
end DL

set_option maxRecDepth 100000
set_option maxHeartbeats 1000000
/-! DL19: classes of exceptions, lambdas, in short words. -/
namespace DL
open PySem PySem.Spec PyProof.Rows L2 RZ LamX
variable [CC : ClsCtx] [XC : XcCtx]

/-- an exception's class of the top -/
structure ExcT (P : Program) (w : World) (K : PySem.W.Frag) (mg : Str → Option Value) (base : Heap) (cls : Str → Option Addr) (x : Str) (names : List Str) : Prop where
  ex : ∃ (C fI : Addr) (fd : FuncData) (ps : List Str), cls x = some C ∧ mg x = some (.ref C) ∧ OexC K C ∧ PySem.W.findIn K (.ref C) "__init__" = some (some (.ref fI)) ∧ PySem.W.typeIn K (.ref fI) = some (.type "function") ∧ FnOk P w K mg base (L2.CX P w) 1 fI fd ps (spIn C names) ∧ Binds K fd ps []
  few : names.length ≤ 900
section
variable {X : Cx} {cls : Str → Option Addr} {W : WX} {pos pos' p : Pos} {x : Str} {e : Expr} {es : List Expr} {ma : M (List PyData)} {names : List Str}
theorem ExcT.raise (t : ExcT X.prog X.w X.K X.mg X.base cls x names) (hc : X.calm = true) (tk : Takes X W) (hr : Room 2 X.A) (ha : DA X cls W (e :: es) ma) (hg : Gl X x := by rfl) (hdb : (x == ("__debug__" : Str)) = false := by decide)
    (he : starEach (e :: es) X.env = (false, eval e X.env) :: starEach es X.env := by rfl) (hpl : (backTo pos (starEach es X.env)).any (·.1) = false := by rfl) :
    DS X cls W (.Raise (some (.Call (.Name x p) (e :: es) [] pos)) none pos') (raiseM x names ma) := by
  obtain ⟨C, fI, fd, ps, hC, hm, T, iC, tI, G, hb⟩ := t.ex
  exact ds_raise x hC hc tk T iC tI G hr hb hm ha t.few hg hdb he hpl
end
section
variable {X : Cx} {cls : Str → Option Addr} {W : WX} {pos p1 p2 p3 p4 p5 p6 p7 q1 q2 q3 q4 q5 : Pos} {x y fx pn : Str} {e : Expr} {me : M PyData} {fn : Addr → Pen → List PyData → Option (PyData × Pen)} {k : Nat}
theorem ds_olSetC (i j ip : Nat) (c : Cal X.prog X.w X.K X.mg X.base fx k (spP X.K 1 fn)) (hr : Room k X.A) (tk : Takes X W) (he : DE X cls W e me) (hml : X.mg "len" = none)
    (hij : ip ≠ i := by decide) (hN : X.N[i]? = some x := by rfl) (hv : Vis X.env.scope x := by first | exact Or.inl rfl | exact Or.inr (Or.inl rfl) | exact Or.inr (Or.inr rfl)) (hd : (x == ("__debug__" : Str)) = false := by decide) (hcd : (x == ("__classdict__" : Str)) = false := by decide)
    (hN2 : X.N[j]? = some y := by rfl) (hv2 : Vis X.env.scope y := by first | exact Or.inl rfl | exact Or.inr (Or.inl rfl) | exact Or.inr (Or.inr rfl)) (hd2 : (y == ("__debug__" : Str)) = false := by decide) (hcd2 : (y == ("__classdict__" : Str)) = false := by decide)
    (hN3 : X.N[ip]? = some pn := by rfl) (hv3 : Vis X.env.scope pn := by first | exact Or.inl rfl | exact Or.inr (Or.inl rfl) | exact Or.inr (Or.inr rfl)) (hd3 : (pn == ("__debug__" : Str)) = false := by decide) (hcd3 : (pn == ("__classdict__" : Str)) = false := by decide)
    (hg : Gl X fx := by rfl) (hdb : (fx == ("__debug__" : Str)) = false := by decide) (hgl : Gl X "len" := by rfl)
    (hs1 : starEach [.Name pn q1, .Call (.Name "len" q2) [.Subscript (.Name x q3) (.Name y q4) q5] [] p5] X.env = (false, eval (.Name pn q1) X.env) :: starEach [.Call (.Name "len" q2) [.Subscript (.Name x q3) (.Name y q4) q5] [] p5] X.env := by rfl)
    (hpl1 : (backTo p6 (starEach [.Call (.Name "len" q2) [.Subscript (.Name x q3) (.Name y q4) q5] [] p5] X.env)).any (·.1) = false := by rfl)
    (hs2 : starEach [.Call (.Name "len" q2) [.Subscript (.Name x q3) (.Name y q4) q5] [] p5] X.env = (false, eval (.Call (.Name "len" q2) [.Subscript (.Name x q3) (.Name y q4) q5] [] p5) X.env) :: starEach [] X.env := by rfl)
    (hs3 : starEach [.Subscript (.Name x q3) (.Name y q4) q5] X.env = (false, eval (.Subscript (.Name x q3) (.Name y q4) q5) X.env) :: starEach [] X.env := by rfl) (hpl3 : (backTo p5 (starEach [] X.env)).any (·.1) = false := by rfl)
    (ha : ∀ v, assign (.Subscript (.Subscript (.Name x p1) (.Name y p2) p3) (.Call (.Name fx p4) [.Name pn q1, .Call (.Name "len" q2) [.Subscript (.Name x q3) (.Name y q4) q5] [] p5] [] p6) p7) X.env v = (do
      let ov ← holding [v] (eval (.Subscript (.Name x p1) (.Name y p2) p3) X.env)
      let iv ← holding [v, ov] (eval (.Call (.Name fx p4) [.Name pn q1, .Call (.Name "len" q2) [.Subscript (.Name x q3) (.Name y q4) q5] [] p5] [] p6) X.env)
      standAt p7
      holding [v, ov, iv] (setItem ov iv v)
      release [v, ov, iv] []) := by intro _; rfl)
    (hsw : swapsWithSole [.Subscript (.Subscript (.Name x p1) (.Name y p2) p3) (.Call (.Name fx p4) [.Name pn q1, .Call (.Name "len" q2) [.Subscript (.Name x q3) (.Name y q4) q5] [] p5] [] p6) p7] e pos.line X.env = pure false := by rfl)
    (hss : swappedStores [.Subscript (.Subscript (.Name x p1) (.Name y p2) p3) (.Call (.Name fx p4) [.Name pn q1, .Call (.Name "len" q2) [.Subscript (.Name x q3) (.Name y q4) q5] [] p5] [] p6) p7] e X.env = pure none := by rfl)
    (h1 : (assignEach [.Subscript (.Subscript (.Name x p1) (.Name y p2) p3) (.Call (.Name fx p4) [.Name pn q1, .Call (.Name "len" q2) [.Subscript (.Name x q3) (.Name y q4) q5] [] p5] [] p6) p7] X.env).map (·.2) = [assign (.Subscript (.Subscript (.Name x p1) (.Name y p2) p3) (.Call (.Name fx p4) [.Name pn q1, .Call (.Name "len" q2) [.Subscript (.Name x q3) (.Name y q4) q5] [] p5] [] p6) p7) X.env] := by rfl) :
    DS X cls W (.Assign [.Subscript (.Subscript (.Name x p1) (.Name y p2) p3) (.Call (.Name fx p4) [.Name pn q1, .Call (.Name "len" q2) [.Subscript (.Name x q3) (.Name y q4) q5] [] p5] [] p6) p7] e pos) (olSetM i j ip fn me) := by
  obtain ⟨f, fd, ps, G, hm, hk, hb⟩ := c.ex
  exact ds_olSet i j ip G hr tk hm hk hb he hml hij hN hv hd hcd hN2 hv2 hd2 hcd2 hN3 hv3 hd3 hcd3 hg hdb hgl hs1 hpl1 hs2 hs3 hpl3 ha hsw hss h1
end

/-- the def that takes the lambda -/
structure LamF (K : PySem.W.Frag) (mg : Str → Option Value) (Ng : List Str) (x a : Str) (sg : Scope) (g : Addr) (cdv : Value) (bg : List Stmt) : Prop where
  hm : mg x = some (.ref g)
  hk : PySem.W.keepIn K (.ref g) = true
  lk : ∃ (oc : Value) (od : Option Addr) (pg : Arguments) (dV kV doc pm : Value) (an : Option Addr) (ct : Value) (osl : Array (Option Value)), K.lookup g = some ⟨oc, od, .func (PySem.W.fnOf x x pg bg sg dV kV doc pm an cdv ct), osl⟩ ∧ L2.Binds K (PySem.W.fnOf x x pg bg sg dV kV doc pm an cdv ct) [a] []
  hcg : PySem.W.codeIn K cdv x = true
  Sg : FnScope Ng [a] sg
  hNg : Ng[0]? = some a
  hva : Vis sg a
section
variable {X : Cx} {cls : Str → Option Addr} {W : WX}
theorem de_lamT {fR : Rs PyData → Option PyData} {j k : Nat} {x a q : Str} {g c P : Addr} {bg : List Stmt} {sg : Scope} {cdv : Value} {Ng : List Str} {params : Arguments} {body : Expr} {scope : Scope} {m : M PyData} {p lpos pos : Pos}
    (T : LamF X.K X.mg Ng x a sg g cdv bg) (hqn : X.env.qual ++ "<lambda>" = q) (hG : GivesS X Ng x sg g cdv bg a q (TTd X.K cls fR)) (TB : TabB X.base X.mg c P) (hcode : X.env.code = .ref c) (hr : Room (k + 2) X.A) (hg : Gl X x) (L : LamS X.env.scope scope) (hdef : defaultsOf params X.env = ([], []))
    (hbind : ∀ (q : Str) (cl : List (Str × Addr)) (pm cv ctv : Value), bindArgs (PySem.W.kla_fn "<lambda>" q params body scope cl pm cv ctv) ⟨[], []⟩ = pure [])
    (hbody : ∀ (A : Around) (outer : List Env) (s : Shared) (H : Hp) (E : XK) (f c' : Addr), Room k (A.deeper (lamEnv X scope s.heap.objs.size f c')) → DE (lamCx X A outer s H E scope f c') cls (fun c d _ h => E c d h) body m)
    (hdb : (x == ("__debug__" : Str)) = false := by decide) (hd : (a == ("__debug__" : Str)) = false := by decide) (hcd : (a == ("__classdict__" : Str)) = false := by decide) :
    DE X cls W (.Call (.Name x p) [.Lambda params body scope lpos] [] pos) (lamM j P q fR m) := by
  obtain ⟨oc, od, pg, dV, kV, doc, pm, an, ct, osl, lk, hb⟩ := T.lk
  refine pe_imp (pe_lamD (t := fun E => tE X.K cls (fun c d _ h => E c d h) m) hg T.hm T.hk lk T.hcg hb T.Sg T.hNg T.hva hqn hG TB hcode hr L hdef hbind hbody hdb hd hcd) fun σ H Q h => ?_
  obtain ⟨F, fp, δ, h⟩ := h
  exact tLamD_of h
end
end DL

set_option maxRecDepth 100000
set_option maxHeartbeats 1000000
/-! DL20: classes and defs as the top has written them. -/
namespace DL
open PySem PySem.Spec PyProof.Rows L2 RZ LamX
variable [CC : ClsCtx] [XC : XcCtx]

section
variable {P : Program} {w : World} {K : PySem.W.Frag} {mg : Str → Option Value} {base : Heap} {cls : Str → Option Addr} {x qual : Str} {st : Stmt} {f : Addr} {fd : FuncData} {N ps : List Str} {k n : Nat}
/-- a promise of which nobody asks anything -/
theorem fn_none {CX : CXT} : FnOk P w K mg base CX k f fd ps (spD K cls n fun _ => none) :=
  have no : ∀ {vs : List V} {H : Hp} {Q : VK} {E : XK}, ¬ spD K cls n (fun _ => none) vs H Q E := fun h => by
    obtain ⟨_, _, _, _, _, _, h, _⟩ := h
    cases h
  ⟨fun _ _ _ _ h => (no h).elim, fun _ _ _ _ _ _ _ _ _ _ _ _ _ h => (no h).elim⟩
theorem cal_none (T : DefT K mg x st ps) : Cal P w K mg base x k (spD K cls n fun _ => none) := by
  obtain ⟨f, fd, hm, Fu, hb⟩ := T.ex
  exact cal_D fn_none hm Fu.kp hb
/-- the method of that place in a class of the top -/
def methOf (st : Stmt) (j : Nat) : Stmt := match st with
  | .ClassDef _ _ _ body _ _ _ _ _ _ _ => body.getD j (.Pass ⟨0, 0, 0, 0⟩)
  | _ => .Pass ⟨0, 0, 0, 0⟩
structure ExcF (K : PySem.W.Frag) (mg : Str → Option Value) (cls : Str → Option Addr) (x : Str) (names : List Str) (st : Stmt) : Prop where
  ex : ∃ (C fI : Addr) (fd : FuncData), cls x = some C ∧ mg x = some (.ref C) ∧ OexC K C ∧ (∀ n ∈ names, PySem.W.findIn K (.ref C) n = some none) ∧ PySem.W.findIn K (.ref C) "__init__" = some (some (.ref fI)) ∧ PySem.W.typeIn K (.ref fI) = some (.type "function") ∧ XfC K C ∧
    Fun K "__init__" (x ++ ".__init__") st fI fd ∧ Binds K fd ("self" :: names) []
theorem ExcF.excT {n1 : Str} {names : List Str} (T : ExcF K mg cls x (n1 :: names) st) {qual : Str} (S : FnScope N ("self" :: n1 :: names) (defScope st)) (hq : x ++ ".__init__" = qual) (hl : names.length ≤ 800) (hl2 : (n1 :: names).length ≤ 900)
    (hbody : ∀ (f : Addr) (cdv : Value) (A : Around) (outer : List Env) (s : Shared) (H : Hp) (E : XK), PSs (bodyCx P w K mg base N qual st f cdv A outer s H E) (defBody st) (tInit K ((n1 :: names).zip (List.range' 1 (n1 :: names).length)))) :
    ExcT P w K mg base cls x (n1 :: names) := by
  obtain ⟨C, fI, fd, hC, hm, ox, hno, iC, tI, xf, Fu, hb⟩ := T.ex
  subst hq
  exact ⟨⟨C, fI, fd, _, hC, hm, ox, iC, tI, fn_init (k := 0) ox hno Fu S rfl hl (hbody fI), hb⟩, hl2⟩
end
end DL

set_option maxRecDepth 100000
set_option maxHeartbeats 1000000
/-! DL21: the def that calls a lambda and tells what came of it. -/
namespace DL
open PySem PySem.Spec PyProof.Rows L2 RZ LamX
variable [CC : ClsCtx] [XC : XcCtx]

section
variable {K : PySem.W.Frag} {F H F' H' : Hp} {fp fp' : List Addr} {σ : L2.St} {δ δ' : Sl} {l : Addr}
/-- the list at l, made ahead of the call, is no one's but the teller's -/
theorem told_fr (hl : H l = none) (E : ER K F H σ δ fp) (g : Go fp F (upd H l (.lst [])) fp' F' H') (E' : ER K F' H' σ δ' fp') :
    H' l = some (.lst []) ∧ ∀ F2 H2 xs, Ext F' H' F2 H2 → Go fp F H fp' F2 (upd H2 l (.lst xs)) ∧ ER K F2 (upd H2 l (.lst xs)) σ δ' fp' := by
  have lfp : l ∉ fp := fun hb => by
    obtain ⟨_, o, e⟩ := E.rep.there l hb
    rw [hl] at e; cases e
  have Fl : F l = none := E.sub.free hl
  have Hl' : H' l = some (.lst []) := g.kp l _ lfp upd_same
  have Fl' : F' l = none := by
    cases q : F' l with
    | none => rfl
    | some u =>
      rcases g.nw l Fl (by rw [q]; exact fun z => nomatch z) with z | z
      · rw [upd_same] at z; cases z
      · exact absurd z lfp
  have lfp' : l ∉ fp' := fun hb => by
    rcases g.ow l hb with z | z
    · exact lfp z
    · rw [upd_same] at z; cases z
  refine ⟨Hl', fun F2 H2 xs x => ⟨?_, ?_⟩⟩
  · have x0 : Ext F H F (upd H l (.lst [])) := Ext.lost E.sub hl
    exact ((x0.go.trans g).trans x.go).aside hl
  · refine (E'.ext x).aside ?_ lfp'
    cases q : F2 l with
    | none => rfl
    | some u =>
      have z := x.nw l Fl' (by rw [q]; exact fun z => nomatch z)
      rw [Hl'] at z; cases z
end
/-- a clause's fields: the second as it is, or its repr -/
def tellD (fs : List (Str × PyData)) (f1 f2 : Str) (rp : Bool) : Option PyData := match fs.lookup f1, fs.lookup f2 with
  | some d1, some d2 => if rp = true then (reprD d2).map fun z => .tuple [d1, z] else some (.tuple [d1, d2])
  | _, _ => none
section
variable {X : Cx} {a C : Addr} {oe : Obj} {cls : Value} {d : Option Addr} {pn : List (Addr × Obj)} {f1 f2 : Str} {x y : Str} {p1 p2 p3 p4 p5 p6 p7 p8 p9 p10 p11 : Pos} {i j kt : Nat}
/-- what the suite does -/
def tTell (K : PySem.W.Frag) (i j : Nat) (C : Addr) (f1 f2 : Str) (rp : Bool) (a : Addr) (cls : Value) (d : Option Addr) : TS := fun D σ H => ∃ (l : Addr) (xs : List V) (dd : Addr) (vfs : List (Str × V)) (w1 w2 : V) (F : Hp) (d1 d2 z : PyData), σ[i]? = some (some (.ref l)) ∧ σ[j]? = some (some (.ref a)) ∧ cls = .ref C ∧ d = some dd ∧ H dd = some (.xd vfs) ∧
  vfs.lookup f1 = some w1 ∧ vfs.lookup f2 = some w2 ∧ H l = some (.lst xs) ∧ xs.length < sizeLine ∧ Same F H ∧ Dp K F w1 d1 ∧ Dp K F w2 d2 ∧ (if rp = true then reprD d2 = some z else z = d2) ∧
  ∀ F2 H2 x, Ext F H F2 H2 → Dp K F2 x (.tuple [d1, z]) → D.nx σ (upd H2 l (.lst (xs ++ [x])))
theorem pss_tellR (T : XfC X.K C) (h1 : PySem.W.findIn X.K (.ref C) f1 = some none) (h2 : PySem.W.findIn X.K (.ref C) f2 = some none) (hz : Zc cls d oe) (hf : ∃ vs, oe.data = .fields vs) (hg : X.A.guards = some []) (hu : X.A.units + 64 < cLine) (hm : X.mg "repr" = none)
    (hgl : Gl (X.suite a ((a, oe) :: pn)) "repr") (hN : X.N[i]? = some x) (hv : Vis X.env.scope x) (hN2 : X.N[j]? = some y) (hv2 : Vis X.env.scope y) (hd : (x == ("__debug__" : Str)) = false) (hcd : (x == ("__classdict__" : Str)) = false) (hd2 : (y == ("__debug__" : Str)) = false) (hcd2 : (y == ("__classdict__" : Str)) = false) (hp : (p9.endLine == p10.line) = true := by rfl) :
    PSs (X.suite a ((a, oe) :: pn)) [.Expr (.Call (.Attribute (.Name x p1) "append" p9) [.Tuple [.Attribute (.Name y p2) f1 p3, .Call (.Name "repr" p4) [.Attribute (.Name y p5) f2 p6] [] p7] kt p8] [] p10) p11] (tTell X.K i j C f1 f2 true a cls d) := by
  have e1 := pe_xf (X := X) (a := a) (oe := oe) (pn := pn) (pos := p3) (n := f1) T h1 hz hf (pv (X := X.suite a ((a, oe) :: pn)) (pos := p2) j hN2 hv2 hd2 hcd2)
  have e2 := pe_xf (X := X) (a := a) (oe := oe) (pn := pn) (pos := p6) (n := f2) T h2 hz hf (pv (X := X.suite a ((a, oe) :: pn)) (pos := p5) j hN2 hv2 hd2 hcd2)
  have er := pe_callB (X := X.suite a ((a, oe) :: pn)) (p := p4) (pos := p7) (cd_repr (X := X.suite a ((a, oe) :: pn)) hg hu) hgl hm bo_repr (pa_cons e2 pa_nil)
  refine pss_one (ps_imp (ps_expr (pe_bm PySem.F.plainAttrs_list PySem.F.slot_list_append PySem.F.type_list_append mt_append (pv (X := X.suite a ((a, oe) :: pn)) i hN hv hd hcd) (pa_cons (pe_tup (pa_cons e1 (pa_cons er pa_nil))) pa_nil) (hline := hp))) fun D σ H h => ?_)
  obtain ⟨l, xs, dd, vfs, w1, w2, F, d1, d2, z, hσ, hσ2, hcl, hdd, hH, l1, l2, hl, hs, sm, r1, r2, hr, q⟩ := h
  rw [if_pos rfl] at hr
  refine ⟨_, hσ, .inl ⟨rfl, xs, SqL.of hl⟩, _, hσ2, rfl, hcl, dd, vfs, w1, hdd, hH, l1, _, hσ2, rfl, hcl, dd, vfs, w2, hdd, hH, l2, F, [d2], z, sm, .cons r2 .nil, hr, fun v F2 H2 ex rv => ?_⟩
  refine ⟨(by show 2 ≤ sizeLine; decide), fun t nt => ⟨l, xs, .ref t, rfl, rfl, ?_, hs, ?_⟩⟩
  · rw [upd_ne (ne_of_none (ex.kp _ _ hl) nt)]
    exact ex.kp _ _ hl
  · have e2 := Ext.new (o := .tup [w1, v]) ex.sub nt
    exact q _ _ _ (ex.trans e2) (dp_new_tup (ex.sub.free nt) (.cons (dp_mono ex.fz _ r1) (.cons rv .nil)))
theorem pss_tell (T : XfC X.K C) (h1 : PySem.W.findIn X.K (.ref C) f1 = some none) (h2 : PySem.W.findIn X.K (.ref C) f2 = some none) (hz : Zc cls d oe) (hf : ∃ vs, oe.data = .fields vs)
    (hN : X.N[i]? = some x) (hv : Vis X.env.scope x) (hN2 : X.N[j]? = some y) (hv2 : Vis X.env.scope y) (hd : (x == ("__debug__" : Str)) = false) (hcd : (x == ("__classdict__" : Str)) = false) (hd2 : (y == ("__debug__" : Str)) = false) (hcd2 : (y == ("__classdict__" : Str)) = false) (hp : (p9.endLine == p10.line) = true := by rfl) :
    PSs (X.suite a ((a, oe) :: pn)) [.Expr (.Call (.Attribute (.Name x p1) "append" p9) [.Tuple [.Attribute (.Name y p2) f1 p3, .Attribute (.Name y p5) f2 p6] kt p8] [] p10) p11] (tTell X.K i j C f1 f2 false a cls d) := by
  have e1 := pe_xf (X := X) (a := a) (oe := oe) (pn := pn) (pos := p3) (n := f1) T h1 hz hf (pv (X := X.suite a ((a, oe) :: pn)) (pos := p2) j hN2 hv2 hd2 hcd2)
  have e2 := pe_xf (X := X) (a := a) (oe := oe) (pn := pn) (pos := p6) (n := f2) T h2 hz hf (pv (X := X.suite a ((a, oe) :: pn)) (pos := p5) j hN2 hv2 hd2 hcd2)
  refine pss_one (ps_imp (ps_expr (pe_bm PySem.F.plainAttrs_list PySem.F.slot_list_append PySem.F.type_list_append mt_append (pv (X := X.suite a ((a, oe) :: pn)) i hN hv hd hcd) (pa_cons (pe_tup (pa_cons e1 (pa_cons e2 pa_nil))) pa_nil) (hline := hp))) fun D σ H h => ?_)
  obtain ⟨l, xs, dd, vfs, w1, w2, F, d1, d2, z, hσ, hσ2, hcl, hdd, hH, l1, l2, hl, hs, sm, r1, r2, hr, q⟩ := h
  have hr : z = d2 := hr
  subst hr
  refine ⟨_, hσ, .inl ⟨rfl, xs, SqL.of hl⟩, _, hσ2, rfl, hcl, dd, vfs, w1, hdd, hH, l1, _, hσ2, rfl, hcl, dd, vfs, w2, hdd, hH, l2, ?_⟩
  refine ⟨(by show 2 ≤ sizeLine; decide), fun t nt => ⟨l, xs, .ref t, rfl, rfl, ?_, hs, ?_⟩⟩
  · rw [upd_ne (ne_of_none hl nt)]
    exact hl
  · have e2 := Ext.new (o := .tup [w1, w2]) sm nt
    exact q _ _ _ e2 (dp_new_tup (sm.free nt) (.cons r1 (.cons r2 .nil)))
end
end DL

set_option maxRecDepth 100000
set_option maxHeartbeats 2000000
/-! DL22: the end of a law: its def run once, by the caller of claims, with the tables of code objects. -/
namespace DL
open PySem PySem.Spec PyProof.Rows L2 RZ LamX
variable [CC : ClsCtx] [XC : XcCtx]

/-- the law's def, run at the caller's place -/
def RunsAt (P : Program) (w : World) (K : PySem.W.Frag) (mg : Str → Option Value) (base : Heap) (cs : List (Addr × Addr)) (fa a : Addr) (ns : List Int) (s1 : Shared) : Prop :=
  (∀ p ∈ cs, TabB base mg p.1 p.2) → ∀ H : Hp, Env0 P w K mg base callerA [] s1 H → (∀ p ∈ cs, H p.2 = some (.tbl #[])) → SqL K H a (ns.map V.int) →
    codeAny (model P w) callerA (.call (.ref fa) ⟨[.ref a], []⟩) (CR (L2.CX P w) [] P w H s1 (fun v _ => v = .bl true) fun _ _ _ => False) s1
theorem end_run {P : Program} {w : World} {K : PySem.W.Frag} {mg mb : Str → Option Value} {fa a : Addr} {cs : List (Addr × Addr)} {s1 : Shared} {us : List Value} {ns : List Int}
    (inK : K.In s1.heap) (nsG : s1.heap.Ns mainGlobals mg) (nsB : s1.heap.Ns builtinsNs mb) (boot : ∀ x : Str, x ≠ "__name__" → mb x = bootBuiltins x) (lim : s1.heap.NoLimit) (noGen : s1.gens = #[])
    (tabs : ∀ p ∈ cs, s1.heap.get? p.2 = some { cls := .none, data := .fields #[] }) (outK : ∀ p ∈ cs, K.lookup p.2 = none) (codes : ∀ p ∈ cs, PySem.W.CodeHd s1.heap p.1 p.2)
    (bltM : ∃ (bm : Addr) (ob : Obj), mg "__builtins__" = some (.ref bm) ∧ bm ≠ builtinsNs ∧ s1.heap.get? bm = some ob ∧ ob.cls = .type "module" ∧ ob.dict = some builtinsNs ∧ ob.data = .plain)
    (scr : s1.heap.get? a = some { cls := .type "list", data := .seq us.toArray }) (intsA : IntsAre us ns) (few : ns.length ≤ sizeLine) (R : ∀ base : Heap, K.In base → base.Ns mainGlobals mg → RunsAt P w K mg base cs fa a ns s1) :
    codeAny (model P w) callerA (.call (.ref fa) ⟨[.ref a], []⟩) (fun r s2 => r = .ok (.ret (.bool true)) ∧ OldK s1.heap s2.heap ∧ s2.os = s1.os ∧ AllBare s2.gens) s1 := by
  have rel := vals_ints intsA
  have lenU := intsA.length
  have tabAt : ∀ b : Addr, b ∈ cs.map (·.2) → s1.heap.get? b = some { cls := .none, data := .fields #[] } := fun b hb => by
    obtain ⟨p, hp, rfl⟩ := List.mem_map.mp hb
    exact tabs p hp
  have inT : ∀ p ∈ cs, p.2 ∈ cs.map (·.2) := fun p hp => List.mem_map.mpr ⟨p, hp, rfl⟩
  have aOut : a ∉ cs.map (·.2) := fun hb => by
    have q := tabAt a hb
    rw [scr] at q
    have q2 : Data.seq us.toArray _ = Data.fields #[] := congrArg Obj.data (Option.some.inj q)
    cases q2
  -- H tracks nothing but the script and the tables
  have main : ∀ H : Hp, (∀ p ∈ cs, H p.2 = some (.tbl #[])) → (∀ b, H b = none ∨ b ∈ cs.map (·.2) ∨ ∃ o xs, H b = some (.frz o (.lst xs))) → SqL K H a (ns.map V.int) → HOk P w H s1.heap → (∀ b, H b ≠ none → b = a ∨ b ∈ cs.map (·.2)) → (H a ≠ none → K.lookup a = none) →
      codeAny (model P w) callerA (.call (.ref fa) ⟨[.ref a], []⟩) (fun r s2 => r = .ok (.ret (.bool true)) ∧ OldK s1.heap s2.heap ∧ s2.os = s1.os ∧ AllBare s2.gens) s1 := by
    intro H hTab hWhat hScr hOk hWho hNoK
    have free : ∀ {b : Addr} {o : Obj}, s1.heap.get? b = some o → (∀ vs n, o.data ≠ .seq vs n) → o.data ≠ .fields #[] → H b = none := fun {b o} e n1 n2 => by
      cases q : H b with
      | none => rfl
      | some u =>
        rcases hWho b (by rw [q]; simp) with rfl | hb
        · rw [scr] at e; cases e
          exact (n1 _ _ rfl).elim
        · rw [tabAt b hb] at e; cases e
          exact (n2 rfl).elim
    have dictFree : ∀ {b : Addr} {o : Obj} {es : Array DictEntry} {ep : Nat}, s1.heap.get? b = some o → o.data = .dict es ep → H b = none := fun {b o es ep} e d =>
      free e (fun _ _ z => by rw [d] at z; cases z) (fun z => by rw [d] at z; cases z)
    have keepNs : ∀ {b : Addr} {m : Str → Option Value}, s1.heap.Ns b m → (hidT s1.heap H).Ns b m := fun {b m} ⟨o, es, ep, e, d, r⟩ => ⟨o, es, ep, hidT_get e (dictFree e d), d, r⟩
    have inBase : K.In (hidT s1.heap H) := fun b o e => hidT_get (inK b o e) (by
      cases q : H b with
      | none => rfl
      | some u =>
        rcases hWho b (by rw [q]; simp) with rfl | hb
        · rw [hNoK (by rw [q]; simp)] at e; cases e
        · obtain ⟨p, hp, rfl⟩ := List.mem_map.mp hb
          rw [outK p hp] at e; cases e)
    have modOk : L2.Mod K mg (hidT s1.heap H) := ⟨inBase, keepNs nsG, ⟨mb, keepNs nsB, boot⟩, let ⟨mc, l1, l2⟩ := lim; ⟨mc, keepNs l1, l2⟩⟩
    have tabB : ∀ p ∈ cs, TabB (hidT s1.heap H) mg p.1 p.2 := fun p hp => by
      have atP := tabs p hp
      refine ⟨?_, ?_, fun z => ?_⟩
      · obtain ⟨o, vs, file, tf, flags, tg, inF, text, tt, e1, r1, r2, r3, r4, r5, r6, r7, r8, hne⟩ := codes p hp
        refine ⟨o, vs, file, tf, flags, tg, inF, text, tt, hidT_get e1 (free e1 (fun _ _ z => ?_) fun z => ?_), r1, r2, r3, r4, r5, r6, r7, r8, hne⟩
        · rw [r2] at z; cases z
        · rw [r2] at z; cases z
          simp at r3
      · obtain ⟨bm, ob, b1, b2, b3, b4, b5, b6⟩ := bltM
        have ng : bm ≠ mainGlobals := fun q => by
          obtain ⟨o, es, ep, e, hd, _⟩ := nsG
          rw [q, e] at b3; cases b3
          rw [hd] at b6; cases b6
        have np : bm ≠ p.2 := fun q => by
          rw [q, atP] at b3; cases b3
          cases b6
        exact ⟨bm, ob, b1, b2, ng, np, hidT_get b3 (free b3 (fun _ _ z => by rw [b6] at z; cases z) fun z => by rw [b6] at z; cases z), b4, b5, b6⟩
      · obtain ⟨o, es, ep, e, hd, _⟩ := nsG
        rw [z, atP] at e; cases e
        cases hd
    have env : Env0 P w K mg (hidT s1.heap H) callerA [] s1 H := ⟨rfl, modOk, fun b o e => of_hidT e, Nat.le_of_eq (hidT_size _ _), trivial, fun b hb => absurd (show b ∈ ([] : List Addr) from hb) (by simp), hOk, .of_eq noGen⟩
    refine codeAny_mono (R _ inBase (keepNs nsG) tabB H env hTab hScr) fun r s2 hr => ?_
    cases r with
    | error e =>
      obtain ⟨_, _, _, _, _, _, _, _, _, _, _, _, z⟩ := (show L2.CX P w [] H s1 (fun _ _ _ => False) e s2 from hr)
      exact z.elim
    | ok fl =>
      cases fl with
      | next => exact False.elim hr
      | brk => exact False.elim hr
      | cont => exact False.elim hr
      | ret u =>
        obtain ⟨v, H2, os2, bare2, un2, ok2, rv, rfl⟩ := hr
        obtain rfl : u = Value.bool true := rv
        have other : ∀ b o, b ∉ cs.map (·.2) → s1.heap.get? b = some o → s2.heap.get? b = some o := fun b o nb e => by
          cases q : H b with
          | none => exact un2.keep b o e q (fun z => absurd (show b ∈ ([] : List Addr) from z) (by simp)) (by simp)
          | some u =>
            rcases hWhat b with z | z | ⟨ob, xs, z⟩
            · rw [q] at z; cases z
            · exact absurd z nb
            · obtain ⟨e1, _⟩ := hOk b _ z
              obtain ⟨e2, _⟩ := ok2 b _ (un2.frzs b ob _ z)
              rw [e] at e1; cases e1
              exact e2
        have more : ∀ p ∈ cs, ∃ m : Array Value, s2.heap.get? p.2 = some { cls := .none, data := .fields m } := fun p hp =>
          let ⟨_, z⟩ := un2.tbls p.2 #[] (hTab p hp)
          ⟨_, ok2 p.2 _ z⟩
        refine ⟨rfl, ⟨fun b o e => ?_, fun b o e => ?_⟩, os2, bare2⟩
        · by_cases hb : b ∈ cs.map (·.2)
          · obtain ⟨p, hp, rfl⟩ := List.mem_map.mp hb
            obtain ⟨m, hm⟩ := more p hp
            rw [tabs p hp] at e; cases e
            exact .inr (.inl ⟨((codes p hp).tab (tabs p hp)).isCodeTable, rfl, #[], m, rfl, by rw [Array.empty_append]; exact hm⟩)
          · exact .inl (other b o hb e)
        · by_cases hb : b ∈ cs.map (·.2)
          · obtain ⟨p, hp, rfl⟩ := List.mem_map.mp hb
            obtain ⟨m, hm⟩ := more p hp
            exact ⟨_, hm⟩
          · exact ⟨o, other b o hb e⟩
  let scrO : HO := .frz { cls := .type "list", data := .seq us.toArray } (.lst (ns.map V.int))
  cases hk : K.lookup a with
  | some o =>
    have e := inK a o hk
    rw [scr] at e; cases e
    let H0 : Hp := fun b => if b ∈ cs.map (·.2) then some (.tbl #[]) else none
    have yes : ∀ {b}, b ∈ cs.map (·.2) → H0 b = some (.tbl #[]) := fun {b} h => if_pos h
    have no : ∀ {b}, b ∉ cs.map (·.2) → H0 b = none := fun {b} h => if_neg h
    refine main H0 (fun p hp => yes (inT p hp)) (fun b => ?_) (.inr ⟨_, us.toArray, _, hk, rfl, rfl, rfl, by rw [List.size_toArray, lenU]; exact few, by simpa using rel⟩) (fun b u z => ?_) (fun b z => ?_) fun z => absurd (no aOut) z
    · by_cases hb : b ∈ cs.map (·.2)
      · exact .inr (.inl hb)
      · exact .inl (no hb)
    · by_cases hb : b ∈ cs.map (·.2)
      · rw [yes hb] at z; cases z
        exact tabAt b hb
      · rw [no hb] at z; cases z
    · by_cases hb : b ∈ cs.map (·.2)
      · exact .inr hb
      · exact absurd (no hb) z
  | none =>
    let H0 : Hp := fun b => if b = a then some scrO else if b ∈ cs.map (·.2) then some (.tbl #[]) else none
    have own : H0 a = some scrO := if_pos rfl
    have yes : ∀ {b}, b ∈ cs.map (·.2) → H0 b = some (.tbl #[]) := fun {b} h => (if_neg fun z => aOut (by rw [← z]; exact h)).trans (if_pos h)
    have no : ∀ {b}, b ≠ a → b ∉ cs.map (·.2) → H0 b = none := fun {b} h1 h2 => (if_neg h1).trans (if_neg h2)
    refine main H0 (fun p hp => yes (inT p hp)) (fun b => ?_) (.inl (.inr ⟨_, own⟩)) (fun b u z => ?_) (fun b z => ?_) fun _ => hk
    · by_cases hb : b = a
      · rw [hb]; exact .inr (.inr ⟨_, _, own⟩)
      · by_cases hb2 : b ∈ cs.map (·.2)
        · exact .inr (.inl hb2)
        · exact .inl (no hb hb2)
    · by_cases hb : b = a
      · subst hb
        rw [own] at z; cases z
        exact ⟨scr, by rw [List.length_map]; exact few, us, _, rel, scr⟩
      · by_cases hb2 : b ∈ cs.map (·.2)
        · rw [yes hb2] at z; cases z
          exact tabAt b hb2
        · rw [no hb hb2] at z; cases z
    · by_cases hb : b = a
      · exact .inl hb
      · by_cases hb2 : b ∈ cs.map (·.2)
        · exact .inr hb2
        · exact absurd (no hb hb2) z
/-- what is known at the head's heap h -/
def LawRuns (l : PySem.W.OpenLaw) (w : World) (K : PySem.W.Frag) (n : Nat) (mg : Str → Option Value) (fa : Addr) (h : Heap) : Prop :=
  ∃ cs : List (Addr × Addr), (∀ p ∈ cs, h.get? p.2 = some { cls := .none, data := .fields #[] }) ∧ (∀ p ∈ cs, K.lookup p.2 = none) ∧ (∀ p ∈ cs, PySem.W.CodeHd h p.1 p.2) ∧
    ∀ (base : Heap) (s1 : Shared) (a : Addr) (ns : List Int), s1.heap = h → ns.length ≤ n → (∀ z ∈ ns, Builtin.Int.intBits z ≤ 1048576) → K.In base → base.Ns mainGlobals mg → RunsAt l.prog w K mg base cs fa a ns s1
theorem walk_runs {l : PySem.W.OpenLaw} {n : Nat} {q : Program} {loose : List Str} {XP : (Str → Option Value) → Heap → Prop} {YP : World → Heap → Prop} {d : DefRec} {K : Params → PySem.W.Frag}
    (hn : l.most = some n) (hn2 : n ≤ sizeLine) (hdf : d.params.defaults = []) (hrec : ((recsOf q).any fun e => e.name == d.name) = true) (hY : ∀ (w : World) (h : Heap), YP w h → (K w.params).In h)
    (F : ∀ (w : World) (mg : Str → Option Value) (fa : Addr) (h : Heap), YP w h → (K w.params).In h → h.Ns mainGlobals mg → mg d.name = some (.ref fa) → OwnTab (K w.params) fa h → LawRuns l w (K w.params) n mg fa h) :
    PySem.W.WalkO q loose XP YP l.row.toRowW d [] (fun f vs => PySem.call f vs) := by
  refine Att.attach_callB hn hdf fun w s0 s1 mg mb fa o pm cd doc a us ns G Y ho hd hcd hmg scr intsA hlen hbits hgen => ?_
  have inK := hY w _ Y
  have own : OwnTab (K w.params) fa s1.heap := fun c P o1 fd1 e dd vs1 sl k1 k2 k3 k4 k5 => by
    obtain ⟨dL, hm, hn1⟩ := List.any_eq_true.mp hrec
    have same : dL.name = d.name := beq_iff_eq.mp hn1
    obtain ⟨a', o', fd', c', P', h1, h2, h3, h4, h5, h6⟩ := G.T.tab dL hm
    rw [same, hmg] at h1; cases h1
    rw [inK _ _ k1] at h2; cases h2
    rw [k2] at h3; cases h3
    rw [k3] at h4; cases h4
    obtain ⟨⟨oc, vc, e1, _, e3, e4⟩, hP⟩ := h6
    rw [inK _ _ k4] at e1; cases e1
    cases e3
    rw [k5] at e4; cases e4
    exact hP
  obtain ⟨cs, t1, t2, t3, hF⟩ := F w mg fa _ Y inK G.T.g hmg own
  exact end_run inK G.T.g G.T.b G.T.builtins G.T.nolimit hgen t1 t2 t3 G.T.bmain scr intsA (Nat.le_trans hlen hn2) fun base kb nb => hF base s1 a ns rfl hlen hbits kb nb
end DL

set_option maxRecDepth 100000
set_option maxHeartbeats 2000000
/-! DL23: facts of the written part, in short words; the maker of the pen. -/
namespace DL
open PySem PySem.Spec PyProof.Rows L2 RZ LamX
variable [CC : ClsCtx] [XC : XcCtx]

section
variable {K : PySem.W.Frag} {h : Heap} {mg : Str → Option Value} {cls : Str → Option Addr} {x : Str} {st : Stmt} {f : Addr} {oc : Value} {od an : Option Addr} {osl : Array (Option Value)} {kV doc pm cdv ct : Value} {ps : List Str}
theorem defT_mk (KX : K.In h) (G : h.Ns mainGlobals mg) (a : PySem.W.nsIn K mainGlobals x = some (some (.ref f)))
    (l : K.lookup f = some ⟨oc, od, .func (PySem.W.fnOf x x (defArgs st) (defBody st) (defScope st) .none kV doc pm an cdv ct), osl⟩) (c : PySem.W.codeIn K cdv x = true) (k : PySem.W.keepIn K (.ref f) = true)
    (hb : ∀ (kV doc pm : Value) (an : Option Addr) (cdv ct : Value) (us : List Value), us.length = ps.length → bindArgs (PySem.W.fnOf x x (defArgs st) (defBody st) (defScope st) .none kV doc pm an cdv ct) ⟨us, []⟩ = pure (ps.zip us)) : DefT K mg x st ps :=
  let Fu := fun_mk (st := st) l c k
  ⟨⟨f, _, PySem.W.mg_of KX G a, Fu, Fu.binds hb⟩⟩
theorem globT_str (KX : K.In h) (G : h.Ns mainGlobals mg) {s : Str} {t : Tok} (a : PySem.W.nsIn K mainGlobals x = some (some (.str s t))) : GlobT K mg x (.str s) := ⟨⟨.str s, _, PySem.W.mg_of KX G a, ⟨t, rfl⟩, fun _ => .str s⟩⟩
theorem globT_int (KX : K.In h) (G : h.Ns mainGlobals mg) {i : Int} {t : Tok} (a : PySem.W.nsIn K mainGlobals x = some (some (.int i t))) : GlobT K mg x (.int i) := ⟨⟨.int i, _, PySem.W.mg_of KX G a, ⟨t, rfl⟩, fun _ => .int i⟩⟩
/-- a tuple of texts -/
def strVals : List Value → Option (List Str)
  | [] => some []
  | .str s _ :: r => (strVals r).map (s :: ·)
  | _ => none
theorem strVals_of : ∀ {vs : List Value} {ss : List Str}, strVals vs = some ss → Vals (ss.map V.str) vs
  | [], ss, e => by cases e; exact .nil
  | v :: r, ss, e => by
    cases v with
    | str s t =>
      simp only [strVals] at e
      cases e1 : strVals r with
      | none => rw [e1] at e; cases e
      | some q => rw [e1] at e; cases e; exact .cons ⟨t, rfl⟩ (strVals_of e1)
    | _ => cases e
theorem globT_tup (KX : K.In h) (G : h.Ns mainGlobals mg) {its : Array Value} {n : Nat} {dd : Option Addr} {ss : List Str} (a : PySem.W.nsIn K mainGlobals x = some (some (.ref f))) (l : K.lookup f = some ⟨.type "tuple", dd, .seq its n, osl⟩) (hs : strVals its.toList = some ss) (hl : its.size ≤ sizeLine) : GlobT K mg x (.tuple (ss.map .str)) :=
  ⟨⟨.ref f, _, PySem.W.mg_of KX G a, rfl, fun F => .tup (.inr ⟨_, its, n, l, rfl, rfl, hl, strVals_of hs⟩) (dpa_of_strs ss)⟩⟩
theorem excF_mk {names : List Str} {C fI N : Addr} {qual : Str} (KX : K.In h) (G : h.Ns mainGlobals mg) {nm q : Str} {bs bm : List Value} {sn : List Str} {sub : List Value} {ab : Bool} {col : Option Bool} {dd : Option Addr} {m0 m1 m2 m3 m5 : Option Value} (hc : cls x = some C) (hq : x ++ ".__init__" = qual) (a : PySem.W.nsIn K mainGlobals x = some (some (.ref C)))
    (xL : K.lookup C = some (excClassObj nm q C N bs bm true sn sub ab col dd m0 m1 m2 m3 m5 "ValueError.__new__")) (hbm : PySem.HandSPX.refsVE bm = true)
    (sa : PySem.W.findIn K (.ref C) "__setattr__" = some (some (.builtin "object.__setattr__"))) (eC : PySem.W.subIn K (.ref C) (.type "BaseException") = some true) (tC : PySem.W.typeIn K (.ref C) = some (.type "type")) (kC : PySem.W.keepIn K (.ref C) = true)
    (no : ∀ n ∈ names, PySem.W.findIn K (.ref C) n = some none) (iC : PySem.W.findIn K (.ref C) "__init__" = some (some (.ref fI))) (tI : PySem.W.typeIn K (.ref fI) = some (.type "function")) (xf : XfC K C)
    (l : K.lookup fI = some ⟨oc, od, .func (PySem.W.fnOf "__init__" qual (defArgs st) (defBody st) (defScope st) .none kV doc pm an cdv ct), osl⟩) (c : PySem.W.codeIn K cdv qual = true) (k : PySem.W.keepIn K (.ref fI) = true)
    (hb : ∀ (kV doc pm : Value) (an : Option Addr) (cdv ct : Value) (us : List Value), us.length = (("self" : Str) :: names).length → bindArgs (PySem.W.fnOf "__init__" qual (defArgs st) (defBody st) (defScope st) .none kV doc pm an cdv ct) ⟨us, []⟩ = pure ((("self" : Str) :: names).zip us)) :
    ExcF K mg cls x names st := by
  subst hq
  let Fu := fun_mk (st := st) l c k
  exact ⟨⟨C, fI, _, hc, PySem.W.mg_of KX G a, ⟨⟨nm, q, N, bs, bm, sn, sub, ab, col, dd, m0, m1, m2, m3, m5, xL, hbm⟩, sa, eC, tC, kC⟩, no, iC, tI, xf, Fu, Fu.binds hb⟩⟩
theorem xfC_mk {C : Addr} (h1 : PySem.W.findIn K (.ref C) "__getattribute__" = some (some (.builtin "BaseException.__getattribute__"))) (h2 : PySem.W.findIn K (.ref C) "__getattr__" = some none) (h3 : PySem.W.subIn K (.ref C) (.type "BaseException") = some true) (h4 : PySem.W.hasDictIn K C = true) : XfC K C := ⟨h1, h2, h3, h4⟩
theorem exm_mk {C S : Addr} {b : Bool} (h1 : PySem.W.subIn K (.ref S) (.type "BaseException") = some true) (h2 : PySem.W.isClsIn K S = true) (h3 : PySem.W.typeIn K (.ref S) = some (.type "type")) (h4 : PySem.W.subIn K (.ref C) (.ref S) = some b) : PySem.W.exmOne K (.ref C) (.ref S) = some b := by
  have e1 : (PySem.W.subIn K (.ref S) (.type "BaseException") == some true) = true := by rw [h1]; rfl
  have e2 : ((PySem.W.clsIn K S).isSome && PySem.W.typeIn K (.ref S) == some (.type "type")) = true := by
    rw [show (PySem.W.clsIn K S).isSome = true from h2, h3]; rfl
  show (if (PySem.W.subIn K (.ref S) (.type "BaseException") == some true) = true then (if ((PySem.W.clsIn K S).isSome && PySem.W.typeIn K (.ref S) == some (.type "type")) = true then PySem.W.subIn K (.ref C) (.ref S) else none) else none) = some b
  rw [if_pos e1, if_pos e2]
  exact h4
theorem codeHd_mk {cL pT : Addr} {dd : Option Addr} {vs : Array Value} {sl : Array (Option Value)} (kc : K.lookup cL = some ⟨.type "code", dd, .fields vs, sl⟩)
    (e : ((match (vs[11]? : Option Value) with | some (.ref P') => P' == pT | _ => false) && (match vs.getD 18 .none with | .str _ _ => true | _ => false) && (match vs.getD 7 .none with | .int _ _ => true | _ => false) && (match vs.getD 9 .none with | .bool _ => true | _ => false) && (match vs.getD 10 .none with | .int _ _ => true | _ => false) && cL != pT) = true) : PySem.W.codeHdIn K cL pT = true := by
  unfold PySem.W.codeHdIn
  rw [kc]
  exact e
theorem look_none : ∀ {K : PySem.W.Frag} {a : Addr}, (K.map (·.1)).contains a = false → K.lookup a = none
  | [], _, _ => rfl
  | (b, o) :: K, a, h => by
    simp only [List.map_cons, List.contains_cons, Bool.or_eq_false_iff] at h
    rw [List.lookup_cons, h.1]
    exact look_none h.2
theorem km_out {K : Params → PySem.W.Frag} {as : List Addr} {e : ∀ P, as = (K P).map (·.1)} {ts : List Addr} {w : World} {h : Heap} {a : Addr} (Y : (PySem.W.kmHook K as e ts).says w h) (ha : as.contains a = false) : (K w.params).lookup a = none := look_none (by rw [← e w.params]; exact ha)
end

/-! ### the maker of the pen -/
def foldPen (ns : List Int) : Int := ns.foldl (fun fold cell => (fold * 173 + cell) % 1000000607) 67
def pen0 (ns : List Int) : Pen := ⟨ns, 0, 0, 0, foldPen ns⟩
def spPen0 (K : PySem.W.Frag) : Sp := fun vs H Q _ => vs.length = 1 ∧ ∃ F a ns, vs = [.ref a] ∧ Same F H ∧ SqL K F a (ns.map V.int) ∧ ns.length ≤ sizeLine ∧
  ∀ p ca F' H', Go [] F H [p] F' H' → Same F' H' → H' p = some (.dK (penKvs ca (pen0 ns))) → F' p = none → SqL K F' ca (ns.map V.int) → Q (.ref p) H'
/-- what a pair of a dict at hand tells -/
theorem pen_of {K : PySem.W.Frag} {F H : Hp} {v : V} {ns : List Int} {n : Int} {fc : List Addr} (h : CRep K F H (some v) (.dk [(.inr "cells", .list (ns.map .int)), (.inr "at", .int 0), (.inr "digits", .int 0), (.inr "count", .int 0), (.inr "fold", .int n)]) fc) :
    ∃ p ca, v = .ref p ∧ fc = [p] ∧ H p = some (.dK (penKvs ca ⟨ns, 0, 0, 0, n⟩)) ∧ F p = none ∧ SqL K F ca (ns.map V.int) := by
  cases h with
  | @dk a kvv _ h n0 ek da =>
    match kvv, ek, da, h with
    | [(k1, v1), (k2, v2), (k3, v3), (k4, v4), (k5, v5)], ek, da, h =>
      simp only [List.map_cons, List.map_nil, List.cons.injEq, and_true] at ek da
      obtain ⟨rfl, rfl, rfl, rfl, rfl⟩ := ek
      cases da with
      | cons r1 da =>
        cases da with
        | cons r2 da =>
          cases da with
          | cons r3 da =>
            cases da with
            | cons r4 da =>
              cases da with
              | cons r5 da =>
                cases r2; cases r3; cases r4; cases r5
                cases r1 with
                | lst hq hd =>
                  have e := dpa_ints hd
                  subst e
                  exact ⟨a, _, rfl, rfl, h, n0, hq⟩
theorem modD_pos {i j : Int} (h : 0 < j) : modD (.int i) (.int j) = some (.int (i % j)) := by
  have e : modD (.int i) (.int j) = some (.int (i.fmod j)) := if_pos (by omega)
  rw [e, Int.fmod_eq_emod_of_nonneg i (by omega)]
theorem divD_pos {i j : Int} (h : 0 < j) (h2 : j < 1073741824) : floordivD (.int i) (.int j) = some (.int (i / j)) := by
  have e : floordivD (.int i) (.int j) = some (.int (i.fdiv j)) := if_pos ⟨by omega, by omega⟩
  rw [e, Int.fdiv_eq_ediv_of_nonneg i (by omega)]
end DL

set_option maxRecDepth 100000
set_option maxHeartbeats 1000000
/-! DL24: own exceptions as values: their fields, their classes, how they are made. -/
namespace DL
open PySem PySem.Spec PyProof.Rows L2 RZ
variable [CC : ClsCtx] [XC : XcCtx]

section
variable {X : Cx} {pins : List (Addr × Obj)} {σ : L2.St} {H : Hp} {s : Shared} {a C dx : Addr} {fs : List (Str × V)}
theorem exo_inst (I : Inv X pins σ H s) (ha : H a = some (exo a C (some dx))) (hd : H dx = some (exd dx fs)) :
    ∃ (oe od : Obj) (mA : Str → Option Value), PySem.W.InstAt s.heap a oe C (some od) ∧ (∀ name, PySem.W.lookIn name od = some (mA name)) ∧ ∀ f, RelO (fs.lookup f) (mA f) := by
  obtain ⟨t1, ho⟩ := exo_at I.hok ha
  obtain ⟨mA, hns, rel⟩ := exd_at I.hok hd
  obtain ⟨od, hod, hl⟩ := lookIn_ns hns
  exact ⟨_, od, mA, ⟨ho, rfl, rfl, hod⟩, hl, rel⟩
theorem ex0_inst (I : Inv X pins σ H s) (ha : H a = some (ExO (.ref C) a)) : ∃ oe : Obj, PySem.W.InstAt s.heap a oe C none := by
  obtain ⟨⟨oe, vs, ho, hz, hd, _⟩, _, _⟩ := I.hok a _ ha
  exact ⟨oe, ⟨ho, hz.1, by unfold PySem.W.notCls; rw [hd] <;> rfl, by rw [hz.2]; trivial⟩⟩
end

/-! ### x.f -/
section
variable {X : Cx} {cls : Str → Option Addr} {W : WX} {pos p p2 : Pos} {e : Expr} {f : Str} {te : TE} {me : M PyData}
theorem pe_atO (he : PE X e te) (hb : attributeBase e f X.env (eval e X.env) = eval e X.env := by rfl) :
    PE X (.Attribute e f pos) (fun σ H Q => te σ H fun x H1 => ∃ (a C dx : Addr) (fs : List (Str × V)) (v : V), x = .ref a ∧ H1 a = some (exo a C (some dx)) ∧ H1 dx = some (exd dx fs) ∧ XfC X.K C ∧ PySem.W.findIn X.K (.ref C) f = some none ∧ fs.lookup f = some v ∧ Q v H1) := by
  refine ⟨fun pins s σ H Q I h => ?_⟩
  refine attr_of hb (thn (he.run pins s σ H _ I h) fun u s1 hh => ?_)
  obtain ⟨x, H1, I1, rx, a, C, dx, fs, v, ex, ha, hd, T, hno, l, q⟩ := hh
  subst ex
  obtain rfl : u = Value.ref a := rx
  obtain ⟨oe, od, mA, J, hl, rel⟩ := exo_inst I1 ha hd
  obtain ⟨u, hu, ru⟩ := RelO.some_of (v := v) (o := mA f) (by rw [← l]; exact rel f)
  exact HandSPX.exc_get I1.kIn J T.ga T.gg T.exC (PySem.W.findObj_own T.hdC hno rfl (by rw [hl, hu])) (handed_of ru) ⟨v, H1, I1.tok _, ru, q⟩
def lookKV (f : Str) : List (PyData × PyData) → Option PyData
  | [] => none
  | (.str g, d) :: r => if g = f then some d else lookKV f r
  | _ :: r => lookKV f r
def attrD (f : Str) : PyData → Option PyData
  | .dict (_ :: kvs) => lookKV f kvs
  | _ => none
theorem lookKV_map (f : Str) : ∀ fds : List (Str × PyData), lookKV f (fds.map fun p => (PyData.str p.1, p.2)) = fds.lookup f
  | [] => rfl
  | (g, d) :: r => by
    rw [lookup_put']
    show (if g = f then some d else lookKV f (r.map _)) = _
    rw [lookKV_map f r]
    by_cases h : g = f
    · rw [if_pos h, if_pos h.symm]
    · rw [if_neg h, if_neg (Ne.symm h)]
where
  lookup_put' {f g : Str} {y : PyData} {fs : List (Str × PyData)} : ((g, y) :: fs).lookup f = if f = g then some y else fs.lookup f := by
    by_cases h : f = g
    · subst h
      simp [List.lookup]
    · have e : (f == g) = false := by simpa using h
      rw [if_neg h]
      simp [List.lookup, e]
theorem look_dpa {K : PySem.W.Frag} {F : Hp} {f : Str} : ∀ {fs : List (Str × V)} {fds : List (Str × PyData)} {d : PyData}, fs.map (·.1) = fds.map (·.1) → DpAll K F (fs.map (·.2)) (fds.map (·.2)) → fds.lookup f = some d → ∃ v, fs.lookup f = some v ∧ Dp K F v d ∧ f ∈ fds.map (·.1)
  | _, [], _, _, _, e => by cases e
  | [], _ :: _, _, n, _, _ => by cases n
  | (g, v) :: fs, (g', d') :: fds, d, n, h, e => by
    have n1 : g = g' := (List.cons.inj n).1
    have n2 : fs.map (·.1) = fds.map (·.1) := (List.cons.inj n).2
    subst n1
    cases h with
    | cons h1 h2 =>
      by_cases hg : f = g
      · subst hg
        have e' : some d' = some d := by simpa [List.lookup] using e
        cases e'
        exact ⟨v, by simp [List.lookup], h1, by simp⟩
      · have q : (f == g) = false := by simpa using hg
        obtain ⟨v', l, r, m⟩ := look_dpa n2 h2 (by simpa [List.lookup, q] using e)
        exact ⟨v', by simpa [List.lookup, q] using l, r, by simp only [List.map_cons]; exact List.mem_cons_of_mem _ m⟩
theorem de_attr (he : DE X cls W e me) (hb : attributeBase e f X.env (eval e X.env) = eval e X.env := by rfl) : DE X cls W (.Attribute e f pos) (bnd me fun d => lft (attrD f d)) := by
  refine pe_imp (pe_atO he hb) fun σ H Q h => ?_
  obtain ⟨F, fp, δ, h⟩ := h
  refine Tm.mono (TmA.tm (tm_bnd h)) fun v H1 ⟨x, F1, fp1, δ1, rx, s1, _, _, h1⟩ => ?_
  obtain ⟨z, e, E, q⟩ := tm_lft h1
  cases rx with
  | exo hc ha hd hn hv =>
    have e' : lookKV f _ = some z := e
    rw [lookKV_map] at e'
    obtain ⟨v', l, r, m⟩ := look_dpa hn hv e'
    exact ⟨_, _, _, _, v', rfl, E.sub _ _ ha, E.sub _ _ hd, hc.xf, hc.nf _ m, l, q F1 H1 (Ext.refl E.sub) _ r⟩
  | ex0 hc ha => cases e
  | _ => cases e
end

/-! ### isinstance(x, C) -/
def rIsiO (K : PySem.W.Frag) : List V → Hp → VK → Prop := fun xs H Q => ∃ (a C : Addr) (n : Str) (l : List Str) (c : V) (u : Value) (b : Bool), xs = [.ref a, c] ∧ ClsV c u ∧ ((∃ dx fs, H a = some (exo a C (some dx)) ∧ H dx = some (exd dx fs)) ∨ H a = some (ExO (.ref C) a)) ∧ XoF K C n l ∧ PySem.W.kitOne K (.ref C) u = some b ∧ Q (.bl b) H
section
variable {X : Cx} {cls : Str → Option Addr} {W : WX} {pos p p2 : Pos} {e : Expr} {me : M PyData} {tn : Str}
theorem call_isiO : CallR X (.builtin "isinstance") (rIsiO X.K) := by
  intro pins s σ H xs us Q I r h
  obtain ⟨a, C, n, l, c, u, b, rfl, k, hx, ic, e, q⟩ := h
  obtain ⟨u1, u2, rfl, r1, r2⟩ := vals2 r
  have e2 := k.eq r2
  subst e2
  cases (show u1 = Value.ref a from r1)
  have J : ∃ (oe : Obj) (od : Option Obj), PySem.W.InstAt s.heap a oe C od := by
    rcases hx with ⟨dx, fs, ha, hd⟩ | ha
    · obtain ⟨oe, od, _, J, _⟩ := exo_inst I ha hd
      exact ⟨oe, _, J⟩
    · obtain ⟨oe, J⟩ := ex0_inst I ha
      exact ⟨oe, _, J⟩
  obtain ⟨oe, od, J⟩ := J
  exact PySem.W.kia_one (PySem.W.kitx_exc (show (PySem.W.clsIn X.K C).isSome = true from ic.ic) ic.xf.ga ic.xf.gg ic.xf.exC ic.ca ic.cg ic.ct ic.cm) I.kIn J e (fun z => nomatch z) fun tk => ⟨.bl b, H, I.tok tk, rfl, q⟩
def objN : PyData → Option Str
  | .dict ((_, .str n) :: _) => some n
  | _ => none
def isiO (sub : Str → Bool) (d : PyData) : Option PyData := (objN d).map fun n => .bool (sub n)
/-- isinstance(e, C) -/
theorem de_isiC {ec : Expr} {cv : V} {cu : Value} (sub : Str → Bool) (k : ClsV cv cu) (hS : ∀ n C, CC.cls n = some C → PySem.W.kitOne X.K (.ref C) cu = some (sub n)) (hm : X.mg "isinstance" = none) (hec : PE X ec (tC cv)) (he : DE X cls W e me)
    (hg : Gl X "isinstance" := by rfl)
    (hs : starEach [e, ec] X.env = (false, eval e X.env) :: starEach [ec] X.env := by rfl) (hs2 : starEach [ec] X.env = (false, eval ec X.env) :: starEach [] X.env := by rfl) (hpl : (backTo pos (starEach [ec] X.env)).any (·.1) = false := by rfl) :
    DE X cls W (.Call (.Name "isinstance" p) [e, ec] [] pos) (bnd me fun d => lft (isiO sub d)) := by
  refine pe_imp (pe_callB call_isiO hg hm boot_isinstance (pa_cons he (pa_cons hec pa_nil hs2) hs) (he := hs) (hpl := hpl)) fun σ H Q h => ?_
  obtain ⟨F, fp, δ, h⟩ := h
  refine Tm.mono (TmA.tm (tm_bnd h)) fun v H1 ⟨x, F1, fp1, δ1, rx, s1, _, _, h1⟩ => ?_
  obtain ⟨z, e, E, q⟩ := tm_lft h1
  cases rx with
  | exo hc ha hd hn hv =>
    cases e
    exact ⟨_, _, _, _, cv, cu, _, rfl, k, .inl ⟨_, _, E.sub _ _ ha, E.sub _ _ hd⟩, hc, hS _ _ hc.cl, q F1 H1 (Ext.refl E.sub) _ (.bl _)⟩
  | ex0 hc ha =>
    cases e
    exact ⟨_, _, _, _, cv, cu, _, rfl, k, .inr (E.sub _ _ ha), hc, hS _ _ hc.cl, q F1 H1 (Ext.refl E.sub) _ (.bl _)⟩
  | _ => cases e
end

/-! ### C(e, ..) as a value -/
def tMkV (C : Addr) (sp : Sp) (ta : TA) : TE := fun σ H Q => ta σ H fun vs H1 => vs.length ≤ 1000 ∧ ∀ a, H1 a = none → sp (.ref a :: vs) (upd H1 a (exo a C none)) (fun v H2 => v = .non ∧ Q (.ref a) H2) (fun _ _ _ => False)
section
variable {X : Cx} {e : Expr} {es : List Expr} {ta : TA} {p pos : Pos}
theorem pe_mkV {CX : CXT} {x : Str} {C fI : Addr} {k : Nat} {fd : FuncData} {ps : List Str} {sp : Sp} (T : OexC X.K C) (iC : PySem.W.findIn X.K (.ref C) "__init__" = some (some (.ref fI))) (tI : PySem.W.typeIn X.K (.ref fI) = some (.type "function"))
    (F1 : FnOk X.prog X.w X.K X.mg X.base CX k fI fd ps sp) (hr : Room (k + 1) X.A) (hb : Binds X.K fd ps []) (hx : Passes CX X (fun _ _ _ => False)) (hg : Gl X x) (hm : X.mg x = some (.ref C)) (ha : PA X (e :: es) ta)
    (hdb : (x == ("__debug__" : Str)) = false := by decide) (he : starEach (e :: es) X.env = (false, eval e X.env) :: starEach es X.env := by rfl) (hpl : (backTo pos (starEach es X.env)).any (·.1) = false := by rfl) :
    PE X (.Call (.Name x p) (e :: es) [] pos) (tMkV C sp ta) := by
  refine ⟨fun pins s σ H Q I h => ?_⟩
  obtain ⟨nm, q, N, bs, bm, sn, sub, ab, col, dd, k0, k1, k2, k3, k5, hC, hbm⟩ := T.cls
  refine wpAny_Call_Name_kw (ld_glob I hg hm ?_ hdb)
  refine PySem.W.callWith_K (h₀ := X.base) I.ok.mod.kin T.kC (thn (ha.run pos pins s σ H _ I h) fun us s1 ⟨vs, H1, I1, r1, hz, q1⟩ => ⟨I1.kIn, ?_⟩) he hpl
  show wpAny _ _ (call (.ref C) us) _ _ _
  obtain ⟨hp, g, dr, tk, os⟩ := s1
  have hsz : hp.objs.size ≤ hp.objs.size + 1 := Nat.le_succ _
  have hn : H1 (hp.objs.size + 1) = none := I1.hok.fresh hsz
  have hq := q1 (hp.objs.size + 1) hn
  have kk : ∀ b o, hp.get? b = some o → ((hp.push (PySem.W.kdv_tup us)).push (PySem.HandSPX.excO C hp.objs.size)).get? b = some o := fun b o e => Heap.get?_push_of_some _ (Heap.get?_push_of_some _ e)
  have hget : ((hp.push (PySem.W.kdv_tup us)).push (PySem.HandSPX.excO C hp.objs.size)).get? (hp.objs.size + 1) = some (PySem.HandSPX.excO C hp.objs.size) := by heap_get
  have I2 : Inv X pins σ (upd H1 (hp.objs.size + 1) (exo (hp.objs.size + 1) C none)) ⟨(hp.push (PySem.W.kdv_tup us)).push (PySem.HandSPX.excO C hp.objs.size), g, dr, tk, os⟩ :=
    I1.laid (t' := tk) (a := hp.objs.size + 1) (o := exo (hp.objs.size + 1) C none) (h' := (hp.push (PySem.W.kdv_tup us)).push (PySem.HandSPX.excO C hp.objs.size)) kk hsz (exo_ok hget)
  have r2 : Vals (V.ref (hp.objs.size + 1) :: vs) (Value.ref (hp.objs.size + 1) :: us) := .cons rfl r1
  have hl : (Value.ref (hp.objs.size + 1) :: us).length = ps.length := by
    have e := r2.length
    rw [F1.len _ _ _ _ hq] at e
    exact e.symm
  have hus : us.length ≤ sizeLine := by
    rw [← Paired.length r1, sizeLine_eq]
    omega
  have bb := hb _ (Value.ref (hp.objs.size + 1) :: us) I2.kIn (by rw [List.append_nil]; exact hl)
  rw [List.append_nil] at bb
  refine wpAny_call (PySem.HandSPX.call_own F.excBase_ValueError (fun Y => PySem.HandSPX.refsVE_contains Y bm hbm) (I1.kIn _ _ hC) (PySem.W.looks_findIn I1.kIn iC) (fun self => PySem.W.bind_fn I1.kIn self tI) hus
    (codeAny_mono (F1.run _ X.stack _ _ ⟨Value.ref (hp.objs.size + 1) :: us, []⟩ (Value.ref (hp.objs.size + 1) :: us) _ _ (fun _ _ _ => False) (hr.make C us []) (I2.env0.make C us []) bb r2 hq) fun r s' hq' => ?_))
  cases r with
  | error er => exact hx pins σ _ _ er s' I2 hq'
  | ok fl =>
    cases fl with
    | ret u =>
      obtain ⟨v, H2, os2, bare2, un2, hok2, rv, ev, q2⟩ := hq'
      subst ev
      exact ⟨rv, .ref (hp.objs.size + 1), H2, I2.call' (ch := []) os2 un2 hok2 bare2 (fun b z => absurd z (by simp)), rfl, q2⟩
    | next => exact False.elim hq'
    | brk => exact False.elim hq'
    | cont => exact False.elim hq'
/-- C(), C without an own __init__ -/
theorem pe_mk0 {C : Addr} {bmB : List Value} {B newId initId : String} {x : Str} (F : ExcBaseFacts B newId initId bmB) (q : PySem.W.excIn X.K C bmB newId = true) (gC : X.mg x = some (.ref C)) (kC : PySem.W.keepIn X.K (.ref C) = true) (hg : Gl X x)
    (hdb : (x == ("__debug__" : Str)) = false := by decide) :
    PE X (.Call (.Name x p) [] [] pos) (fun σ H Q => ∀ a, H a = none → Q (.ref a) (upd H a (ExO (.ref C) a))) := by
  refine ⟨fun pins s σ H Q I h => ?_⟩
  refine wpAny_Call_Name_kw (ld_glob I hg gC ?_ hdb)
  refine PySem.W.callWith_K0 I.kIn kC ?_
  show wpAny _ _ (call (.ref C) []) _ _ _
  obtain ⟨bm, N, nm, qn, bs, hdct, sn, sub, ab, col, dd, k0, k1, k2, k3, k5, mN, hC, hN, hni, T⟩ := exc_obj I.kIn q
  refine wpAny_call_exc_subT F T hC hN hni (fun h' a hm => ?_) (by show 0 ≤ sizeLine; exact Nat.zero_le _)
  have hn : H a = none := I.hok.gone hm.new
  obtain ⟨t, ht, _, _⟩ := hm.there
  exact ⟨.ref a, upd H a (ExO (.ref C) a), I.laidN hm.keeps hm.new hn (exO_ok ht ⟨rfl, rfl⟩ rfl rfl rfl (show 4 < 6 by decide)), rfl, h a hn⟩
end
end DL

set_option maxRecDepth 100000
set_option maxHeartbeats 1000000
/-! DL25: own exceptions as values, in short words. -/
namespace DL
open PySem PySem.Spec PyProof.Rows L2 RZ LamX
variable [CC : ClsCtx] [XC : XcCtx]

theorem XoF.sub {K : PySem.W.Frag} {C : Addr} {n : Str} {l l' : List Str} (h : XoF K C n l) (s : ∀ f ∈ l', f ∈ l) : XoF K C n l' :=
  ⟨h.cl, h.xf, h.ic, h.ca, h.cg, h.ct, h.cm, fun f hf => h.nf f (s f hf)⟩
theorem dpa_rev {K : PySem.W.Frag} {F : Hp} : ∀ {ds : List PyData} {vs : List V}, DpAll K F vs ds → DpAll K F vs.reverse ds.reverse
  | [], _, h => by cases h; exact .nil
  | d :: ds, _, h => by
    cases h with
    | cons h1 h2 =>
      rw [List.reverse_cons, List.reverse_cons]
      exact dpa_app (dpa_rev h2) (.cons h1 .nil)
theorem zip_fst {α β : Type} {l : List α} {r : List β} (h : r.length = l.length) : ((l.zip r).reverse).map (·.1) = l.reverse := by
  rw [List.map_reverse, List.map_fst_zip (by omega)]
theorem zip_snd {α β : Type} {l : List α} {r : List β} (h : r.length = l.length) : ((l.zip r).reverse).map (·.2) = r.reverse := by
  rw [List.map_reverse, List.map_snd_zip (by omega)]
abbrev attrM (f : Str) (m : M PyData) : M PyData := bnd m fun d => lft (attrD f d)
abbrev isiOM (sub : Str → Bool) (m : M PyData) : M PyData := bnd m fun d => lft (isiO sub d)
def mkD (x : Str) (names : List Str) (ds : List PyData) : Option PyData := if ds.length = names.length then some (objD x (names.zip ds).reverse) else none
abbrev mkM (x : Str) (names : List Str) (ma : M (List PyData)) : M PyData := bnd ma fun ds => lft (mkD x names ds)
/-- an exception's class of the top, its instances kept as values -/
structure ExcV (P : Program) (w : World) (K : PySem.W.Frag) (mg : Str → Option Value) (base : Heap) (x : Str) (names : List Str) : Prop where
  t : ExcT P w K mg base CC.cls x names
  xo : ∀ C, CC.cls x = some C → XoF K C x names
section
variable {X : Cx} {cls : Str → Option Addr} {W : WX} {pos pos' p : Pos} {x : Str} {e : Expr} {es : List Expr} {ma : M (List PyData)} {names : List Str}
theorem upd_mk {H : Hp} {a dx : Addr} {o1 o2 u : HO} (ne : dx ≠ a) : upd (upd (upd H a o1) dx u) a o2 = upd (upd H dx u) a o2 := by
  funext b
  by_cases hb : b = a
  · rw [hb, upd_same, upd_same]
  · by_cases hd : b = dx
    · rw [hd, upd_ne ne, upd_same, upd_ne ne, upd_same]
    · rw [upd_ne hb, upd_ne hd, upd_ne hb, upd_ne hb, upd_ne hd]
/-- what making gives -/
theorem made {K : PySem.W.Frag} {F H : Hp} {C a dx : Addr} {vs : List V} {ds : List PyData} (sm : Same F H) (xo : XoF K C x names) (h : DpAll K F vs ds) (hl : ds.length = names.length) (na : H a = none) (nd : H dx = none) (ne : dx ≠ a) :
    ∃ F', Ext F H F' (upd (upd H dx (exd dx (names.zip vs).reverse)) a (exo a C (some dx))) ∧ Dp K F' (.ref a) (objD x (names.zip ds).reverse) := by
  have x1 := Ext.new (o := exd dx (names.zip vs).reverse) sm nd
  have na' : upd H dx (exd dx (names.zip vs).reverse) a = none := by rw [upd_ne (Ne.symm ne)]; exact na
  have x2 := Ext.new (o := exo a C (some dx)) x1.sub na'
  have lv : vs.length = names.length := (dpa_len h).trans hl
  refine ⟨_, x1.trans x2, .exo (fs := (names.zip vs).reverse) (xo.sub fun f hf => ?_) upd_same (by rw [upd_ne ne]; exact upd_same) ?_ ?_⟩
  · rw [zip_fst hl] at hf
    simpa using hf
  · rw [zip_fst hl, zip_fst lv]
  · rw [zip_snd hl, zip_snd lv]
    exact dpa_rev (dpa_mono (x1.trans x2).fz _ h)
theorem ExcV.make (t : ExcV X.prog X.w X.K X.mg X.base x names) (hr : Room 2 X.A) (ha : DA X cls W (e :: es) ma) (hg : Gl X x := by rfl) (hdb : (x == ("__debug__" : Str)) = false := by decide)
    (he : starEach (e :: es) X.env = (false, eval e X.env) :: starEach es X.env := by rfl) (hpl : (backTo pos (starEach es X.env)).any (·.1) = false := by rfl) :
    DE X cls W (.Call (.Name x p) (e :: es) [] pos) (bnd ma fun ds => lft (mkD x names ds)) := by
  obtain ⟨C, fI, fd, ps, hC, hm, T, iC, tI, G, hb⟩ := t.t.ex
  refine pe_imp (pe_mkV T iC tI G hr hb L2.passL hg hm ha hdb he hpl) fun σ H Q h => ?_
  obtain ⟨F, fp, δ, h⟩ := h
  refine Tm.mono (TmA.tm (tm_bnd h)) fun vs H1 ⟨ds, F1, fp1, δ1, rx, s1, _, _, h1⟩ => ?_
  obtain ⟨z, ez, E, q⟩ := tm_lft h1
  unfold mkD at ez
  split at ez
  · rename_i hl
    cases ez
    have few := t.t.few
    refine ⟨by rw [dpa_len rx, hl]; omega, fun a na => ⟨a, vs, rfl, by rw [dpa_len rx, hl], upd_same, fun dx hdx ne => ⟨rfl, ?_⟩⟩⟩
    have nd : H1 dx = none := by rw [upd_ne ne] at hdx; exact hdx
    rw [upd_mk ne]
    obtain ⟨F', xx, r⟩ := made E.sub (t.xo C hC) rx hl na nd ne
    exact q _ _ xx _ r
  · cases ez
/-- a class without fields -/
structure ExcV0 (K : PySem.W.Frag) (mg : Str → Option Value) (x : Str) : Prop where
  ex : ∃ (C : Addr) (bmB : List Value) (B newId initId : String), mg x = some (.ref C) ∧ ExcBaseFacts B newId initId bmB ∧ PySem.W.excIn K C bmB newId = true ∧ PySem.W.keepIn K (.ref C) = true ∧ XoF K C x []
theorem ExcV0.make (t : ExcV0 X.K X.mg x) (hg : Gl X x := by rfl) (hdb : (x == ("__debug__" : Str)) = false := by decide) : DE X cls W (.Call (.Name x p) [] [] pos) (ret (objD x [])) := by
  obtain ⟨C, bmB, B, newId, initId, hm, FB, q, kC, xo⟩ := t.ex
  refine pe_imp (pe_mk0 FB q hm kC hg hdb) fun σ H Q h => ?_
  obtain ⟨F, fp, δ, h⟩ := h
  obtain ⟨E, q⟩ := tm_ret h
  intro a na
  exact q _ _ (Ext.new E.sub na) _ (.ex0 xo upd_same)
/-- a class that is asked for -/
structure ClsT (K : PySem.W.Frag) (mg : Str → Option Value) (sub : Str → Bool) (x : Str) : Prop where
  ex : ∃ D : Addr, mg x = some (.ref D) ∧ ∀ n C, CC.cls n = some C → PySem.W.kitOne K (.ref C) (.ref D) = some (sub n)
theorem ClsT.isi {me : M PyData} {p2 : Pos} {sub : Str → Bool} (t : ClsT X.K X.mg sub x) (hm : X.mg "isinstance" = none) (he : DE X cls W e me) (hg : Gl X "isinstance" := by rfl) (hg2 : Gl X x := by rfl) (hdb : (x == ("__debug__" : Str)) = false := by decide)
    (hs : starEach [e, .Name x p2] X.env = (false, eval e X.env) :: starEach [.Name x p2] X.env := by rfl) (hs2 : starEach [.Name x p2] X.env = (false, eval (.Name x p2) X.env) :: starEach [] X.env := by rfl) (hpl : (backTo pos (starEach [.Name x p2] X.env)).any (·.1) = false := by rfl) :
    DE X cls W (.Call (.Name "isinstance" p) [e, .Name x p2] [] pos) (bnd me fun d => lft (isiO sub d)) := by
  obtain ⟨D, hx, hk⟩ := t.ex
  exact de_isiC sub (.own D) hk hm (pe_glob hg2 hx rfl hdb) he hg hs hs2 hpl
/-- a built-in class that is asked for -/
theorem de_isiB {me : M PyData} {p2 : Pos} {T : String} {sub : Str → Bool} (hk : ∀ n C, CC.cls n = some C → PySem.W.kitOne X.K (.ref C) (.type T) = some (sub n)) (hmx : X.mg x = none) (hv : bootBuiltins x = some (.type T)) (hm : X.mg "isinstance" = none) (he : DE X cls W e me) (hg : Gl X "isinstance" := by rfl) (hg2 : Gl X x := by rfl)
    (hn : x ≠ "__name__" := by decide) (hdb : (x == ("__debug__" : Str)) = false := by decide)
    (hs : starEach [e, .Name x p2] X.env = (false, eval e X.env) :: starEach [.Name x p2] X.env := by rfl) (hs2 : starEach [.Name x p2] X.env = (false, eval (.Name x p2) X.env) :: starEach [] X.env := by rfl) (hpl : (backTo pos (starEach [.Name x p2] X.env)).any (·.1) = false := by rfl) :
    DE X cls W (.Call (.Name "isinstance" p) [e, .Name x p2] [] pos) (bnd me fun d => lft (isiO sub d)) :=
  de_isiC sub (.ty T) hk hm (pe_bltn (v := .ty T) hg2 hmx hv rfl hn hdb) he hg hs hs2 hpl
end
end DL

set_option maxRecDepth 100000
set_option maxHeartbeats 1000000
/-! DL26: an exception that keeps a list which is changed later. -/
namespace DL
open PySem PySem.Spec PyProof.Rows L2 RZ LamX
variable [CC : ClsCtx] [XC : XcCtx]

/-- y = N("s", x); x.append(m) -/
def keepM (i j : Nat) (n f1 f2 : Str) (s : Str) (m : Int) : M Ctl := fun δ => match δ[i]? with
  | some (.ow ds) => if j < δ.length ∧ ds.length < sizeLine then some (.ok .nx ((δ.set i (.sh (.list (ds ++ [.int m])))).set j (.sh (objD n [(f2, .list (ds ++ [.int m])), (f1, .str s)])))) else none
  | _ => none
section
variable {K : PySem.W.Frag} {F H : Hp} {σ : L2.St} {δ : Sl} {fp : List Addr}
theorem ER.adopt {p : Addr} {o : HO} (E : ER K F H σ δ fp) (h : H p = some o) (n : F p = none) (hp : p ∉ fp) : ER K (upd F p o) H σ δ fp :=
  ⟨fun b u e => by
    by_cases hb : b = p
    · subst hb; rw [upd_same] at e; rw [h]; exact e
    · rw [upd_ne hb] at e; exact E.sub b u e,
   E.rep.tr (same_new n) (fun _ _ _ e => e) (fun b hb => by rw [upd_ne fun z => hp (by rw [← z]; exact hb)]; exact (E.rep.there b hb).1), E.nd⟩
end
section
variable {X : Cx} {cls : Str → Option Addr} {W : WX} {n f1 f2 x y : Str} {s : Str} {m : Int} {i j k1 k2 : Nat} {p1 p2 p3 p4 p5 p6 p7 p8 q1 q2 : Pos} {rest : List Stmt} {mr : M Ctl}
theorem dss_keep (i j : Nat) (t : ExcV X.prog X.w X.K X.mg X.base n [f1, f2]) (hr : Room 2 X.A) (hnd : X.N.Nodup) (hrest : DSs X cls W rest mr) (hij : i ≠ j) (hN : X.N[i]? = some x) (hv : Vis X.env.scope x) (hd : (x == ("__debug__" : Str)) = false) (hcd : (x == ("__classdict__" : Str)) = false)
    (hNj : X.N[j]? = some y) (hlj : Loc X.env.scope y) (hf : X.fn y = true ∨ X.env.scope.names.lookup y = some .local) (hg : Gl X n) (hdb : (n == ("__debug__" : Str)) = false) (hp : (p6.endLine == p7.line) = true)
    (he : starEach [.Constant (.str s) k1 p2, .Name x p3] X.env = (false, eval (.Constant (.str s) k1 p2) X.env) :: starEach [.Name x p3] X.env := by rfl)
    (he2 : starEach [.Name x p3] X.env = (false, eval (.Name x p3) X.env) :: starEach [] X.env := by rfl)
    (hpl : (backTo p4 (starEach [.Name x p3] X.env)).any (·.1) = false := by rfl)
    (hsw : swapsWith (.Call (.Name n p1) [.Constant (.str s) k1 p2, .Name x p3] [] p4) (some (.Name y q1)) q2.line X.env = pure false := by rfl)
    (hsw2 : swapsWith (.Call (.Attribute (.Name x p5) "append" p6) [.Constant (.int m) k2 p8] [] p7) none q2.line X.env = pure false := by rfl)
    (hbase : attributeBase (.Name x p5) "append" X.env (eval (.Name x p5) X.env) = eval (.Name x p5) X.env := by rfl)
    (hfew : ((backTo p7 (starEach [.Constant (.int m) k2 p8] X.env)).all (fun x => !x.1) && (backToKw p7 (keywordEach [] X.env)).all (fun x => x.1.isSome) && decide (([.Constant (.int m) k2 p8] : List Expr).length + ([] : List Keyword).length + (if ([] : List Keyword).isEmpty then 0 else 1) < 30)) = true := by rfl)
    (hs : starEach [.Constant (.int m) k2 p8] X.env = (false, eval (.Constant (.int m) k2 p8) X.env) :: starEach [] X.env := by rfl) (hplain : (backTo p7 (starEach [] X.env)).any (·.1) = false := by rfl) :
    DSs X cls W (.Assign [.Name y q1] (.Call (.Name n p1) [.Constant (.str s) k1 p2, .Name x p3] [] p4) q2 :: .Expr (.Call (.Attribute (.Name x p5) "append" p6) [.Constant (.int m) k2 p8] [] p7) q2' :: rest) (seqM (keepM i j n f1 f2 s m) mr) := by
  obtain ⟨Cc, fI, fd, ps, hC, hm, T, iC, tI, G, hb⟩ := t.t.ex
  refine pss_imp (pss_cons (ps_set hnd hNj hlj (pe_mkV T iC tI G hr hb L2.passL hg hm (pa_cons pe_str (pa_cons (pv i hN hv hd hcd) pa_nil he2) he) hdb he hpl) hsw hf)
    (pss_cons (ps_expr (pe_bm PySem.F.plainAttrs_list PySem.F.slot_list_append PySem.F.type_list_append mt_append (pv i hN hv hd hcd) (pa_cons pe_int pa_nil hs) hbase hfew hp hs hplain) (by rfl)) hrest)) fun D σ H h => ?_
  obtain ⟨F, fp, δ, E, r, hmm, hfin⟩ := ts_seq h
  unfold keepM at hmm
  split at hmm
  · rename_i ds hc
    split at hmm
    · rename_i hl
      cases hmm
      obtain ⟨k, vs, hσ, hk, da, _⟩ := E.wr hc
      refine ⟨_, hσ, (by show 2 ≤ 1000; decide), fun a na => ⟨a, [.str s, .ref k], rfl, rfl, upd_same, fun dx hdx ne => ⟨rfl, ?_⟩⟩⟩
      have nd : H dx = none := by rw [upd_ne ne] at hdx; exact hdx
      rw [upd_mk ne]
      have x1 : Ext F H F (upd H dx (exd dx [(f2, .ref k), (f1, .str s)])) := Ext.lost E.sub nd
      have na' : upd H dx (exd dx [(f2, .ref k), (f1, .str s)]) a = none := by rw [upd_ne (Ne.symm ne)]; exact na
      have x2 : Ext F (upd H dx (exd dx [(f2, .ref k), (f1, .str s)])) F (upd (upd H dx (exd dx [(f2, .ref k), (f1, .str s)])) a (exo a Cc (some dx))) := Ext.lost x1.sub na'
      have E2 := E.ext (x1.trans x2)
      obtain ⟨fp', E3, sub3⟩ := E2.put (i := j) (o' := some (.ref a)) (c' := .un) (fi' := []) hl.1 E2.sub (Same.refl _) (fun _ _ _ h => h) (fun b hb => (E2.rep.there b hb).1) .un (by simp) (by simp)
      have sub3' : ∀ b, b ∈ fp' → b ∈ fp := fun b hb => (sub3 b hb).elim id (fun z => by simp at z)
      have hc3 : (δ.set j .un)[i]? = some (.ow ds) := by rw [List.getElem?_set_ne (Ne.symm hij)]; exact hc
      obtain ⟨k', vs', hσ', hk', da', wr'⟩ := E3.wr hc3
      have hσ1 : (σ.set j (some (.ref a)))[i]? = some (some (.ref k)) := by rw [List.getElem?_set_ne (Ne.symm hij)]; exact hσ
      rw [hσ1] at hσ'
      cases hσ'
      obtain ⟨E4, g3⟩ := wr' (vs' ++ [.int m]) (ds ++ [.int m]) (dpa_app da' (.cons (.int m) .nil))
      refine ⟨_, hσ1, .inl ⟨rfl, vs', SqL.of hk'⟩, k, vs', .int m, rfl, rfl, hk', by rw [dpa_len da']; exact hl.2, ?_⟩
      have il : i < (δ.set j .un).length := (List.getElem?_eq_some_iff.mp hc3).1
      obtain ⟨v, F5, fp5, hσ5, g5, E5, r5⟩ := E4.freeze (i := i) (c := .ow (ds ++ [.int m])) (List.getElem?_set_self il) rfl
      rw [hσ1] at hσ5
      cases hσ5
      have ka : k ≠ a := fun z => by rw [z, na] at hk; cases hk
      have kd : k ≠ dx := fun z => by rw [z, nd] at hk; cases hk
      have nofp : ∀ {b}, H b = none → b ∉ fp := fun {b} hn hb => by
        obtain ⟨_, o, e⟩ := E.rep.there b hb
        rw [hn] at e; cases e
      have Fn : ∀ {b}, H b = none → F b = none := fun {b} hn => E.sub.free hn
      have H3a : upd (upd (upd H dx (exd dx [(f2, .ref k), (f1, .str s)])) a (exo a Cc (some dx))) k (.lst (vs' ++ [.int m])) a = some (exo a Cc (some dx)) := by rw [upd_ne (Ne.symm ka), upd_same]
      have H3d : upd (upd (upd H dx (exd dx [(f2, .ref k), (f1, .str s)])) a (exo a Cc (some dx))) k (.lst (vs' ++ [.int m])) dx = some (exd dx [(f2, .ref k), (f1, .str s)]) := by rw [upd_ne (Ne.symm kd), upd_ne ne, upd_same]
      have F5n : ∀ {b u}, H b = none → upd (upd (upd H dx (exd dx [(f2, .ref k), (f1, .str s)])) a (exo a Cc (some dx))) k (.lst (vs' ++ [.int m])) b = some u → F5 b = none := fun {b u} hn hb => by
        cases q : F5 b with
        | none => rfl
        | some w =>
          rcases g5.nw b (Fn hn) (by rw [q]; exact fun z => nomatch z) with z | z
          · rw [hb] at z; cases z
          · exact absurd (sub3' b z) (nofp hn)
      have fp5n : ∀ {b u}, H b = none → upd (upd (upd H dx (exd dx [(f2, .ref k), (f1, .str s)])) a (exo a Cc (some dx))) k (.lst (vs' ++ [.int m])) b = some u → b ∉ fp5 := fun {b u} hn hb z => by
        rcases g5.ow b z with z | z
        · exact nofp hn (sub3' b z)
        · rw [hb] at z; cases z
      have E6 := E5.adopt H3d (F5n nd H3d) (fp5n nd H3d)
      have nFa : upd F5 dx (exd dx [(f2, .ref k), (f1, .str s)]) a = none := by rw [upd_ne (Ne.symm ne)]; exact F5n na H3a
      have E7 := E6.adopt H3a nFa (fp5n na H3a)
      have s56 : Same F5 (upd (upd F5 dx (exd dx [(f2, .ref k), (f1, .str s)])) a (exo a Cc (some dx))) := (same_new (F5n nd H3d)).trans (same_new nFa)
      have rO : Dp X.K (upd (upd F5 dx (exd dx [(f2, .ref k), (f1, .str s)])) a (exo a Cc (some dx))) (.ref a) (objD n [(f2, .list (ds ++ [.int m])), (f1, .str s)]) :=
        .exo (fs := [(f2, .ref k), (f1, .str s)]) ((t.xo Cc hC).sub fun f hf => by simp at hf ⊢; rcases hf with h | h <;> simp [h]) upd_same (by rw [upd_ne ne, upd_same]) rfl (.cons (dp_mono s56 _ r5) (.cons (.str s) .nil))
      obtain ⟨fp8, E8, sub8⟩ := E7.put (i := j) (o' := some (.ref a)) (c' := .sh (objD n [(f2, .list (ds ++ [.int m])), (f1, .str s)])) (fi' := []) (by simp; exact hl.1) E7.sub (Same.refl _) (fun _ _ _ h => h) (fun b hb => (E7.rep.there b hb).1) (.sh rO) (by simp) (by simp)
      have gA : Go fp F H fp5 F5 _ := ((x1.trans x2).go (fp := fp)).trans ((⟨Same.refl _, fun _ _ _ h => h, fun _ h z => absurd h z, fun b hb => .inl (sub3' b hb), fun _ u e => ⟨u, e⟩⟩ : Go fp F _ fp' F _).trans (g3.trans g5))
      refine hfin (σ.set j (some (.ref a))) fp8 _ _ ⟨gA.fz.trans s56, gA.kp, fun b hb hz => ?_, fun b hb => ?_, gA.al⟩ ?_
      · by_cases hba : b = a
        · rw [hba]; exact .inl na
        · by_cases hbd : b = dx
          · rw [hbd]; exact .inl nd
          · rw [upd_ne hba, upd_ne hbd] at hz
            exact gA.nw b hb hz
      · exact gA.ow b ((sub8 b hb).elim id (fun z => by simp at z))
      · have eσ : (σ.set j (some (.ref a))).set j (some (.ref a)) = σ.set j (some (.ref a)) := List.set_set ..
        rw [eσ] at E8
        have eδ : ((((δ.set j .un).set i (.ow (ds ++ [.int m]))).set i (.sh (.list (ds ++ [.int m])))).set j (.sh (objD n [(f2, .list (ds ++ [.int m])), (f1, .str s)]))) = (δ.set i (.sh (.list (ds ++ [.int m])))).set j (.sh (objD n [(f2, .list (ds ++ [.int m])), (f1, .str s)])) := by
          rw [List.set_set, List.set_comm _ _ hij.symm, List.set_set]
        rw [eδ] at E8
        exact E8
    · cases hmm
  · cases hmm
end
end DL

set_option maxRecDepth 100000
set_option maxHeartbeats 1000000
/-! DL27: try with clauses that look at what was caught. -/
namespace DL
open PySem PySem.Spec PyProof.Rows L2 RZ LamX
variable [CC : ClsCtx]

def noXc : C → Bool
  | .xc _ _ => false
  | _ => true
section
variable {K : PySem.W.Frag} {F H : Hp} {σ : L2.St} {δ : Sl} {fp : List Addr} {o : Option V} {c : C}
theorem CRep.xcs {XC XC' : XcCtx} (h : @CRep CC XC K F H o c fp) (nx : noXc c = true) : @CRep CC XC' K F H o c fp := by
  cases h with
  | un => exact .un
  | sh d => exact .sh d
  | ow h n ds => exact .ow h n ds
  | ol h n r => exact .ol h n r
  | pen h n r => exact .pen h n r
  | rw => exact .rw
  | dk h n q ds => exact .dk h n q ds
  | tb h n t r => exact .tb h n t r
  | xc _ _ _ => cases nx
theorem SRep.xcs {XC XC' : XcCtx} {σ : L2.St} {δ : Sl} {fp : List Addr} (h : @SRep CC XC K F H σ δ fp) : δ.all noXc = true → @SRep CC XC' K F H σ δ fp := by
  induction h with
  | nil => exact fun _ => @SRep.nil CC XC' K F H
  | cons c r ih =>
    intro n
    rw [List.all_cons, Bool.and_eq_true] at n
    exact @SRep.cons CC XC' K F H _ _ _ _ _ _ (@CRep.xcs CC K F H _ _ _ XC XC' c n.1) (ih n.2)
theorem ER.xcs {XC XC' : XcCtx} (E : @ER CC XC K F H σ δ fp) (n : δ.all noXc = true) : @ER CC XC' K F H σ δ fp := by
  obtain ⟨s, r, nd⟩ := E
  exact @ER.mk CC XC' K F H σ δ fp s (@SRep.xcs CC K F H XC XC' σ δ fp r n) nd
theorem CRep.noXd [XC : XcCtx] (h : CRep K F H o c fp) {b : Addr} {vfs : List (Str × V)} (hb : b ∈ fp) : H b ≠ some (.xd vfs) := by
  intro e
  cases h with
  | un => simp at hb
  | sh _ => simp at hb
  | ow h n ds => obtain rfl : b = _ := by simpa using hb
                 rw [h] at e; cases e
  | ol h n r =>
    rcases List.mem_cons.mp hb with rfl | hb
    · rw [h] at e; cases e
    · exact ola hb r e
  | pen h n r => obtain rfl : b = _ := by simpa using hb
                 rw [h] at e; cases e
  | rw => simp at hb
  | dk h n q ds => obtain rfl : b = _ := by simpa using hb
                   rw [h] at e; cases e
  | tb h n t r => obtain rfl : b = _ := by simpa using hb
                  rw [h] at e; cases e
  | xc _ _ _ => simp at hb
where
  ola {b : Addr} {vfs : List (Str × V)} : ∀ {bs : List Addr} {dss : List (List PyData)}, b ∈ bs → OlAll K F H bs dss → H b = some (.xd vfs) → False
    | _, _, hb, .nil, _ => by simp at hb
    | _, _, hb, .cons h n ds r, e => by
      rcases List.mem_cons.mp hb with rfl | hb
      · rw [h] at e; cases e
      · exact ola hb r e
theorem SRep.noXd [XC : XcCtx] : ∀ {σ : L2.St} {δ : Sl} {fp : List Addr}, SRep K F H σ δ fp → ∀ {b : Addr} {vfs : List (Str × V)}, b ∈ fp → H b ≠ some (.xd vfs)
  | _, _, _, .nil, _, _, hb => by simp at hb
  | _, _, _, .cons c r, _, _, hb => by
    rcases List.mem_append.mp hb with q | q
    · exact c.noXd q
    · exact r.noXd q
/-- the dict of a caught exception is frozen -/
theorem ER.freezeXd [XC : XcCtx] (E : ER K F H σ δ fp) {d : Addr} {vfs : List (Str × V)} (h : H d = some (.xd vfs)) : Same F (frz F H [d]) ∧ ER K (frz F H [d]) H σ δ fp ∧ frz F H [d] d = some (.xd vfs) ∧ ∀ b, F b = none → frz F H [d] b ≠ none → b = d := by
  have s1 : Same F (frz F H [d]) := fun b u e => by
    by_cases hb : b ∈ [d]
    · rw [frz_in hb]; exact E.sub b u e
    · rw [frz_out hb]; exact e
  have s2 : Same (frz F H [d]) H := fun b u e => by
    by_cases hb : b ∈ [d]
    · rw [frz_in hb] at e; exact e
    · rw [frz_out hb] at e; exact E.sub b u e
  refine ⟨s1, ⟨s2, E.rep.tr s1 (fun _ _ _ e => e) (fun b hb => ?_), E.nd⟩, (frz_in (by simp)).trans h, fun b e n => ?_⟩
  · rw [frz_out fun z => ?_]
    · exact (E.rep.there b hb).1
    · obtain rfl : b = d := by simpa using z
      exact E.rep.noXd hb h
  · by_cases hb : b ∈ [d]
    · simpa using hb
    · rw [frz_out hb] at n; exact absurd e n
end

/-! ### try -/
def handleM : List ((Str → Bool) × Nat × M Ctl) → Str → List (Str × PyData) → M Ctl
  | [], n, fs => fun δ => some (.ex n fs δ)
  | (sub, i, ms) :: r, n, fs => fun δ => if sub n = true then (if i < δ.length ∧ δ.all noXc = true then (match ms (δ.set i (.xc n fs)) with
      | some (.ok c δ2) => if (δ2.set i .un).all noXc = true ∧ i < δ2.length then some (.ok c (δ2.set i .un)) else none
      | _ => none) else none) else handleM r n fs δ
def tryM (mb : M Ctl) (hs : List ((Str → Bool) × Nat × M Ctl)) : M Ctl := fun δ => match mb δ with
  | some (.ex n fs δ') => handleM hs n fs δ'
  | r => r
/-- a clause -/
inductive Hdls (X : Cx) (cls : Str → Option Addr) : List ExceptHandler → List ((Str → Bool) × Nat × M Ctl) → Prop
  | nil : Hdls X cls [] []
  | cons {xn n : Str} {i : Nat} {cv : Value} {sub : Str → Bool} {ms : M Ctl} {st0 : Stmt} {sts : List Stmt} {np hp : Pos} {rest : List ExceptHandler} {l : List ((Str → Bool) × Nat × M Ctl)} (hi : X.N[i]? = some n) (hk : X.env.kindOf n = some .local) (hc : Names X xn cv)
      (hx : ∀ n C, CC.cls n = some C → PySem.W.exmOne X.K (.ref C) cv = some (sub n))
      (hs : ∀ (XC : XcCtx) (eo : Obj) (pl : List (Addr × Obj)), Zc (.ref XC.C) (some XC.d) eo → (∃ fs, eo.data = .fields fs) → DSs (X.suite XC.a ((XC.a, eo) :: pl)) cls (fun _ _ _ _ => False) (st0 :: sts) ms) (r : Hdls X cls rest l) :
      Hdls X cls (.ExceptHandler (some (.Name xn np)) (some n) (st0 :: sts) hp :: rest) ((sub, i, ms) :: l)
def tsuOf (K : PySem.W.Frag) (cls : Str → Option Addr) (ms : M Ctl) : Addr → Value → Option Addr → TS := fun a cl dd D σ H => ∃ C d, cl = .ref C ∧ dd = some d ∧ @tS CC ⟨a, d, C⟩ K cls (fun _ _ _ _ => False) ms D σ H
theorem Hdls.clsAs {X : Cx} {cls : Str → Option Addr} {hs : List ExceptHandler} {l : List ((Str → Bool) × Nat × M Ctl)} (h : Hdls X cls hs l) :
    ∃ l2, ClsAs X hs l2 ∧ ∀ [XC : XcCtx] {Wo : WX} {D : Ends} {n : Str} {fs : List (Str × PyData)} {δ : Sl} {r : Rs Ctl} {fp : List Addr} {F H : Hp}, handleM l n fs δ = some r → FinS X.K CC.cls Wo fp F H D r →
      ∀ Cx dd σ' fp' F' H', CC.cls n = some Cx → Go fp F H fp' F' H' → ER X.K F' H' σ' δ fp' → Xr X.K H F' H' dd fs → wAsM X.K Wo D l2 (.ref Cx) (some dd) σ' H' := by
  induction h with
  | nil => exact ⟨[], .done, fun {XC Wo D n fs δ r fp F H} hm hf Cx dd σ' fp' F' H' hC g E x => by
      cases hm
      exact hf Cx dd σ' fp' F' H' hC g E x⟩
  | @cons xn n0 i cv sub ms st0 sts np hp rest l hi hk hc hx hs r ih =>
    obtain ⟨l2, h2, ih⟩ := ih
    refine ⟨(cv, i, tsuOf X.K cls ms) :: l2, .more hi hk hc (fun ea eo cl dd pl hz hf => ?_) h2, fun {XC Wo D n fs δ r fp F H} hm hf Cx dd σ' fp' F' H' hC g E x => ?_⟩
    · refine ⟨fun pins s σ H D I q => ?_⟩
      obtain ⟨C, d, rfl, rfl, q⟩ := q
      exact (hs ⟨ea, d, C⟩ eo pl hz hf).run pins s σ H D I q
    · refine ⟨sub n, hx n Cx hC, fun yes ea na => ?_, fun no => ?_⟩
      · unfold handleM at hm
        rw [if_pos yes] at hm
        split at hm
        · rename_i hl
          split at hm
          · rename_i c δ2 e
            split at hm
            · rename_i hl2
              cases hm
              refine ⟨Cx, dd, rfl, rfl, ?_⟩
              obtain ⟨hnew, vfs, hd, hlook⟩ := x
              let XC' : XcCtx := ⟨ea, dd, Cx⟩
              have E1 : @ER CC XC' X.K F' H' σ' δ fp' := E.xcs hl.2
              obtain ⟨s1, E2, hfd, only⟩ := @ER.freezeXd CC X.K F' H' σ' δ fp' XC' E1 dd vfs hd
              obtain ⟨fp2, E3, sub3⟩ := @ER.put CC XC' X.K _ _ _ _ σ' δ fp' i (some (.ref ea)) (.xc n fs) [] E2 hl.1 E2.sub (Same.refl _) (fun _ _ _ h => h) (fun b hb => (E2.rep.there b hb).1)
                (@CRep.xc CC XC' X.K _ _ n fs vfs hC hfd fun f d q => let ⟨v, h1, h2⟩ := hlook f d q; ⟨v, h1, dp_mono s1 _ h2⟩) (by simp) (by simp)
              have sub3' : ∀ b, b ∈ fp2 → b ∈ fp' := fun b hb => (sub3 b hb).elim id (fun z => by simp at z)
              refine ⟨_, fp2, _, E3, _, e, fun σ2 fp3 F3 H3 g3 E4 => ?_⟩
              obtain ⟨fp5, E5, sub5⟩ := @ER.put CC XC' X.K _ _ _ _ σ2 δ2 fp3 i none .un [] E4 hl2.2 E4.sub (Same.refl _) (fun _ _ _ h => h) (fun b hb => (E4.rep.there b hb).1) (@CRep.un CC XC' X.K F3 H3 none) (by simp) (by simp)
              have E6 : @ER CC XC X.K F3 H3 (σ2.set i none) (δ2.set i .un) fp5 := ER.xcs (XC := XC') (XC' := XC) E5 hl2.1
              have gg : Go fp F H fp5 F3 H3 := by
                refine ⟨g.fz.trans (s1.trans g3.fz), fun b o hb ho => ?_, fun b e0 n0 => ?_, fun b hb => ?_, fun b o ho => ?_⟩
                · refine g3.kp b o (fun z => ?_) (g.kp b o hb ho)
                  rcases g.ow b (sub3' b z) with q | q
                  · exact hb q
                  · rw [ho] at q; cases q
                · by_cases q0 : F' b = none
                  · by_cases q1 : frz F' H' [dd] b = none
                    · rcases g3.nw b q1 n0 with z | z
                      · cases q2 : H b with
                        | none => exact .inl rfl
                        | some o =>
                          by_cases hb : b ∈ fp
                          · exact .inr hb
                          · rw [g.kp b o hb q2] at z; cases z
                      · rcases g.ow b (sub3' b z) with q | q
                        · exact .inr q
                        · exact .inl q
                    · have hbd := only b q0 q1
                      exact .inl (by rw [hbd]; exact hnew)
                  · exact g.nw b e0 q0
                · rcases sub5 b hb with q | q
                  · rcases g3.ow b q with q | q
                    · exact g.ow b (sub3' b q)
                    · right
                      cases q2 : H b with
                      | none => rfl
                      | some o =>
                        obtain ⟨o', q3⟩ := g.al b o q2
                        rw [q3] at q; cases q
                  · simp at q
                · obtain ⟨o', q⟩ := g.al b o ho
                  exact g3.al b o' q
              have q := hf (σ2.set i none) fp5 F3 H3 gg E6
              cases c with
              | nx => exact q
              | bk => exact q
              | ct => exact q
              | rt d => exact q
            · cases hm
          · cases hm
        · cases hm
      · unfold handleM at hm
        rw [if_neg (by rw [no]; decide)] at hm
        exact ih hm hf Cx dd σ' fp' F' H' hC g E x
section
variable [XC : XcCtx] {X : Cx} {cls : Str → Option Addr} {W : WX} {body : List Stmt} {hd0 : ExceptHandler} {hds : List ExceptHandler} {l : List ((Str → Bool) × Nat × M Ctl)} {pos : Pos} {mb : M Ctl}
/-- try, with clauses 'except C as n' -/
theorem ds_try (hs : X.stack = X.env :: X.outer) (hf : X.env.frame = some X.env.locals) (hN : X.N.Nodup) (tk : Takes X W)
    (hb : ∀ (W : WX) (pl : List (Addr × Obj)) (xe : Value → Shared → Prop), Takes (X.tr pl xe) W → PassesOwn (model X.prog X.w) X.A X.env xe → DSs (X.tr pl xe) CC.cls W body mb) (hh : Hdls X CC.cls (hd0 :: hds) l) :
    DS X CC.cls W (.Try body (hd0 :: hds) [] [] pos) (tryM mb l) := by
  obtain ⟨l2, h2, fin⟩ := hh.clsAs
  refine ps_imp (ps_tryAs (tb := fun W => tS X.K CC.cls W mb) hs hf hN tk hb h2) fun D σ H h => ?_
  obtain ⟨F, fp, δ, E, r, hm, hf⟩ := h
  unfold tryM at hm
  cases e : mb δ with
  | none => rw [e] at hm; cases hm
  | some r1 =>
    rw [e] at hm
    refine ⟨F, fp, δ, E, r1, e, ?_⟩
    cases r1 with
    | ok c δ' => cases hm; exact hf
    | ex n fs δ' => exact fun Cx dd σ' fp' F' H' hC g E' x => fin hm hf Cx dd σ' fp' F' H' hC g E' x
end
/-! ### what a clause looks at -/
def xfM (fl : Str → List Str) (i : Nat) (f : Str) : M PyData := fun δ => match δ[i]? with
  | some (.xc n fs) => if f ∈ fl n then (match fs.lookup f with
      | some d => some (.ok d δ)
      | none => none) else none
  | _ => none
def xiM (sub : Str → Bool) (i : Nat) : M PyData := fun δ => match δ[i]? with
  | some (.xc n fs) => some (.ok (.bool (sub n)) δ)
  | _ => none
section
variable [XC : XcCtx] {K : PySem.W.Frag} {F H : Hp} {σ : L2.St} {δ : Sl} {fp : List Addr} {i : Nat} {n : Str} {fs : List (Str × PyData)}
theorem ER.xc (E : ER K F H σ δ fp) (h : δ[i]? = some (.xc n fs)) : σ[i]? = some (some (.ref XC.a)) ∧ CC.cls n = some XC.C ∧ ∃ vfs, F XC.d = some (.xd vfs) ∧ ∀ f d, fs.lookup f = some d → ∃ v, vfs.lookup f = some v ∧ Dp K F v d := by
  obtain ⟨o, fl, fi, fr, h1, h2, h3, h4⟩ := E.rep.at h
  cases h2 with
  | xc hc hd hl => exact ⟨h1, hc, _, hd, hl⟩
end
section
variable [XC : XcCtx] {X : Cx} {cls : Str → Option Addr} {W : WX} {p p2 p3 pos : Pos} {f x tn : Str} {oe : Obj} {pn : List (Addr × Obj)} {i : Nat}
/-- n.f -/
theorem de_xf (fl : Str → List Str) (i : Nat) (hX : ∀ n C, CC.cls n = some C → XoF X.K C n (fl n)) (hz : Zc (.ref XC.C) (some XC.d) oe) (hf : ∃ vs, oe.data = .fields vs) (hN : X.N[i]? = some x := by rfl) (hv : Vis X.env.scope x := by first | exact Or.inl rfl | exact Or.inr (Or.inl rfl) | exact Or.inr (Or.inr rfl)) (hd : (x == ("__debug__" : Str)) = false := by decide) (hcd : (x == ("__classdict__" : Str)) = false := by decide)
    (hb : attributeBase (.Name x p) f X.env (eval (.Name x p) X.env) = eval (.Name x p) X.env := by rfl) :
    DE (X.suite XC.a ((XC.a, oe) :: pn)) cls W (.Attribute (.Name x p) f pos) (xfM fl i f) := by
  refine ⟨fun pins s σ H Q I h => ?_⟩
  obtain ⟨F, fp, δ, E, r, hm, hfin⟩ := h
  unfold xfM at hm
  split at hm
  · rename_i n fs hc
    split at hm
    · rename_i hfl
      split at hm
      · rename_i d hl
        cases hm
        obtain ⟨hσ, hC, vfs, hd0, look⟩ := E.xc hc
        obtain ⟨v, hv1, rv⟩ := look f d hl
        have xo := hX n XC.C hC
        exact (pe_xf (X := X) (a := XC.a) (C := XC.C) (oe := oe) (pn := pn) (pos := pos) (n := f) xo.xf (xo.nf f hfl) hz hf (pv (X := X.suite XC.a ((XC.a, oe) :: pn)) (pos := p) i hN hv hd hcd) hb).run pins s σ H Q I
          ⟨_, hσ, rfl, rfl, XC.d, vfs, v, rfl, E.sub _ _ hd0, hv1, hfin fp F H (Go.refl _ _ _) E v rv⟩
      · cases hm
    · cases hm
  · cases hm
/-- isinstance(n, C) -/
theorem pe_xi {ec : Expr} {cv : V} {cu : Value} {sub : Str → Bool} (i : Nat) (k : ClsV cv cu) (hS : ∀ n C, CC.cls n = some C → PySem.W.kitOne X.K (.ref C) cu = some (sub n)) (hX : ∀ n C, CC.cls n = some C → XoF X.K C n []) (hz : Zc (.ref XC.C) (some XC.d) oe) (hf : ∃ vs, oe.data = .fields vs)
    (hm : X.mg "isinstance" = none) (hec : PE (X.suite XC.a ((XC.a, oe) :: pn)) ec (tC cv)) (hg : Gl X "isinstance" := by rfl) (hN : X.N[i]? = some x := by rfl) (hv : Vis X.env.scope x := by first | exact Or.inl rfl | exact Or.inr (Or.inl rfl) | exact Or.inr (Or.inr rfl)) (hd : (x == ("__debug__" : Str)) = false := by decide) (hcd : (x == ("__classdict__" : Str)) = false := by decide)
    (hs : starEach [.Name x p2, ec] X.env = (false, eval (.Name x p2) X.env) :: starEach [ec] X.env := by rfl) (hs2 : starEach [ec] X.env = (false, eval ec X.env) :: starEach [] X.env := by rfl) (hpl : (backTo pos (starEach [ec] X.env)).any (·.1) = false := by rfl) :
    DE (X.suite XC.a ((XC.a, oe) :: pn)) cls W (.Call (.Name "isinstance" p) [.Name x p2, ec] [] pos) (xiM sub i) := by
  have call : CallR (X.suite XC.a ((XC.a, oe) :: pn)) (.builtin "isinstance") (fun xs H Q => ∃ n : Str, xs = [.ref XC.a, cv] ∧ CC.cls n = some XC.C ∧ (∃ vfs, H XC.d = some (.xd vfs)) ∧ Q (.bl (sub n)) H) := by
    intro pins s σ H xs us Q I r h
    obtain ⟨n, rfl, hC, ⟨vfs, hd0⟩, q⟩ := h
    obtain ⟨u1, u2, rfl, r1, r2⟩ := vals2 r
    have e2 := k.eq r2
    subst e2
    cases (show u1 = Value.ref XC.a from r1)
    obtain ⟨ha, _⟩ := I.pin (XC.a, oe) (List.mem_append_left _ List.mem_cons_self)
    obtain ⟨vs, hdt⟩ := hf
    have hx : ObjOk X.prog X.w H s.heap XC.d (.xd vfs) := I.hok XC.d _ hd0
    obtain ⟨mA, hns, hr⟩ := hx
    obtain ⟨od, ho, hl⟩ := lookIn_ns hns
    have J : PySem.W.InstAt s.heap XC.a oe XC.C (some od) := ⟨ha, hz.1, by unfold PySem.W.notCls; rw [hdt] <;> rfl, by rw [hz.2]; exact ho⟩
    have ic := hX n XC.C hC
    exact PySem.W.kia_one (PySem.W.kitx_exc (show (PySem.W.clsIn X.K XC.C).isSome = true from ic.ic) ic.xf.ga ic.xf.gg ic.xf.exC ic.ca ic.cg ic.ct ic.cm) I.kIn J (hS n XC.C hC) (fun z => nomatch z) fun tk => ⟨.bl (sub n), H, I.tok tk, rfl, q⟩
  refine pe_imp (pe_callB (X := X.suite XC.a ((XC.a, oe) :: pn)) call hg hm boot_isinstance (pa_cons (pv (X := X.suite XC.a ((XC.a, oe) :: pn)) (pos := p2) i hN hv hd hcd) (pa_cons hec pa_nil hs2) hs) (he := hs) (hpl := hpl)) fun σ H Q h => ?_
  obtain ⟨F, fp, δ, E, r, hm, hfin⟩ := h
  unfold xiM at hm
  split at hm
  · rename_i n fs hc
    cases hm
    obtain ⟨hσ, hC, vfs, hd0, look⟩ := E.xc hc
    exact ⟨_, hσ, n, rfl, hC, ⟨vfs, E.sub _ _ hd0⟩, hfin fp F H (Go.refl _ _ _) E _ (.bl _)⟩
  · cases hm
end
end DL

set_option maxRecDepth 100000
set_option maxHeartbeats 2000000
/-! k01: the walks, printed. -/
namespace K01
open PySem PySem.Spec PyProof.Rows L2 RZ DL
variable [CC : DL.ClsCtx] [XC : DL.XcCtx]
def top (i : Nat) : Stmt := PySem.Challenge.pw_bothanswer_k01_errors.main.body.getD i (.Pass ⟨0, 0, 0, 0⟩)
/-- which class is below which -/
def subOf (x n : Str) : Bool := x == n || (x == "HouseError" || x == "ValueError")
theorem bo_ValueError : bootBuiltins "ValueError" = some (.type "ValueError") := by decide +kernel
abbrev E_BadText : List Str := ["line", "word"]
abbrev E_Misread : List Str := ["line", "column"]
abbrev E_Misplaced : List Str := ["line", "column", "why", "name"]
abbrev E_BadName : List Str := ["name"]
abbrev E_BadNumber : List Str := ["what", "number"]
abbrev E_BadRow : List Str := ["what", "row"]
abbrev E_NoName : List Str := ["name"]
abbrev E_TakenName : List Str := ["name"]
abbrev E_Unlike : List Str := ["what"]
abbrev E_NotThere : List Str := ["what"]
abbrev E_TooMany : List Str := ["what", "many", "limit"]
abbrev E_NotKept : List Str := ["promise", "witness"]
/-! ### _law_draw -/
abbrev st__law_draw : Stmt := top 18
abbrev N__law_draw : List Str := ["pen", "many", "cell", "digit", "blend"]
theorem sc__law_draw : FnScope N__law_draw ["pen", "many"] (defScope st__law_draw) := ⟨rfl, rfl, rfl, by decide +kernel, rfl, by decide +kernel, by decide +kernel⟩
def m__law_draw : M Ctl := (seqM (bnd (opM addD (penGetM 0 "count") (ret (.int 1))) (penPutM 0 "count"))
  (seqM (ifM (andM (tsM eqD (penGetM 0 "digits") (ret (.int 0))) (tsM ltD (penGetM 0 "at") (bltM (only1 lenD) (consM (penGetM 0 "cells") (ret []))))) (seqM (setM 2 (opM ixD (penGetM 0 "cells") (penGetM 0 "at")))
  (seqM (bnd (opM addD (penGetM 0 "at") (ret (.int 1))) (penPutM 0 "at"))
  (ifM (tsM geD (varM 2) (opM powD (ret (.int 10)) (ret (.int 18)))) (bnd (opM subD (varM 2) (opM powD (ret (.int 10)) (ret (.int 18)))) (penPutM 0 "digits")) (bnd (opM modD (bltM (only1 intOfD) (consM (opM addD (opM mulD (penGetM 0 "fold") (ret (.int 70181))) (varM 2)) (ret []))) (ret (.int 2147482801))) (penPutM 0 "fold"))))) (ret .nx))
  (seqM (ifM (tsM gtD (penGetM 0 "digits") (ret (.int 0))) (seqM (setM 3 (opM modD (bltM (only1 intOfD) (consM (penGetM 0 "digits") (ret []))) (varM 1)))
  (seqM (bnd (opM floordivD (penGetM 0 "digits") (varM 1)) (penPutM 0 "digits"))
  (retM (varM 3)))) (ret .nx))
  (seqM (setM 4 (opM addD (opM addD (penGetM 0 "fold") (opM mulD (penGetM 0 "count") (ret (.int 7933)))) (ret (.int 103))))
  (retM (opM modD (opM floordivD (bltM (only1 intOfD) (consM (opM modD (opM powD (varM 4) (ret (.int 17))) (ret (.int 2305843009213693951))) (ret []))) (ret (.int 128))) (varM 1)))))))
theorem w__law_draw {P : Program} {w : World} {K : PySem.W.Frag} {mg : Str → Option Value} {base : Heap} {cls : Str → Option Addr} (n_len : mg "len" = none) (n_int : mg "int" = none) 
    {f : Addr} {cdv : Value} {A : Around} {outer : List Env} {s : Shared} {H : Hp} {E : XK} (hr : Room 0 (A.deeper (envOfC "_law_draw" (defScope st__law_draw) s.heap.objs.size f cdv))) :
    DSs (bodyCx P w K mg base N__law_draw "_law_draw" st__law_draw f cdv A outer s H E) cls (fun c d _ H => E c d H) (defBody st__law_draw) (m__law_draw) :=
  (dss_cons (ds_penPut 0 (L2.hu_of hr) (de_op od_add (de_penGet 0 (L2.hu_of hr)) de_int))
  (dss_cons (ds_if (PW.pt (dw_and (dt_cmp (od_eq hr.units) (de_penGet 0 (L2.hu_of hr)) de_int (by rfl)) (dw_and1 (dt_cmp od_lt (de_penGet 0 (L2.hu_of hr)) (de_callB cd_len n_len bo_len (by exact (da_cons (de_penGet 0 (L2.hu_of hr)) da_nil))) (by rfl))))) (dss_cons (ds_set 2 sc__law_draw.nd (de_ix (de_penGet 0 (L2.hu_of hr)) (de_penGet 0 (L2.hu_of hr))))
  (dss_cons (ds_penPut 0 (L2.hu_of hr) (de_op od_add (de_penGet 0 (L2.hu_of hr)) de_int))
  (dss_one (ds_if (dt_cmp od_ge (de_var 2) (de_op od_pow de_int de_int) (by rfl)) (dss_one (ds_penPut 0 (L2.hu_of hr) (de_op od_sub (de_var 2) (de_op od_pow de_int de_int)))) (dss_one (ds_penPut 0 (L2.hu_of hr) (de_op od_mod (de_callTy cd_int n_int bo_int (by exact (da_cons (de_op od_add (de_op od_mul (de_penGet 0 (L2.hu_of hr)) de_int) (de_var 2)) da_nil))) de_int))))))) dss_nil)
  (dss_cons (ds_if (dt_cmp od_gt (de_penGet 0 (L2.hu_of hr)) de_int (by rfl)) (dss_cons (ds_set 3 sc__law_draw.nd (de_op od_mod (de_callTy cd_int n_int bo_int (by exact (da_cons (de_penGet 0 (L2.hu_of hr)) da_nil))) (de_var 1)))
  (dss_cons (ds_penPut 0 (L2.hu_of hr) (de_op od_floordiv (de_penGet 0 (L2.hu_of hr)) (de_var 1)))
  (dss_one (ds_ret (de_var 3))))) dss_nil)
  (dss_cons (ds_set 4 sc__law_draw.nd (de_op od_add (de_op od_add (de_penGet 0 (L2.hu_of hr)) (de_op od_mul (de_penGet 0 (L2.hu_of hr)) de_int)) de_int))
  (dss_one (ds_ret (de_op od_mod (de_op od_floordiv (de_callTy cd_int n_int bo_int (by exact (da_cons (de_op od_mod (de_op od_pow (de_var 4) de_int) de_int) da_nil))) de_int) (de_var 1))))))))
def F__law_draw := fnBP 5 1 m__law_draw

/-! ### _law_pick -/
abbrev st__law_pick : Stmt := top 19
abbrev N__law_pick : List Str := ["pen", "some"]
theorem sc__law_pick : FnScope N__law_pick ["pen", "some"] (defScope st__law_pick) := ⟨rfl, rfl, rfl, by decide +kernel, rfl, by decide +kernel, by decide +kernel⟩
def m__law_pick : M Ctl := (retM (opM ixD (varM 1) (callPM 0 1 F__law_draw (consM (borM 1 lenD) (ret [])))))
theorem w__law_pick {P : Program} {w : World} {K : PySem.W.Frag} {mg : Str → Option Value} {base : Heap} {cls : Str → Option Addr} (n_len : mg "len" = none) (c__law_draw : Cal P w K mg base "_law_draw" 1 (spP K 1 F__law_draw)) 
    {f : Addr} {cdv : Value} {A : Around} {outer : List Env} {s : Shared} {H : Hp} {E : XK} (hr : Room 1 (A.deeper (envOfC "_law_pick" (defScope st__law_pick) s.heap.objs.size f cdv))) :
    DSs (bodyCx P w K mg base N__law_pick "_law_pick" st__law_pick f cdv A outer s H E) cls (fun c d _ H => E c d H) (defBody st__law_pick) (m__law_pick) :=
  (dss_one (ds_ret (de_ix (de_var 1) (de_callPC 0 c__law_draw (hr.mono (by decide)) (L2.takes_of rfl rfl rfl rfl) (by exact (da_cons (de_lenV 1 n_len) da_nil))))))
def F__law_pick := fnBP 2 1 m__law_pick

/-! ### _law_value -/
abbrev st__law_value : Stmt := top 20
abbrev N__law_value : List Str := ["pen"]
theorem sc__law_value : FnScope N__law_value ["pen"] (defScope st__law_value) := ⟨rfl, rfl, rfl, by decide +kernel, rfl, by decide +kernel, by decide +kernel⟩
def m__law_value : M Ctl := (retM (callPM 0 1 F__law_pick (consM (lstM (consM (ret (.str "")) (consM (ret (.str "a")) (consM (ret (.int 0)) (consM (negM (ret (.int 1))) (consM (ret (.bool true)) (consM (ret .none) (consM (tupM (ret [])) (consM (tupM (consM (ret (.str "a")) (consM (ret (.int 1)) (ret [])))) (consM (lstM (consM (ret (.int 1)) (consM (ret (.str "b")) (ret [])))) (consM (lstM (ret [])) (consM (opM powD (ret (.int 10)) (ret (.int 40))) (consM (tupM (consM (tupM (consM (ret (.str "x")) (consM (ret (.int 2)) (ret [])))) (consM (ret .none) (ret [])))) (ret [])))))))))))))) (ret []))))
theorem w__law_value {P : Program} {w : World} {K : PySem.W.Frag} {mg : Str → Option Value} {base : Heap} {cls : Str → Option Addr} (c__law_pick : Cal P w K mg base "_law_pick" 2 (spP K 1 F__law_pick)) 
    {f : Addr} {cdv : Value} {A : Around} {outer : List Env} {s : Shared} {H : Hp} {E : XK} (hr : Room 2 (A.deeper (envOfC "_law_value" (defScope st__law_value) s.heap.objs.size f cdv))) :
    DSs (bodyCx P w K mg base N__law_value "_law_value" st__law_value f cdv A outer s H E) cls (fun c d _ H => E c d H) (defBody st__law_value) (m__law_value) :=
  (dss_one (ds_ret (de_callPC 0 c__law_pick (hr.mono (by decide)) (L2.takes_of rfl rfl rfl rfl) (by exact (da_cons (de_lst (by exact (da_cons de_str (da_cons de_str (da_cons de_int (da_cons (de_neg de_int) (da_cons de_bl (da_cons de_non (da_cons (de_tup (by exact da_nil)) (da_cons (de_tup (by exact (da_cons de_str (da_cons de_int da_nil)))) (da_cons (de_lst (by exact (da_cons de_int (da_cons de_str da_nil)))) (da_cons (de_lst (by exact da_nil)) (da_cons (de_op od_pow de_int de_int) (da_cons (de_tup (by exact (da_cons (de_tup (by exact (da_cons de_str (da_cons de_int da_nil)))) (da_cons de_non da_nil)))) da_nil)))))))))))))) da_nil)))))
def F__law_value := fnBP 1 0 m__law_value

/-! ### _law_fields -/
abbrev st__law_fields : Stmt := top 21
abbrev N__law_fields : List Str := ["one", "names", "found", "name"]
theorem sc__law_fields : FnScope N__law_fields ["one", "names"] (defScope st__law_fields) := ⟨rfl, rfl, rfl, by decide +kernel, rfl, by decide +kernel, by decide +kernel⟩
def m__law_fields : M Ctl := (seqM (bnd (bnd (ret []) owM) (putC 2))
  (seqM (forM (itM (varM 1)) (.nm 3) (ifM (tsM eqD (varM 3) (ret (.str "line"))) (appM 2 (attrM "line" (varM 0))) (ifM (tsM eqD (varM 3) (ret (.str "word"))) (appM 2 (attrM "word" (varM 0))) (ifM (tsM eqD (varM 3) (ret (.str "column"))) (appM 2 (attrM "column" (varM 0))) (ifM (tsM eqD (varM 3) (ret (.str "why"))) (appM 2 (attrM "why" (varM 0))) (ifM (tsM eqD (varM 3) (ret (.str "name"))) (appM 2 (attrM "name" (varM 0))) (ifM (tsM eqD (varM 3) (ret (.str "what"))) (appM 2 (attrM "what" (varM 0))) (ifM (tsM eqD (varM 3) (ret (.str "number"))) (appM 2 (attrM "number" (varM 0))) (ifM (tsM eqD (varM 3) (ret (.str "row"))) (appM 2 (attrM "row" (varM 0))) (ifM (tsM eqD (varM 3) (ret (.str "many"))) (appM 2 (attrM "many" (varM 0))) (ifM (tsM eqD (varM 3) (ret (.str "limit"))) (appM 2 (attrM "limit" (varM 0))) (ifM (tsM eqD (varM 3) (ret (.str "promise"))) (appM 2 (attrM "promise" (varM 0))) (appM 2 (attrM "witness" (varM 0)))))))))))))))
  (retM (varM 2))))
theorem w__law_fields {P : Program} {w : World} {K : PySem.W.Frag} {mg : Str → Option Value} {base : Heap} {cls : Str → Option Addr}  
    {f : Addr} {cdv : Value} {A : Around} {outer : List Env} {s : Shared} {H : Hp} {E : XK} (hr : Room 0 (A.deeper (envOfC "_law_fields" (defScope st__law_fields) s.heap.objs.size f cdv))) :
    DSs (bodyCx P w K mg base N__law_fields "_law_fields" st__law_fields f cdv A outer s H E) cls (fun c d _ H => E c d H) (defBody st__law_fields) (m__law_fields) :=
  (dss_cons (ds_setN 2 sc__law_fields.nd (dn_lst (by exact da_nil)))
  (dss_cons (ds_for (passes_of rfl) rfl (.nm 3) (di_seq (de_var 1)) (pg_name sc__law_fields.nd rfl (by first | exact .inl rfl | exact .inr rfl)) (dss_one (ds_if (dt_cmp (od_eq hr.units) (de_var 3) de_str (by rfl)) (dss_one (ds_append 2 (de_attr (de_var 0)))) (dss_one (ds_if (dt_cmp (od_eq hr.units) (de_var 3) de_str (by rfl)) (dss_one (ds_append 2 (de_attr (de_var 0)))) (dss_one (ds_if (dt_cmp (od_eq hr.units) (de_var 3) de_str (by rfl)) (dss_one (ds_append 2 (de_attr (de_var 0)))) (dss_one (ds_if (dt_cmp (od_eq hr.units) (de_var 3) de_str (by rfl)) (dss_one (ds_append 2 (de_attr (de_var 0)))) (dss_one (ds_if (dt_cmp (od_eq hr.units) (de_var 3) de_str (by rfl)) (dss_one (ds_append 2 (de_attr (de_var 0)))) (dss_one (ds_if (dt_cmp (od_eq hr.units) (de_var 3) de_str (by rfl)) (dss_one (ds_append 2 (de_attr (de_var 0)))) (dss_one (ds_if (dt_cmp (od_eq hr.units) (de_var 3) de_str (by rfl)) (dss_one (ds_append 2 (de_attr (de_var 0)))) (dss_one (ds_if (dt_cmp (od_eq hr.units) (de_var 3) de_str (by rfl)) (dss_one (ds_append 2 (de_attr (de_var 0)))) (dss_one (ds_if (dt_cmp (od_eq hr.units) (de_var 3) de_str (by rfl)) (dss_one (ds_append 2 (de_attr (de_var 0)))) (dss_one (ds_if (dt_cmp (od_eq hr.units) (de_var 3) de_str (by rfl)) (dss_one (ds_append 2 (de_attr (de_var 0)))) (dss_one (ds_if (dt_cmp (od_eq hr.units) (de_var 3) de_str (by rfl)) (dss_one (ds_append 2 (de_attr (de_var 0)))) (dss_one (ds_append 2 (de_attr (de_var 0)))))))))))))))))))))))))))
  (dss_one (ds_ret (de_var 2)))))
def F__law_fields := fnB 4 2 m__law_fields

/-! ### _law_made_errors -/
abbrev st__law_made_errors : Stmt := top 22
abbrev N__law_made_errors : List Str := ["one", "two", "three", "rows"]
theorem sc__law_made_errors : FnScope N__law_made_errors ["one", "two", "three"] (defScope st__law_made_errors) := ⟨rfl, rfl, rfl, by decide +kernel, rfl, by decide +kernel, by decide +kernel⟩
def m__law_made_errors : M Ctl := (seqM (setM 3 (lstM (consM (tupM (consM (mkM "BadText" E_BadText (consM (varM 0) (consM (varM 1) (ret [])))) (consM (lstM (consM (ret (.str "line")) (consM (ret (.str "word")) (ret [])))) (ret [])))) (consM (tupM (consM (mkM "BadName" E_BadName (consM (varM 0) (ret []))) (consM (lstM (consM (ret (.str "name")) (ret []))) (ret [])))) (consM (tupM (consM (mkM "BadNumber" E_BadNumber (consM (varM 0) (consM (varM 1) (ret [])))) (consM (lstM (consM (ret (.str "what")) (consM (ret (.str "number")) (ret [])))) (ret [])))) (ret []))))))
  (seqM (setM 3 (opM addD (varM 3) (lstM (consM (tupM (consM (mkM "BadRow" E_BadRow (consM (varM 0) (consM (varM 1) (ret [])))) (consM (lstM (consM (ret (.str "what")) (consM (ret (.str "row")) (ret [])))) (ret [])))) (consM (tupM (consM (mkM "NoName" E_NoName (consM (varM 0) (ret []))) (consM (lstM (consM (ret (.str "name")) (ret []))) (ret [])))) (consM (tupM (consM (mkM "TakenName" E_TakenName (consM (varM 0) (ret []))) (consM (lstM (consM (ret (.str "name")) (ret []))) (ret [])))) (ret [])))))))
  (seqM (setM 3 (opM addD (varM 3) (lstM (consM (tupM (consM (mkM "Unlike" E_Unlike (consM (varM 0) (ret []))) (consM (lstM (consM (ret (.str "what")) (ret []))) (ret [])))) (consM (tupM (consM (mkM "NotThere" E_NotThere (consM (varM 0) (ret []))) (consM (lstM (consM (ret (.str "what")) (ret []))) (ret [])))) (consM (tupM (consM (mkM "TooMany" E_TooMany (consM (varM 0) (consM (varM 1) (consM (varM 2) (ret []))))) (consM (lstM (consM (ret (.str "what")) (consM (ret (.str "many")) (consM (ret (.str "limit")) (ret []))))) (ret [])))) (ret [])))))))
  (seqM (setM 3 (opM addD (varM 3) (lstM (consM (tupM (consM (mkM "Misread" E_Misread (consM (varM 0) (consM (varM 1) (ret [])))) (consM (lstM (consM (ret (.str "line")) (consM (ret (.str "column")) (ret [])))) (ret [])))) (consM (tupM (consM (mkM "Misplaced" E_Misplaced (consM (varM 0) (consM (varM 1) (consM (varM 2) (consM (varM 0) (ret [])))))) (consM (lstM (consM (ret (.str "line")) (consM (ret (.str "column")) (consM (ret (.str "why")) (consM (ret (.str "name")) (ret [])))))) (ret [])))) (ret []))))))
  (retM (opM addD (varM 3) (lstM (consM (tupM (consM (mkM "NotKept" E_NotKept (consM (varM 0) (consM (varM 1) (ret [])))) (consM (lstM (consM (ret (.str "promise")) (consM (ret (.str "witness")) (ret [])))) (ret [])))) (ret [])))))))))
theorem w__law_made_errors {P : Program} {w : World} {K : PySem.W.Frag} {mg : Str → Option Value} {base : Heap} {cls : Str → Option Addr} (v_BadText : ExcV P w K mg base "BadText" E_BadText) (v_BadName : ExcV P w K mg base "BadName" E_BadName) (v_BadNumber : ExcV P w K mg base "BadNumber" E_BadNumber) (v_BadRow : ExcV P w K mg base "BadRow" E_BadRow) (v_NoName : ExcV P w K mg base "NoName" E_NoName) (v_TakenName : ExcV P w K mg base "TakenName" E_TakenName) (v_Unlike : ExcV P w K mg base "Unlike" E_Unlike) (v_NotThere : ExcV P w K mg base "NotThere" E_NotThere) (v_TooMany : ExcV P w K mg base "TooMany" E_TooMany) (v_Misread : ExcV P w K mg base "Misread" E_Misread) (v_Misplaced : ExcV P w K mg base "Misplaced" E_Misplaced) (v_NotKept : ExcV P w K mg base "NotKept" E_NotKept)  
    {f : Addr} {cdv : Value} {A : Around} {outer : List Env} {s : Shared} {H : Hp} {E : XK} (hr : Room 2 (A.deeper (envOfC "_law_made_errors" (defScope st__law_made_errors) s.heap.objs.size f cdv))) :
    DSs (bodyCx P w K mg base N__law_made_errors "_law_made_errors" st__law_made_errors f cdv A outer s H E) cls (fun c d _ H => E c d H) (defBody st__law_made_errors) (m__law_made_errors) :=
  (dss_cons (ds_set 3 sc__law_made_errors.nd (de_lst (by exact (da_cons (de_tup (by exact (da_cons (v_BadText.make (hr.mono (by decide)) (by exact (da_cons (de_var 0) (da_cons (de_var 1) da_nil)))) (da_cons (de_lst (by exact (da_cons de_str (da_cons de_str da_nil)))) da_nil)))) (da_cons (de_tup (by exact (da_cons (v_BadName.make (hr.mono (by decide)) (by exact (da_cons (de_var 0) da_nil))) (da_cons (de_lst (by exact (da_cons de_str da_nil))) da_nil)))) (da_cons (de_tup (by exact (da_cons (v_BadNumber.make (hr.mono (by decide)) (by exact (da_cons (de_var 0) (da_cons (de_var 1) da_nil)))) (da_cons (de_lst (by exact (da_cons de_str (da_cons de_str da_nil)))) da_nil)))) da_nil))))))
  (dss_cons (ds_set 3 sc__law_made_errors.nd (de_op od_add (de_var 3) (de_lst (by exact (da_cons (de_tup (by exact (da_cons (v_BadRow.make (hr.mono (by decide)) (by exact (da_cons (de_var 0) (da_cons (de_var 1) da_nil)))) (da_cons (de_lst (by exact (da_cons de_str (da_cons de_str da_nil)))) da_nil)))) (da_cons (de_tup (by exact (da_cons (v_NoName.make (hr.mono (by decide)) (by exact (da_cons (de_var 0) da_nil))) (da_cons (de_lst (by exact (da_cons de_str da_nil))) da_nil)))) (da_cons (de_tup (by exact (da_cons (v_TakenName.make (hr.mono (by decide)) (by exact (da_cons (de_var 0) da_nil))) (da_cons (de_lst (by exact (da_cons de_str da_nil))) da_nil)))) da_nil)))))))
  (dss_cons (ds_set 3 sc__law_made_errors.nd (de_op od_add (de_var 3) (de_lst (by exact (da_cons (de_tup (by exact (da_cons (v_Unlike.make (hr.mono (by decide)) (by exact (da_cons (de_var 0) da_nil))) (da_cons (de_lst (by exact (da_cons de_str da_nil))) da_nil)))) (da_cons (de_tup (by exact (da_cons (v_NotThere.make (hr.mono (by decide)) (by exact (da_cons (de_var 0) da_nil))) (da_cons (de_lst (by exact (da_cons de_str da_nil))) da_nil)))) (da_cons (de_tup (by exact (da_cons (v_TooMany.make (hr.mono (by decide)) (by exact (da_cons (de_var 0) (da_cons (de_var 1) (da_cons (de_var 2) da_nil))))) (da_cons (de_lst (by exact (da_cons de_str (da_cons de_str (da_cons de_str da_nil))))) da_nil)))) da_nil)))))))
  (dss_cons (ds_set 3 sc__law_made_errors.nd (de_op od_add (de_var 3) (de_lst (by exact (da_cons (de_tup (by exact (da_cons (v_Misread.make (hr.mono (by decide)) (by exact (da_cons (de_var 0) (da_cons (de_var 1) da_nil)))) (da_cons (de_lst (by exact (da_cons de_str (da_cons de_str da_nil)))) da_nil)))) (da_cons (de_tup (by exact (da_cons (v_Misplaced.make (hr.mono (by decide)) (by exact (da_cons (de_var 0) (da_cons (de_var 1) (da_cons (de_var 2) (da_cons (de_var 0) da_nil)))))) (da_cons (de_lst (by exact (da_cons de_str (da_cons de_str (da_cons de_str (da_cons de_str da_nil)))))) da_nil)))) da_nil))))))
  (dss_one (ds_ret (de_op od_add (de_var 3) (de_lst (by exact (da_cons (de_tup (by exact (da_cons (v_NotKept.make (hr.mono (by decide)) (by exact (da_cons (de_var 0) (da_cons (de_var 1) da_nil)))) (da_cons (de_lst (by exact (da_cons de_str (da_cons de_str da_nil)))) da_nil)))) da_nil))))))))))
def F__law_made_errors := fnB 4 3 m__law_made_errors

/-! ### _law_kinds -/
abbrev st__law_kinds : Stmt := top 23
abbrev N__law_kinds : List Str := ["one", "found"]
theorem sc__law_kinds : FnScope N__law_kinds ["one"] (defScope st__law_kinds) := ⟨rfl, rfl, rfl, by decide +kernel, rfl, by decide +kernel, by decide +kernel⟩
def m__law_kinds : M Ctl := (seqM (setM 1 (lstM (consM (isiOM (subOf "BadText") (varM 0)) (consM (isiOM (subOf "BadName") (varM 0)) (consM (isiOM (subOf "BadNumber") (varM 0)) (consM (isiOM (subOf "BadRow") (varM 0)) (ret [])))))))
  (seqM (setM 1 (opM addD (varM 1) (lstM (consM (isiOM (subOf "NoName") (varM 0)) (consM (isiOM (subOf "TakenName") (varM 0)) (consM (isiOM (subOf "Unlike") (varM 0)) (consM (isiOM (subOf "NotThere") (varM 0)) (ret []))))))))
  (seqM (setM 1 (opM addD (varM 1) (lstM (consM (isiOM (subOf "TooMany") (varM 0)) (consM (isiOM (subOf "Misread") (varM 0)) (consM (isiOM (subOf "Misplaced") (varM 0)) (consM (isiOM (subOf "NotKept") (varM 0)) (ret []))))))))
  (retM (opM addD (varM 1) (lstM (consM (isiOM (subOf "NothingToUndo") (varM 0)) (consM (isiOM (subOf "NothingToRedo") (varM 0)) (ret [])))))))))
theorem w__law_kinds {P : Program} {w : World} {K : PySem.W.Frag} {mg : Str → Option Value} {base : Heap} {cls : Str → Option Addr} (i_BadText : ClsT K mg (subOf "BadText") "BadText") (i_BadName : ClsT K mg (subOf "BadName") "BadName") (i_BadNumber : ClsT K mg (subOf "BadNumber") "BadNumber") (i_BadRow : ClsT K mg (subOf "BadRow") "BadRow") (i_NoName : ClsT K mg (subOf "NoName") "NoName") (i_TakenName : ClsT K mg (subOf "TakenName") "TakenName") (i_Unlike : ClsT K mg (subOf "Unlike") "Unlike") (i_NotThere : ClsT K mg (subOf "NotThere") "NotThere") (i_TooMany : ClsT K mg (subOf "TooMany") "TooMany") (i_Misread : ClsT K mg (subOf "Misread") "Misread") (i_Misplaced : ClsT K mg (subOf "Misplaced") "Misplaced") (i_NotKept : ClsT K mg (subOf "NotKept") "NotKept") (i_NothingToUndo : ClsT K mg (subOf "NothingToUndo") "NothingToUndo") (i_NothingToRedo : ClsT K mg (subOf "NothingToRedo") "NothingToRedo") (n_isinstance : mg "isinstance" = none) 
    {f : Addr} {cdv : Value} {A : Around} {outer : List Env} {s : Shared} {H : Hp} {E : XK} (hr : Room 0 (A.deeper (envOfC "_law_kinds" (defScope st__law_kinds) s.heap.objs.size f cdv))) :
    DSs (bodyCx P w K mg base N__law_kinds "_law_kinds" st__law_kinds f cdv A outer s H E) cls (fun c d _ H => E c d H) (defBody st__law_kinds) (m__law_kinds) :=
  (dss_cons (ds_set 1 sc__law_kinds.nd (de_lst (by exact (da_cons (i_BadText.isi n_isinstance (de_var 0)) (da_cons (i_BadName.isi n_isinstance (de_var 0)) (da_cons (i_BadNumber.isi n_isinstance (de_var 0)) (da_cons (i_BadRow.isi n_isinstance (de_var 0)) da_nil)))))))
  (dss_cons (ds_set 1 sc__law_kinds.nd (de_op od_add (de_var 1) (de_lst (by exact (da_cons (i_NoName.isi n_isinstance (de_var 0)) (da_cons (i_TakenName.isi n_isinstance (de_var 0)) (da_cons (i_Unlike.isi n_isinstance (de_var 0)) (da_cons (i_NotThere.isi n_isinstance (de_var 0)) da_nil))))))))
  (dss_cons (ds_set 1 sc__law_kinds.nd (de_op od_add (de_var 1) (de_lst (by exact (da_cons (i_TooMany.isi n_isinstance (de_var 0)) (da_cons (i_Misread.isi n_isinstance (de_var 0)) (da_cons (i_Misplaced.isi n_isinstance (de_var 0)) (da_cons (i_NotKept.isi n_isinstance (de_var 0)) da_nil))))))))
  (dss_one (ds_ret (de_op od_add (de_var 1) (de_lst (by exact (da_cons (i_NothingToUndo.isi n_isinstance (de_var 0)) (da_cons (i_NothingToRedo.isi n_isinstance (de_var 0)) da_nil))))))))))
def F__law_kinds := fnB 2 1 m__law_kinds

abbrev ini_BadText : Stmt := methOf (top 2) 0
theorem sci_BadText : FnScope ["self", "line", "word"] ["self", "line", "word"] (defScope ini_BadText) := ⟨rfl, rfl, rfl, by decide +kernel, rfl, by decide +kernel, by decide +kernel⟩
abbrev ini_Misread : Stmt := methOf (top 3) 0
theorem sci_Misread : FnScope ["self", "line", "column"] ["self", "line", "column"] (defScope ini_Misread) := ⟨rfl, rfl, rfl, by decide +kernel, rfl, by decide +kernel, by decide +kernel⟩
abbrev ini_Misplaced : Stmt := methOf (top 4) 0
theorem sci_Misplaced : FnScope ["self", "line", "column", "why", "name"] ["self", "line", "column", "why", "name"] (defScope ini_Misplaced) := ⟨rfl, rfl, rfl, by decide +kernel, rfl, by decide +kernel, by decide +kernel⟩
abbrev ini_BadName : Stmt := methOf (top 5) 0
theorem sci_BadName : FnScope ["self", "name"] ["self", "name"] (defScope ini_BadName) := ⟨rfl, rfl, rfl, by decide +kernel, rfl, by decide +kernel, by decide +kernel⟩
abbrev ini_BadNumber : Stmt := methOf (top 6) 0
theorem sci_BadNumber : FnScope ["self", "what", "number"] ["self", "what", "number"] (defScope ini_BadNumber) := ⟨rfl, rfl, rfl, by decide +kernel, rfl, by decide +kernel, by decide +kernel⟩
abbrev ini_BadRow : Stmt := methOf (top 7) 0
theorem sci_BadRow : FnScope ["self", "what", "row"] ["self", "what", "row"] (defScope ini_BadRow) := ⟨rfl, rfl, rfl, by decide +kernel, rfl, by decide +kernel, by decide +kernel⟩
abbrev ini_NoName : Stmt := methOf (top 8) 0
theorem sci_NoName : FnScope ["self", "name"] ["self", "name"] (defScope ini_NoName) := ⟨rfl, rfl, rfl, by decide +kernel, rfl, by decide +kernel, by decide +kernel⟩
abbrev ini_TakenName : Stmt := methOf (top 9) 0
theorem sci_TakenName : FnScope ["self", "name"] ["self", "name"] (defScope ini_TakenName) := ⟨rfl, rfl, rfl, by decide +kernel, rfl, by decide +kernel, by decide +kernel⟩
abbrev ini_Unlike : Stmt := methOf (top 10) 0
theorem sci_Unlike : FnScope ["self", "what"] ["self", "what"] (defScope ini_Unlike) := ⟨rfl, rfl, rfl, by decide +kernel, rfl, by decide +kernel, by decide +kernel⟩
abbrev ini_NotThere : Stmt := methOf (top 11) 0
theorem sci_NotThere : FnScope ["self", "what"] ["self", "what"] (defScope ini_NotThere) := ⟨rfl, rfl, rfl, by decide +kernel, rfl, by decide +kernel, by decide +kernel⟩
abbrev ini_TooMany : Stmt := methOf (top 12) 0
theorem sci_TooMany : FnScope ["self", "what", "many", "limit"] ["self", "what", "many", "limit"] (defScope ini_TooMany) := ⟨rfl, rfl, rfl, by decide +kernel, rfl, by decide +kernel, by decide +kernel⟩
abbrev ini_NotKept : Stmt := methOf (top 13) 0
theorem sci_NotKept : FnScope ["self", "promise", "witness"] ["self", "promise", "witness"] (defScope ini_NotKept) := ⟨rfl, rfl, rfl, by decide +kernel, rfl, by decide +kernel, by decide +kernel⟩
/-! ### what the top has written -/
structure Txt (K : PySem.W.Frag) (mg : Str → Option Value) : Prop where
  n_len : mg "len" = none
  n_int : mg "int" = none
  n_isinstance : mg "isinstance" = none
  n_ValueError : mg "ValueError" = none
  n_repr : mg "repr" = none
  n_enumerate : mg "enumerate" = none
  n_range : mg "range" = none
  d__law_draw : DefT K mg "_law_draw" st__law_draw ["pen", "many"]
  d__law_pick : DefT K mg "_law_pick" st__law_pick ["pen", "some"]
  d__law_value : DefT K mg "_law_value" st__law_value ["pen"]
  d__law_fields : DefT K mg "_law_fields" st__law_fields ["one", "names"]
  d__law_made_errors : DefT K mg "_law_made_errors" st__law_made_errors ["one", "two", "three"]
  d__law_kinds : DefT K mg "_law_kinds" st__law_kinds ["one"]
  x_BadText : ExcF K mg CC.cls "BadText" E_BadText ini_BadText
  x_Misread : ExcF K mg CC.cls "Misread" E_Misread ini_Misread
  x_Misplaced : ExcF K mg CC.cls "Misplaced" E_Misplaced ini_Misplaced
  x_BadName : ExcF K mg CC.cls "BadName" E_BadName ini_BadName
  x_BadNumber : ExcF K mg CC.cls "BadNumber" E_BadNumber ini_BadNumber
  x_BadRow : ExcF K mg CC.cls "BadRow" E_BadRow ini_BadRow
  x_NoName : ExcF K mg CC.cls "NoName" E_NoName ini_NoName
  x_TakenName : ExcF K mg CC.cls "TakenName" E_TakenName ini_TakenName
  x_Unlike : ExcF K mg CC.cls "Unlike" E_Unlike ini_Unlike
  x_NotThere : ExcF K mg CC.cls "NotThere" E_NotThere ini_NotThere
  x_TooMany : ExcF K mg CC.cls "TooMany" E_TooMany ini_TooMany
  x_NotKept : ExcF K mg CC.cls "NotKept" E_NotKept ini_NotKept
  o_BadText : ∀ C, CC.cls "BadText" = some C → XoF K C "BadText" E_BadText
  o_Misread : ∀ C, CC.cls "Misread" = some C → XoF K C "Misread" E_Misread
  o_Misplaced : ∀ C, CC.cls "Misplaced" = some C → XoF K C "Misplaced" E_Misplaced
  o_BadName : ∀ C, CC.cls "BadName" = some C → XoF K C "BadName" E_BadName
  o_BadNumber : ∀ C, CC.cls "BadNumber" = some C → XoF K C "BadNumber" E_BadNumber
  o_BadRow : ∀ C, CC.cls "BadRow" = some C → XoF K C "BadRow" E_BadRow
  o_NoName : ∀ C, CC.cls "NoName" = some C → XoF K C "NoName" E_NoName
  o_TakenName : ∀ C, CC.cls "TakenName" = some C → XoF K C "TakenName" E_TakenName
  o_Unlike : ∀ C, CC.cls "Unlike" = some C → XoF K C "Unlike" E_Unlike
  o_NotThere : ∀ C, CC.cls "NotThere" = some C → XoF K C "NotThere" E_NotThere
  o_TooMany : ∀ C, CC.cls "TooMany" = some C → XoF K C "TooMany" E_TooMany
  o_NotKept : ∀ C, CC.cls "NotKept" = some C → XoF K C "NotKept" E_NotKept
  v0_NothingToUndo : ExcV0 K mg "NothingToUndo"
  v0_NothingToRedo : ExcV0 K mg "NothingToRedo"
  i_HouseError : ClsT K mg (subOf "HouseError") "HouseError"
  i_ValueError : ∀ n C, CC.cls n = some C → PySem.W.kitOne K (.ref C) (.type "ValueError") = some (subOf "ValueError" n)
  i_BadText : ClsT K mg (subOf "BadText") "BadText"
  i_Misread : ClsT K mg (subOf "Misread") "Misread"
  i_Misplaced : ClsT K mg (subOf "Misplaced") "Misplaced"
  i_BadName : ClsT K mg (subOf "BadName") "BadName"
  i_BadNumber : ClsT K mg (subOf "BadNumber") "BadNumber"
  i_BadRow : ClsT K mg (subOf "BadRow") "BadRow"
  i_NoName : ClsT K mg (subOf "NoName") "NoName"
  i_TakenName : ClsT K mg (subOf "TakenName") "TakenName"
  i_Unlike : ClsT K mg (subOf "Unlike") "Unlike"
  i_NotThere : ClsT K mg (subOf "NotThere") "NotThere"
  i_TooMany : ClsT K mg (subOf "TooMany") "TooMany"
  i_NotKept : ClsT K mg (subOf "NotKept") "NotKept"
  i_NothingToUndo : ClsT K mg (subOf "NothingToUndo") "NothingToUndo"
  i_NothingToRedo : ClsT K mg (subOf "NothingToRedo") "NothingToRedo"
section
variable {P : Program} {w : World} {K : PySem.W.Frag} {mg : Str → Option Value} {cls : Str → Option Addr} {base : Heap} (T : Txt K mg)
include T
theorem v_BadText : ExcV P w K mg base "BadText" E_BadText := ⟨T.x_BadText.excT sci_BadText rfl (by decide) (by decide) fun _ _ _ _ _ _ _ => (init_cons (init_cons init_nil)), T.o_BadText⟩
theorem v_Misread : ExcV P w K mg base "Misread" E_Misread := ⟨T.x_Misread.excT sci_Misread rfl (by decide) (by decide) fun _ _ _ _ _ _ _ => (init_cons (init_cons init_nil)), T.o_Misread⟩
theorem v_Misplaced : ExcV P w K mg base "Misplaced" E_Misplaced := ⟨T.x_Misplaced.excT sci_Misplaced rfl (by decide) (by decide) fun _ _ _ _ _ _ _ => (init_cons (init_cons (init_cons (init_cons init_nil)))), T.o_Misplaced⟩
theorem v_BadName : ExcV P w K mg base "BadName" E_BadName := ⟨T.x_BadName.excT sci_BadName rfl (by decide) (by decide) fun _ _ _ _ _ _ _ => (init_cons init_nil), T.o_BadName⟩
theorem v_BadNumber : ExcV P w K mg base "BadNumber" E_BadNumber := ⟨T.x_BadNumber.excT sci_BadNumber rfl (by decide) (by decide) fun _ _ _ _ _ _ _ => (init_cons (init_cons init_nil)), T.o_BadNumber⟩
theorem v_BadRow : ExcV P w K mg base "BadRow" E_BadRow := ⟨T.x_BadRow.excT sci_BadRow rfl (by decide) (by decide) fun _ _ _ _ _ _ _ => (init_cons (init_cons init_nil)), T.o_BadRow⟩
theorem v_NoName : ExcV P w K mg base "NoName" E_NoName := ⟨T.x_NoName.excT sci_NoName rfl (by decide) (by decide) fun _ _ _ _ _ _ _ => (init_cons init_nil), T.o_NoName⟩
theorem v_TakenName : ExcV P w K mg base "TakenName" E_TakenName := ⟨T.x_TakenName.excT sci_TakenName rfl (by decide) (by decide) fun _ _ _ _ _ _ _ => (init_cons init_nil), T.o_TakenName⟩
theorem v_Unlike : ExcV P w K mg base "Unlike" E_Unlike := ⟨T.x_Unlike.excT sci_Unlike rfl (by decide) (by decide) fun _ _ _ _ _ _ _ => (init_cons init_nil), T.o_Unlike⟩
theorem v_NotThere : ExcV P w K mg base "NotThere" E_NotThere := ⟨T.x_NotThere.excT sci_NotThere rfl (by decide) (by decide) fun _ _ _ _ _ _ _ => (init_cons init_nil), T.o_NotThere⟩
theorem v_TooMany : ExcV P w K mg base "TooMany" E_TooMany := ⟨T.x_TooMany.excT sci_TooMany rfl (by decide) (by decide) fun _ _ _ _ _ _ _ => (init_cons (init_cons (init_cons init_nil))), T.o_TooMany⟩
theorem v_NotKept : ExcV P w K mg base "NotKept" E_NotKept := ⟨T.x_NotKept.excT sci_NotKept rfl (by decide) (by decide) fun _ _ _ _ _ _ _ => (init_cons (init_cons init_nil)), T.o_NotKept⟩
theorem cal__law_draw : Cal P w K mg base "_law_draw" 1 (spP K 1 F__law_draw) := fn_PT (cls := CC.cls) _ T.d__law_draw sc__law_draw (fun _ _ _ _ h => h) fun f cdv A outer s H E hr => w__law_draw T.n_len T.n_int hr
theorem cal__law_pick : Cal P w K mg base "_law_pick" 2 (spP K 1 F__law_pick) := fn_PT (cls := CC.cls) _ T.d__law_pick sc__law_pick (fun _ _ _ _ h => h) fun f cdv A outer s H E hr => w__law_pick T.n_len (cal__law_draw T) hr
theorem cal__law_value : Cal P w K mg base "_law_value" 3 (spP K 0 F__law_value) := fn_PT (cls := CC.cls) _ T.d__law_value sc__law_value (fun _ _ _ _ h => h) fun f cdv A outer s H E hr => w__law_value (cal__law_pick T) hr
theorem cal__law_fields : Cal P w K mg base "_law_fields" 1 (spD K cls 2 F__law_fields) := fn_DT (cls := cls) _ T.d__law_fields sc__law_fields (fun _ _ h => h) fun f cdv A outer s H E hr => w__law_fields  hr
theorem cal__law_made_errors : Cal P w K mg base "_law_made_errors" 3 (spD K cls 3 F__law_made_errors) := fn_DT (cls := cls) _ T.d__law_made_errors sc__law_made_errors (fun _ _ h => h) fun f cdv A outer s H E hr => w__law_made_errors (v_BadText T) (v_BadName T) (v_BadNumber T) (v_BadRow T) (v_NoName T) (v_TakenName T) (v_Unlike T) (v_NotThere T) (v_TooMany T) (v_Misread T) (v_Misplaced T) (v_NotKept T) hr
theorem cal__law_kinds : Cal P w K mg base "_law_kinds" 1 (spD K cls 1 F__law_kinds) := fn_DT (cls := cls) _ T.d__law_kinds sc__law_kinds (fun _ _ h => h) fun f cdv A outer s H E hr => w__law_kinds T.i_BadText T.i_BadName T.i_BadNumber T.i_BadRow T.i_NoName T.i_TakenName T.i_Unlike T.i_NotThere T.i_TooMany T.i_Misread T.i_Misplaced T.i_NotKept T.i_NothingToUndo T.i_NothingToRedo T.n_isinstance hr
end
abbrev st_law : Stmt := top 24
abbrev N_law : List Str := ["script", "pen", "values", "at", "made", "one", "names", "due", "kept", "last", "found", "told", "place"]
theorem sc_law : FnScope N_law ["script"] (defScope st_law) := ⟨rfl, rfl, rfl, by decide +kernel, rfl, by decide +kernel, by decide +kernel⟩
def m_law (mt : M Ctl) : M Ctl := (seqM (setM 2 (lstM (consM (callPM 1 0 F__law_value (ret [])) (consM (callPM 1 0 F__law_value (ret [])) (consM (callPM 1 0 F__law_value (ret [])) (ret []))))))
  (seqM (forM (enM (consM (opM addD (callM 3 F__law_made_errors (consM (opM ixD (varM 2) (ret (.int 0))) (consM (opM ixD (varM 2) (ret (.int 1))) (consM (opM ixD (varM 2) (ret (.int 2))) (ret []))))) (lstM (consM (tupM (consM (ret (objD "NothingToUndo" [])) (consM (lstM (ret [])) (ret [])))) (consM (tupM (consM (ret (objD "NothingToRedo" [])) (consM (lstM (ret [])) (ret [])))) (ret []))))) (ret []))) (.tp [(.nm 3), (.nm 4)]) (seqM (bnd (varM 4) (asgM (.tp [(.nm 5), (.nm 6)])))
  (seqM (ifM (orM (notM (trM (isiOM (subOf "HouseError") (varM 5)))) (notM (trM (isiOM (subOf "ValueError") (varM 5))))) (retM (ret (.bool false))) (ret .nx))
  (seqM (setM 7 (slM (opM addD (varM 2) (varM 2)) (ret none) (someM (borM 6 lenD))))
  (seqM (ifM (tsM neD (bltM (only1 reprD) (consM (callM 2 F__law_fields (consM (varM 5) (consM (varM 6) (ret [])))) (ret []))) (bltM (only1 reprD) (consM (varM 7) (ret [])))) (retM (ret (.bool false))) (ret .nx))
  (ifM (tsM neD (callM 1 F__law_kinds (consM (varM 5) (ret []))) (lcM (rngM 1 (consM (ret (.int 14)) (ret []))) (.nm 12) [12] (ret true) (opM eqD (varM 12) (varM 3)))) (retM (ret (.bool false))) (ret .nx)))))))
  mt))
theorem w_law {P : Program} {w : World} {K : PySem.W.Frag} {mg : Str → Option Value} {base : Heap} {cls : Str → Option Addr} {mt : M Ctl} (n_enumerate : mg "enumerate" = none) (n_ValueError : mg "ValueError" = none) (n_isinstance : mg "isinstance" = none) (n_len : mg "len" = none) (n_repr : mg "repr" = none) (n_range : mg "range" = none) (v0_NothingToUndo : ExcV0 K mg "NothingToUndo") (v0_NothingToRedo : ExcV0 K mg "NothingToRedo") (i_HouseError : ClsT K mg (subOf "HouseError") "HouseError") (i_ValueError : ∀ n C, CC.cls n = some C → PySem.W.kitOne K (.ref C) (.type "ValueError") = some (subOf "ValueError" n)) (c__law_value : Cal P w K mg base "_law_value" 3 (spP K 0 F__law_value)) (c__law_made_errors : Cal P w K mg base "_law_made_errors" 3 (spD K cls 3 F__law_made_errors)) (c__law_fields : Cal P w K mg base "_law_fields" 1 (spD K cls 2 F__law_fields)) (c__law_kinds : Cal P w K mg base "_law_kinds" 1 (spD K cls 1 F__law_kinds))
    {f : Addr} {cdv : Value} {A : Around} {outer : List Env} {s : Shared} {H : Hp} {E : XK} (hr : Room 3 (A.deeper (envOfC "law" (defScope st_law) s.heap.objs.size f cdv))) (hg : A.guards = some [])
    (ht : DSs (bodyCx P w K mg base N_law "law" st_law f cdv A outer s H E) cls (fun c d _ H => E c d H) ((defBody st_law).drop 3) mt) :
    DSs (bodyCx P w K mg base N_law "law" st_law f cdv A outer s H E) cls (fun c d _ H => E c d H) ((defBody st_law).drop 1) (m_law mt) :=
  (dss_cons (ds_set 2 sc_law.nd (de_lst (by exact (da_cons (de_callPC 1 c__law_value (hr.mono (by decide)) (L2.takes_of rfl rfl rfl rfl) (by exact da_nil)) (da_cons (de_callPC 1 c__law_value (hr.mono (by decide)) (L2.takes_of rfl rfl rfl rfl) (by exact da_nil)) (da_cons (de_callPC 1 c__law_value (hr.mono (by decide)) (L2.takes_of rfl rfl rfl rfl) (by exact da_nil)) da_nil))))))
  (dss_cons (ds_for (passes_of rfl) rfl (.tp [(.nm 3), (.nm 4)]) (di_enum n_enumerate (by exact (da_cons (de_op od_add (de_callC c__law_made_errors (hr.mono (by decide)) (L2.takes_of rfl rfl rfl rfl) (by exact (da_cons (de_ix (de_var 2) de_int) (da_cons (de_ix (de_var 2) de_int) (da_cons (de_ix (de_var 2) de_int) da_nil))))) (de_lst (by exact (da_cons (de_tup (by exact (da_cons v0_NothingToUndo.make (da_cons (de_lst (by exact da_nil)) da_nil)))) (da_cons (de_tup (by exact (da_cons v0_NothingToRedo.make (da_cons (de_lst (by exact da_nil)) da_nil)))) da_nil))))) da_nil))) (pg_tup rfl (pgs_cons (pg_name sc_law.nd rfl (by first | exact .inl rfl | exact .inr rfl)) (pgs_cons (pg_name sc_law.nd rfl (by first | exact .inl rfl | exact .inr rfl)) pgs_nil))) (dss_cons (ds_asgT (.tp [(.nm 5), (.nm 6)]) (de_var 4) (pg_tup rfl (pgs_cons (pg_name sc_law.nd rfl (by first | exact .inl rfl | exact .inr rfl)) (pgs_cons (pg_name sc_law.nd rfl (by first | exact .inl rfl | exact .inr rfl)) pgs_nil))))
  (dss_cons (ds_if (PW.pt (dw_or (dt_not (dt_truth (i_HouseError.isi n_isinstance (de_var 5)))) (dw_or1 (dt_not (dt_truth (de_isiB i_ValueError n_ValueError bo_ValueError n_isinstance (de_var 5))))))) (dss_one (ds_ret de_bl)) dss_nil)
  (dss_cons (ds_set 7 sc_law.nd (de_slice (de_op od_add (de_var 2) (de_var 2)) dp_none (dp_some (de_lenV 6 n_len))))
  (dss_cons (ds_if (dt_cmp (od_ne hr.units) (de_callB (cd_repr hg hr.units) n_repr bo_repr (by exact (da_cons (de_callC c__law_fields (hr.mono (by decide)) (L2.takes_of rfl rfl rfl rfl) (by exact (da_cons (de_var 5) (da_cons (de_var 6) da_nil)))) da_nil))) (de_callB (cd_repr hg hr.units) n_repr bo_repr (by exact (da_cons (de_var 7) da_nil))) (by rfl)) (dss_one (ds_ret de_bl)) dss_nil)
  (dss_one (ds_if (dt_cmp (od_ne hr.units) (de_callC c__law_kinds (hr.mono (by decide)) (L2.takes_of rfl rfl rfl rfl) (by exact (da_cons (de_var 5) da_nil))) (by exact (de_lc (own := [("place", 12)]) (.nm 12) rfl sc_law.nd (di_range1 n_range (by exact (da_cons de_int da_nil))) (@blkOk_by N_law (defScope st_law) _ [("place", 12)] (by decide +kernel)) (by decide) (fun _ _ _ _ _ => (pg_name sc_law.nd rfl (by first | exact .inl rfl | exact .inr rfl))) (fun _ _ _ _ _ => dts_nil) (fun _ _ _ _ _ => (de_cmp (od_eq hr.units) (de_var 12) (de_var 3) (by rfl))))) (by rfl)) (dss_one (ds_ret de_bl)) dss_nil)))))))
  ht))

end K01

set_option maxRecDepth 100000
set_option maxHeartbeats 2000000
/-! P01: the end of the law's walk: a kept list, an exception that is caught. -/
namespace K01
open PySem PySem.Spec PyProof.Rows L2 RZ DL
variable [CC : DL.ClsCtx] [XC : DL.XcCtx]
def flTab : List (Str × List Str) := [("BadText", E_BadText), ("Misread", E_Misread), ("Misplaced", E_Misplaced), ("BadName", E_BadName), ("BadNumber", E_BadNumber), ("BadRow", E_BadRow), ("NoName", E_NoName), ("TakenName", E_TakenName), ("Unlike", E_Unlike), ("NotThere", E_NotThere), ("TooMany", E_TooMany), ("NotKept", E_NotKept)]
def flds (n : Str) : List Str := (flTab.lookup n).getD []
abbrev L12 : M PyData := lstM (consM (ret (.int 1)) (consM (lstM (consM (ret (.int 2)) (ret []))) (consM (ret (.int 3)) (ret []))))
abbrev m_suite : M Ctl := appM 10 (andVM (xiM (subOf "ValueError") 11) (andVM (xiM (subOf "NotThere") 11) (opM eqD (xfM flds 11 "what") L12)))
def m_end : M Ctl := seqM (bnd (bnd (consM (ret (.int 1)) (consM (lstM (consM (ret (.int 2)) (ret []))) (ret []))) owM) (putC 8))
  (seqM (keepM 8 9 "BadRow" "what" "row" "x" 3)
  (seqM (ifM (tsM neD (attrM "row" (varM 9)) L12) (retM (ret (.bool false))) (ret .nx))
  (seqM (bnd (bnd (ret []) owM) (putC 10))
  (seqM (tryM (raiseM "NotThere" E_NotThere (consM L12 (ret []))) [(subOf "HouseError", 11, m_suite)])
  (retM (opM eqD (varM 10) (lstM (consM (ret (.bool true)) (ret [])))))))))
theorem w_end {P : Program} {w : World} {K : PySem.W.Frag} {mg : Str → Option Value} {base : Heap} {DH : Addr} (v_BadRow : ExcV P w K mg base "BadRow" E_BadRow) (v_NotThere : ExcV P w K mg base "NotThere" E_NotThere) (i_NotThere : ClsT K mg (subOf "NotThere") "NotThere")
    (i_ValueError : ∀ n C, CC.cls n = some C → PySem.W.kitOne K (.ref C) (.type "ValueError") = some (subOf "ValueError" n)) (n_ValueError : mg "ValueError" = none) (n_isinstance : mg "isinstance" = none) (hH : mg "HouseError" = some (.ref DH)) (xH : ∀ n C, CC.cls n = some C → PySem.W.exmOne K (.ref C) (.ref DH) = some (subOf "HouseError" n))
    (xo : ∀ n C, CC.cls n = some C → XoF K C n (flds n))
    {f : Addr} {cdv : Value} {A : Around} {outer : List Env} {s : Shared} {H : Hp} {E : XK} (hr : Room 3 (A.deeper (envOfC "law" (defScope st_law) s.heap.objs.size f cdv))) (hg : A.guards = some []) :
    DSs (bodyCx P w K mg base N_law "law" st_law f cdv A outer s H E) CC.cls (fun c d _ H => E c d H) ((defBody st_law).drop 3) m_end := by
  obtain ⟨DN, hN, kN⟩ := i_NotThere.ex
  refine (dss_cons (ds_setN 8 sc_law.nd (dn_lst (by exact (da_cons de_int (da_cons (de_lst (by exact (da_cons de_int da_nil))) da_nil))))) ?_)
  refine dss_keep 8 9 v_BadRow (hr.mono (by decide)) sc_law.nd ?_ (by decide) rfl (Or.inl rfl) (by decide) (by decide) rfl (Or.inl rfl) (Or.inr rfl) rfl (by decide) rfl
  refine dss_cons (ds_if (dt_cmp (od_ne hr.units) (de_attr (de_var 9)) (de_lst (by exact (da_cons de_int (da_cons (de_lst (by exact (da_cons de_int da_nil))) (da_cons de_int da_nil))))) (by rfl)) (dss_one (ds_ret de_bl)) dss_nil) ?_
  refine dss_cons (ds_setN 10 sc_law.nd (dn_lst da_nil)) ?_
  refine dss_cons (ds_try rfl rfl sc_law.nd (L2.takes_of rfl rfl rfl rfl) (fun W pl xe tk _ => dss_one (v_NotThere.t.raise rfl tk (hr.mono (by decide)) (by exact (da_cons (de_lst (by exact (da_cons de_int (da_cons (de_lst (by exact (da_cons de_int da_nil))) (da_cons de_int da_nil))))) da_nil))))
    (.cons rfl rfl ⟨rfl, by decide, .inl hH⟩ xH (fun XC eo pl hz hf => ?_) .nil)) (dss_one (ds_ret (de_cmp (od_eq hr.units) (de_var 10) (de_lst (by exact (da_cons de_bl da_nil))) (by rfl))))
  refine dss_one (ds_append 10 (de_and (pe_xi 11 (.ty "ValueError") i_ValueError (fun n C h => (xo n C h).sub (by simp)) hz hf n_isinstance (pe_bltn (v := .ty "ValueError") rfl n_ValueError bo_ValueError rfl))
    (de_and (pe_xi 11 (.own DN) kN (fun n C h => (xo n C h).sub (by simp)) hz hf n_isinstance (pe_glob rfl hN rfl)) (de_one (de_cmp (od_eq ?_) (de_xf flds 11 xo hz hf) (de_lst (by exact (da_cons de_int (da_cons (de_lst (by exact (da_cons de_int da_nil))) (da_cons de_int da_nil))))) (by rfl))))))
  exact hr.units
end K01

set_option maxRecDepth 100000
set_option maxHeartbeats 2000000
/-! MA01: the pen's draws and picks (as for k21). -/
namespace K01
open PySem PySem.Spec PyProof.Rows L2 RZ DL
variable [CC : DL.ClsCtx] [XC : DL.XcCtx]
structure PenOk (n : Int) (P : Pen) : Prop where
  a : 0 ≤ P.at_
  d : 0 ≤ P.digits
  c0 : 0 ≤ P.count
  c1 : P.count ≤ n
  f0 : 0 ≤ P.fold
  f1 : P.fold < 2147482801
theorem PenOk.mono {n m : Int} {P : Pen} (h : PenOk n P) (l : n ≤ m) : PenOk m P := ⟨h.a, h.d, h.c0, by have := h.c1; omega, h.f0, h.f1⟩
theorem pen0_ok (ns : List Int) : PenOk 0 (pen0 ns) := by
  have key : ∀ (l : List Int) (acc : Int), 0 ≤ acc → acc < 1000000607 → 0 ≤ l.foldl (fun fold cell => (fold * 173 + cell) % 1000000607) acc ∧ l.foldl (fun fold cell => (fold * 173 + cell) % 1000000607) acc < 1000000607 := by
    intro l
    induction l with
    | nil => exact fun acc h1 h2 => ⟨h1, h2⟩
    | cons z l ih => exact fun acc h1 h2 => ih _ (Int.emod_nonneg _ (by decide)) (Int.emod_lt_of_pos _ (by decide))
  obtain ⟨h1, h2⟩ := key ns 67 (by decide) (by decide)
  exact ⟨Int.le_refl _, Int.le_refl _, Int.le_refl _, Int.le_refl _, h1, by show foldPen ns < _; unfold foldPen; omega⟩
/-- one draw, in plain words -/
def drawP (P : Pen) (m : Int) : Int × Pen :=
  let P1 : Pen := { P with count := P.count + 1 }
  let P2 : Pen := if P1.digits = 0 ∧ P1.at_ < P1.cells.length then
      (let cell := P1.cells.getD P1.at_.toNat 0
       if cell ≥ 1000000000000000000 then { P1 with at_ := P1.at_ + 1, digits := cell - 1000000000000000000 } else { P1 with at_ := P1.at_ + 1, fold := (P1.fold * 70181 + cell) % 2147482801 })
    else P1
  if P2.digits > 0 then (P2.digits % m, { P2 with digits := P2.digits / m })
  else ((P2.fold + P2.count * 7933 + 103) ^ 17 % 2305843009213693951 / 128 % m, P2)
theorem drawP_ok {n : Int} {P : Pen} {m : Int} (h : PenOk n P) (h1 : 1 ≤ m) : 0 ≤ (drawP P m).1 ∧ (drawP P m).1 < m ∧ PenOk (n + 1) (drawP P m).2 := by
  have a := h.a; have d := h.d; have c0 := h.c0; have c1 := h.c1; have f0 := h.f0; have f1 := h.f1
  unfold drawP
  simp only
  have e1 : ∀ x : Int, 0 ≤ x % 2147482801 ∧ x % 2147482801 < 2147482801 := fun x => ⟨Int.emod_nonneg _ (by decide), Int.emod_lt_of_pos _ (by decide)⟩
  have e2 : ∀ x : Int, 0 ≤ x % m ∧ x % m < m := fun x => ⟨Int.emod_nonneg _ (by omega), Int.emod_lt_of_pos _ (by omega)⟩
  have e3 : ∀ x : Int, 0 ≤ x → 0 ≤ x / m := fun x hx => Int.ediv_nonneg hx (by omega)
  split
  · split
    · split
      · exact ⟨(e2 _).1, (e2 _).2, ⟨by show 0 ≤ P.at_ + 1; omega, e3 _ (by show (0 : Int) ≤ _ - _; omega), by show 0 ≤ P.count + 1; omega, by show P.count + 1 ≤ n + 1; omega, f0, f1⟩⟩
      · exact ⟨(e2 _).1, (e2 _).2, ⟨by show 0 ≤ P.at_ + 1; omega, by show (0 : Int) ≤ _ - _; omega, by show 0 ≤ P.count + 1; omega, by show P.count + 1 ≤ n + 1; omega, f0, f1⟩⟩
    · split
      · exact ⟨(e2 _).1, (e2 _).2, ⟨by show 0 ≤ P.at_ + 1; omega, e3 _ d, by show 0 ≤ P.count + 1; omega, by show P.count + 1 ≤ n + 1; omega, (e1 _).1, (e1 _).2⟩⟩
      · exact ⟨(e2 _).1, (e2 _).2, ⟨by show 0 ≤ P.at_ + 1; omega, d, by show 0 ≤ P.count + 1; omega, by show P.count + 1 ≤ n + 1; omega, (e1 _).1, (e1 _).2⟩⟩
  · split
    · exact ⟨(e2 _).1, (e2 _).2, ⟨a, e3 _ d, by show 0 ≤ P.count + 1; omega, by show P.count + 1 ≤ n + 1; omega, f0, f1⟩⟩
    · exact ⟨(e2 _).1, (e2 _).2, ⟨a, d, by show 0 ≤ P.count + 1; omega, by show P.count + 1 ≤ n + 1; omega, f0, f1⟩⟩
end K01
namespace K01
open PySem PySem.Spec PyProof.Rows L2 RZ DL
variable [CC : DL.ClsCtx] [XC : DL.XcCtx]
section
variable {p : Addr} {P : Pen} {r : Sl} {n : Int} {α β : Type}
theorem bnd_of {m : M α} {k : α → M β} {δ δ' : Sl} {x : α} (h : m δ = some (.ok x δ')) : bnd m k δ = k x δ' := by
  unfold bnd
  rw [h]
theorem bnd_ex {m : M α} {k : α → M β} {δ δ' : Sl} {nm : Str} {fs : List (Str × PyData)} (h : m δ = some (.ex nm fs δ')) : bnd m k δ = some (.ex nm fs δ') := by
  unfold bnd
  rw [h]
theorem seq_nx {a b : M Ctl} {δ δ' : Sl} (h : a δ = some (.ok .nx δ')) : seqM a b δ = b δ' := by
  unfold seqM
  rw [h]
theorem seq_rt {a b : M Ctl} {δ δ' : Sl} {d : PyData} (h : a δ = some (.ok (.rt d) δ')) : seqM a b δ = some (.ok (.rt d) δ') := by
  unfold seqM
  rw [h]
theorem seq_ex {a b : M Ctl} {δ δ' : Sl} {nm : Str} {fs : List (Str × PyData)} (h : a δ = some (.ex nm fs δ')) : seqM a b δ = some (.ex nm fs δ') := by
  unfold seqM
  rw [h]
theorem if_of {t : M Bool} {a b : M α} {δ δ' : Sl} {c : Bool} (h : t δ = some (.ok c δ')) : ifM t a b δ = if c = true then a δ' else b δ' := by
  unfold ifM
  rw [bnd_of h]
  cases c <;> rfl
theorem op_of {g : PyData → PyData → Option PyData} {ma mb : M PyData} {δ δ1 δ2 : Sl} {x y z : PyData} (h1 : ma δ = some (.ok x δ1)) (h2 : mb δ1 = some (.ok y δ2)) (h3 : g x y = some z) : opM g ma mb δ = some (.ok z δ2) := by
  show bnd ma _ δ = _
  rw [bnd_of h1, bnd_of h2]
  simp [lft, h3]
theorem ts_of {g : PyData → PyData → Option PyData} {ma mb : M PyData} {δ δ1 δ2 : Sl} {x y : PyData} {b : Bool} (h1 : ma δ = some (.ok x δ1)) (h2 : mb δ1 = some (.ok y δ2)) (h3 : g x y = some (.bool b)) : tsM g ma mb δ = some (.ok b δ2) := by
  show bnd ma _ δ = _
  rw [bnd_of h1, bnd_of h2]
  simp [lft, h3, boolD]
theorem ret_of {x : α} {δ : Sl} : DL.ret x δ = some (.ok x δ) := rfl
theorem cons_of {me : M PyData} {mr : M (List PyData)} {δ δ1 δ2 : Sl} {x : PyData} {xs : List PyData} (h1 : me δ = some (.ok x δ1)) (h2 : mr δ1 = some (.ok xs δ2)) : consM me mr δ = some (.ok (x :: xs) δ2) := by
  show bnd me _ δ = _
  rw [bnd_of h1, bnd_of h2]
  rfl
theorem one_of {me : M PyData} {δ δ1 : Sl} {x : PyData} (h1 : me δ = some (.ok x δ1)) : consM me (DL.ret []) δ = some (.ok [x] δ1) := cons_of h1 rfl
theorem blt_of {g : List PyData → Option PyData} {ma : M (List PyData)} {δ δ1 : Sl} {xs : List PyData} {z : PyData} (h1 : ma δ = some (.ok xs δ1)) (h3 : g xs = some z) : bltM g ma δ = some (.ok z δ1) := by
  show bnd ma _ δ = _
  rw [bnd_of h1]
  simp [lft, h3]
theorem set_of {i : Nat} {me : M PyData} {δ δ1 : Sl} {x : PyData} (h1 : me δ = some (.ok x δ1)) (hi : i < δ1.length) : setM i me δ = some (.ok .nx (δ1.set i (.sh x))) := by
  show bnd me _ δ = _
  rw [bnd_of h1]
  exact if_pos hi
theorem set_to {i : Nat} {me : M PyData} {δ δ1 δ' : Sl} {x : PyData} (h1 : me δ = some (.ok x δ1)) (hi : i < δ1.length) (he : δ1.set i (.sh x) = δ') : setM i me δ = some (.ok .nx δ') := he ▸ set_of h1 hi
theorem rt_of {me : M PyData} {δ δ1 : Sl} {x : PyData} (h1 : me δ = some (.ok x δ1)) : retM me δ = some (.ok (.rt x) δ1) := by
  show bnd me _ δ = _
  rw [bnd_of h1]
  rfl
theorem var_of {i : Nat} {δ : Sl} {d : PyData} (h : δ[i]? = some (.sh d)) : varM i δ = some (.ok d δ) := by
  unfold varM
  rw [h]
theorem get_cells : P.get "cells" = some (.list (P.cells.map .int)) := if_pos rfl
theorem get_at : P.get "at" = some (.int P.at_) := by simp [Pen.get, k_at_cells]
theorem get_digits : P.get "digits" = some (.int P.digits) := by simp [Pen.get, k_digits_cells, k_digits_at]
theorem get_count : P.get "count" = some (.int P.count) := by simp [Pen.get, k_count_cells, k_count_at, k_count_digits]
theorem get_fold : P.get "fold" = some (.int P.fold) := by simp [Pen.get, k_fold_cells, k_fold_at, k_fold_digits, k_fold_count]
theorem put_at : P.put "at" n = some { P with at_ := n } := by simp [Pen.put]
theorem put_digits : P.put "digits" n = some { P with digits := n } := by simp [Pen.put, k_digits_at]
theorem put_count : P.put "count" n = some { P with count := n } := by simp [Pen.put, k_count_at, k_count_digits]
theorem put_fold : P.put "fold" n = some { P with fold := n } := by simp [Pen.put, k_fold_at, k_fold_digits, k_fold_count]
theorem pg_of {k : Str} {d : PyData} (h : P.get k = some d) : penGetM 0 k (.pen p P :: r) = some (.ok d (.pen p P :: r)) := by
  simp [penGetM, h]
theorem pp_of {k : Str} {P' : Pen} (h : P.put k n = some P') {me : M PyData} {δ : Sl} (h1 : me δ = some (.ok (.int n) (.pen p P :: r))) : bnd me (penPutM 0 k) δ = some (.ok .nx (.pen p P' :: r)) := by
  rw [bnd_of h1]
  simp [penPutM, h]
end
theorem ten18 : powD (.int 10) (.int 18) = some (.int 1000000000000000000) := by
  show (if (0 : Int) ≤ 18 ∧ (18 : Int) ≤ 1000000 ∧ (10 : Int).natAbs < 2 ^ 64 then some (PyData.int (10 ^ (18 : Int).toNat)) else none) = _
  rw [if_pos (by decide)]
  rfl
theorem pow17 {x : Int} (h : 0 ≤ x) (h2 : x < 2 ^ 60) : powD (.int x) (.int 17) = some (.int (x ^ 17)) := by
  show (if (0 : Int) ≤ 17 ∧ (17 : Int) ≤ 1000000 ∧ x.natAbs < 2 ^ 64 then some (PyData.int (x ^ (17 : Int).toNat)) else none) = _
  rw [if_pos (by omega)]
  rfl
theorem mul_ok {x y : Int} (h : 0 ≤ x) (h2 : x < 2 ^ 60) : mulD (.int x) (.int y) = some (.int (x * y)) := if_pos (by omega)
theorem eqD_int' {a b : Int} : eqD (.int a) (.int b) = some (.bool (decide (a = b))) := by
  have e : ∀ s : Int, SeqAt.shaped (.int s) = true := fun s => by simp [SeqAt.shaped, PyData.canLay0, PyData.depth]
  unfold eqD
  rw [if_pos ⟨e _, e _⟩]
  simp only [PyData.eqv]
  rfl
theorem ltD_int {x y : Int} : ltD (.int x) (.int y) = some (.bool (decide (x < y))) := rfl
theorem gtD_int {x y : Int} : gtD (.int x) (.int y) = some (.bool (decide (y < x))) := rfl
theorem geD_int {x y : Int} : geD (.int x) (.int y) = some (.bool (decide (y ≤ x))) := rfl

theorem atI_of {α : Type} {l : List α} {i : Int} {x : α} (h0 : 0 ≤ i) (h : l[i.toNat]? = some x) : atI l i = some x := by
  have := DL.atI_nat h
  rwa [Int.toNat_of_nonneg h0] at this
theorem draw_is {n : Int} {p : Addr} {P : Pen} {m : Int} (h : PenOk n P) (hn : n < 2 ^ 40) (h1 : 1 ≤ m) (h2 : m < 2 ^ 30) : F__law_draw p P [.int m] = some (.int (drawP P m).1, (drawP P m).2) := by
  have a := h.a; have d := h.d; have c0 := h.c0; have c1 := h.c1; have f0 := h.f0; have f1 := h.f1
  have hlen : ∀ (Q : Pen) (r : Sl), bltM (only1 lenD) (consM (penGetM 0 "cells") (DL.ret [])) (.pen p Q :: r) = some (.ok (.int Q.cells.length) (.pen p Q :: r)) := fun Q r => by
    refine blt_of (one_of (pg_of get_cells)) ?_
    simp [only1, lenD]
  -- the second part: what is told
  have tell : ∀ (Q : Pen) (c : C), 0 ≤ Q.digits → 0 ≤ Q.fold → Q.fold < 2147482801 → 0 ≤ Q.count → Q.count ≤ n + 1 →
      ∃ δ', (seqM (ifM (tsM gtD (penGetM 0 "digits") (DL.ret (.int 0))) (seqM (setM 3 (opM modD (bltM (only1 DL.intOfD) (consM (penGetM 0 "digits") (DL.ret []))) (varM 1))) (seqM (bnd (opM floordivD (penGetM 0 "digits") (varM 1)) (penPutM 0 "digits")) (retM (varM 3)))) (DL.ret .nx))
        (seqM (setM 4 (opM addD (opM addD (penGetM 0 "fold") (opM mulD (penGetM 0 "count") (DL.ret (.int 7933)))) (DL.ret (.int 103))))
        (retM (opM modD (opM floordivD (bltM (only1 DL.intOfD) (consM (opM modD (opM powD (varM 4) (DL.ret (.int 17))) (DL.ret (.int 2305843009213693951))) (DL.ret []))) (DL.ret (.int 128))) (varM 1))))) [.pen p Q, .sh (.int m), c, .un, .un] = some (.ok (.rt (.int (if Q.digits > 0 then (Q.digits % m, { Q with digits := Q.digits / m }) else ((Q.fold + Q.count * 7933 + 103) ^ 17 % 2305843009213693951 / 128 % m, Q)).1)) δ') ∧ δ'[(0 : Nat)]? = some (.pen p (if Q.digits > 0 then (Q.digits % m, { Q with digits := Q.digits / m }) else ((Q.fold + Q.count * 7933 + 103) ^ 17 % 2305843009213693951 / 128 % m, Q)).2) := by
    intro Q c q0 q1 q2 q3 q4
    have t1 : tsM gtD (penGetM 0 "digits") (DL.ret (.int 0)) [.pen p Q, .sh (.int m), c, .un, .un] = some (.ok (decide (0 < Q.digits)) [.pen p Q, .sh (.int m), c, .un, .un]) := ts_of (pg_of get_digits) ret_of gtD_int
    by_cases hq : 0 < Q.digits
    · refine ⟨[.pen p { Q with digits := Q.digits / m }, .sh (.int m), c, .sh (.int (Q.digits % m)), .un], ?_, by rw [if_pos hq]; rfl⟩
      rw [if_pos hq]
      refine seq_rt ?_
      rw [if_of t1, decide_eq_true hq, if_pos rfl]
      refine (seq_nx (δ' := [.pen p Q, .sh (.int m), c, .sh (.int (Q.digits % m)), .un]) (set_of (op_of (blt_of (one_of (pg_of get_digits)) rfl) (var_of rfl) (modD_pos (by omega))) (by simp))).trans ?_
      refine (seq_nx (δ' := [.pen p { Q with digits := Q.digits / m }, .sh (.int m), c, .sh (.int (Q.digits % m)), .un]) (pp_of put_digits (op_of (pg_of get_digits) (var_of (i := 1) (d := .int m) rfl) (divD_pos (by omega) (by omega))))).trans ?_
      exact rt_of (var_of rfl)
    · refine ⟨[.pen p Q, .sh (.int m), c, .un, .sh (.int (Q.fold + Q.count * 7933 + 103))], ?_, by rw [if_neg hq]; rfl⟩
      rw [if_neg hq]
      refine (seq_nx (δ' := [.pen p Q, .sh (.int m), c, .un, .un]) (by rw [if_of t1, decide_eq_false hq]; rfl)).trans ?_
      refine (seq_nx (δ' := [.pen p Q, .sh (.int m), c, .un, .sh (.int (Q.fold + Q.count * 7933 + 103))]) (set_of (op_of (op_of (pg_of get_fold) (op_of (pg_of get_count) ret_of (mul_ok q3 (by omega))) rfl) ret_of rfl) (by simp))).trans ?_
      exact rt_of (op_of (op_of (blt_of (one_of (op_of (op_of (var_of rfl) ret_of (pow17 (by omega) (by omega))) ret_of (modD_pos (by decide)))) rfl) ret_of (divD_pos (by decide) (by decide))) (var_of rfl) (modD_pos (by omega)))
  -- the first part
  let P1 : Pen := { P with count := P.count + 1 }
  have start : ∀ X : M Ctl, seqM (bnd (opM addD (penGetM 0 "count") (DL.ret (.int 1))) (penPutM 0 "count")) X [.pen p P, .sh (.int m), .un, .un, .un] = X [.pen p P1, .sh (.int m), .un, .un, .un] := fun X =>
    seq_nx (pp_of put_count (op_of (pg_of get_count) ret_of rfl))
  have fin : ∀ {δ' : Sl} {x : Int} {Q : Pen}, m__law_draw [.pen p P, .sh (.int m), .un, .un, .un] = some (.ok (.rt (.int x)) δ') → δ'[(0 : Nat)]? = some (.pen p Q) → F__law_draw p P [.int m] = some (.int x, Q) := fun {δ' x Q} e1 e2 => by
    unfold F__law_draw fnBP
    rw [if_pos (by rfl)]
    have e0 : startD 5 (C.pen p P :: List.map C.sh [PyData.int m]) = [.pen p P, .sh (.int m), .un, .un, .un] := rfl
    rw [e0, e1]
    simp [penOut, e2]
  unfold m__law_draw at fin
  unfold drawP
  have t0 : tsM eqD (penGetM 0 "digits") (DL.ret (.int 0)) [.pen p P1, .sh (.int m), .un, .un, .un] = some (.ok (decide (P.digits = 0)) [.pen p P1, .sh (.int m), .un, .un, .un]) := ts_of (pg_of get_digits) ret_of eqD_int'
  have tA : tsM ltD (penGetM 0 "at") (bltM (only1 lenD) (consM (penGetM 0 "cells") (DL.ret []))) [.pen p P1, .sh (.int m), .un, .un, .un] = some (.ok (decide (P.at_ < P.cells.length)) [.pen p P1, .sh (.int m), .un, .un, .un]) := ts_of (pg_of get_at) (hlen _ _) ltD_int
  have tB : andM (tsM eqD (penGetM 0 "digits") (DL.ret (.int 0))) (tsM ltD (penGetM 0 "at") (bltM (only1 lenD) (consM (penGetM 0 "cells") (DL.ret [])))) [.pen p P1, .sh (.int m), .un, .un, .un] = some (.ok (decide (P.digits = 0 ∧ P.at_ < P.cells.length)) [.pen p P1, .sh (.int m), .un, .un, .un]) := by
    unfold DL.andM
    rw [bnd_of t0]
    by_cases h0 : P.digits = 0
    · rw [decide_eq_true h0, if_pos rfl, tA]
      simp [h0]
    · rw [decide_eq_false h0, if_neg (by decide)]
      simp [h0, DL.ret]
  by_cases hb : P.digits = 0 ∧ P.at_ < P.cells.length
  · simp only [if_pos hb]
    have hl : P.at_.toNat < P.cells.length := by omega
    have hcell : ixD (.list (P.cells.map .int)) (.int P.at_) = some (.int (P.cells.getD P.at_.toNat 0)) := by
      show atI (P.cells.map PyData.int) P.at_ = _
      refine atI_of a ?_
      rw [List.getElem?_map, List.getElem?_eq_getElem hl, List.getD_eq_getElem?_getD, List.getElem?_eq_getElem hl]
      rfl
    let z : Int := P.cells.getD P.at_.toNat 0
    let P2 : Pen := { P1 with at_ := P.at_ + 1 }
    have s1 : setM 2 (opM ixD (penGetM 0 "cells") (penGetM 0 "at")) [.pen p P1, .sh (.int m), .un, .un, .un] = some (.ok .nx [.pen p P1, .sh (.int m), .sh (.int z), .un, .un]) := set_to (op_of (pg_of get_cells) (pg_of get_at) hcell) (by simp) rfl
    have s2 : bnd (opM addD (penGetM 0 "at") (DL.ret (.int 1))) (penPutM 0 "at") [.pen p P1, .sh (.int m), .sh (.int z), .un, .un] = some (.ok .nx [.pen p P2, .sh (.int m), .sh (.int z), .un, .un]) := pp_of put_at (op_of (pg_of get_at) ret_of rfl)
    have s3 : tsM geD (varM 2) (opM powD (DL.ret (.int 10)) (DL.ret (.int 18))) [.pen p P2, .sh (.int m), .sh (.int z), .un, .un] = some (.ok (decide (1000000000000000000 ≤ z)) [.pen p P2, .sh (.int m), .sh (.int z), .un, .un]) := ts_of (var_of rfl) (op_of ret_of ret_of ten18) geD_int
    have hsub : subD (.int z) (.int 1000000000000000000) = some (.int (z - 1000000000000000000)) := rfl
    by_cases hz : 1000000000000000000 ≤ z
    · have hz' : P.cells.getD P.at_.toNat 0 ≥ 1000000000000000000 := hz
      simp only [if_pos hz']
      let P3 : Pen := { P2 with digits := z - 1000000000000000000 }
      have s4 : bnd (opM subD (varM 2) (opM powD (DL.ret (.int 10)) (DL.ret (.int 18)))) (penPutM 0 "digits") [.pen p P2, .sh (.int m), .sh (.int z), .un, .un] = some (.ok .nx [.pen p P3, .sh (.int m), .sh (.int z), .un, .un]) := pp_of put_digits (op_of (var_of rfl) (op_of ret_of ret_of ten18) hsub)
      obtain ⟨δ', e1, e2⟩ := tell P3 (.sh (.int z)) (by show (0 : Int) ≤ z - 1000000000000000000; omega) f0 f1 (by show 0 ≤ P.count + 1; omega) (by show P.count + 1 ≤ n + 1; omega)
      refine fin ?_ e2
      rw [start]
      refine (seq_nx (δ' := [.pen p P3, .sh (.int m), .sh (.int z), .un, .un]) ?_).trans e1
      rw [if_of tB, decide_eq_true hb, if_pos rfl]
      refine (seq_nx s1).trans ((seq_nx s2).trans ?_)
      rw [if_of s3, decide_eq_true hz, if_pos rfl]
      exact s4
    · have hz' : ¬ P.cells.getD P.at_.toNat 0 ≥ 1000000000000000000 := hz
      simp only [if_neg hz']
      let P3 : Pen := { P2 with fold := (P.fold * 70181 + z) % 2147482801 }
      have s4 : bnd (opM modD (bltM (only1 DL.intOfD) (consM (opM addD (opM mulD (penGetM 0 "fold") (DL.ret (.int 70181))) (varM 2)) (DL.ret []))) (DL.ret (.int 2147482801))) (penPutM 0 "fold") [.pen p P2, .sh (.int m), .sh (.int z), .un, .un] = some (.ok .nx [.pen p P3, .sh (.int m), .sh (.int z), .un, .un]) :=
        pp_of put_fold (op_of (blt_of (one_of (op_of (op_of (pg_of get_fold) ret_of (mul_ok f0 (by show P.fold < 2 ^ 60; omega))) (var_of rfl) rfl)) rfl) ret_of (modD_pos (by decide)))
      obtain ⟨δ', e1, e2⟩ := tell P3 (.sh (.int z)) d (Int.emod_nonneg _ (by decide)) (Int.emod_lt_of_pos _ (by decide)) (by show 0 ≤ P.count + 1; omega) (by show P.count + 1 ≤ n + 1; omega)
      refine fin ?_ e2
      rw [start]
      refine (seq_nx (δ' := [.pen p P3, .sh (.int m), .sh (.int z), .un, .un]) ?_).trans e1
      rw [if_of tB, decide_eq_true hb, if_pos rfl]
      refine (seq_nx s1).trans ((seq_nx s2).trans ?_)
      rw [if_of s3, decide_eq_false hz]
      exact s4
  · simp only [if_neg hb]
    obtain ⟨δ', e1, e2⟩ := tell P1 .un d f0 f1 (by show 0 ≤ P.count + 1; omega) (by show P.count + 1 ≤ n + 1; omega)
    refine fin ?_ e2
    rw [start]
    refine (seq_nx (δ' := [.pen p P1, .sh (.int m), .un, .un, .un]) (by rw [if_of tB, decide_eq_false hb]; rfl)).trans ?_
    exact e1
end K01
namespace K01
open PySem PySem.Spec PyProof.Rows L2 RZ DL
variable [CC : DL.ClsCtx] [XC : DL.XcCtx]
section
variable {p : Addr} {P : Pen} {n : Int}
theorem callP_of {i k : Nat} {F : Addr → Pen → List PyData → Option (PyData × Pen)} {ma : M (List PyData)} {δ δ1 δ' : Sl} {p0 : Addr} {P0 P' : Pen} {ds : List PyData} {z : PyData} (h0 : δ[i]? = some (.pen p0 P0)) (h1 : ma δ = some (.ok ds δ1)) (h2 : δ1[i]? = some (.pen p P)) (hl : ds.length = k) (hf : F p P ds = some (z, P')) (he : δ1.set i (.pen p P') = δ') :
    callPM i k F ma δ = some (.ok z δ') := by
  show bnd (isPen i) _ δ = _
  have e0 : isPen i δ = some (.ok () δ) := by simp [isPen, h0]
  rw [bnd_of e0, bnd_of h1]
  subst he
  simp [callP, h2, hl, hf]
theorem bor_of {i : Nat} {g : PyData → Option PyData} {δ : Sl} {c : C} {d z : PyData} (h : δ[i]? = some c) (hd : cData c = some d) (hz : g d = some z) : borM i g δ = some (.ok z δ) := by
  unfold borM
  rw [h]
  simp [hd, hz]
theorem draw_at {m : Int} (h : PenOk n P) (hn : n < 2 ^ 40) (h1 : 1 ≤ m) (h2 : m < 2 ^ 30) : ∃ k P', F__law_draw p P [.int m] = some (.int k, P') ∧ 0 ≤ k ∧ k < m ∧ PenOk (n + 1) P' :=
  ⟨_, _, draw_is h hn h1 h2, (drawP_ok h h1).1, (drawP_ok h h1).2.1, (drawP_ok h h1).2.2⟩
theorem pick_is {xs : List PyData} (h : PenOk n P) (hn : n < 2 ^ 40) (h1 : xs ≠ []) (h2 : xs.length < 2 ^ 30) : ∃ x P', F__law_pick p P [.list xs] = some (x, P') ∧ x ∈ xs ∧ PenOk (n + 1) P' := by
  have hp := List.length_pos_iff.mpr h1
  obtain ⟨k, P', e, k0, k1, ok⟩ := draw_at (p := p) (m := xs.length) h hn (by omega) (by omega)
  have hk : k.toNat < xs.length := by omega
  refine ⟨xs[k.toNat], P', ?_, List.getElem_mem hk, ok⟩
  unfold F__law_pick fnBP
  rw [if_pos (by rfl)]
  have e0 : startD 2 (C.pen p P :: List.map C.sh [PyData.list xs]) = [.pen p P, .sh (.list xs)] := rfl
  rw [e0]
  have run : m__law_pick [.pen p P, .sh (.list xs)] = some (.ok (.rt xs[k.toNat]) [.pen p P', .sh (.list xs)]) := by
    unfold m__law_pick
    refine rt_of (op_of (var_of (d := .list xs) rfl) (callP_of (p := p) (P := P) (P' := P') rfl (one_of (bor_of (c := .sh (.list xs)) (d := .list xs) rfl rfl (z := .int xs.length) rfl)) rfl rfl e rfl) ?_)
    exact atI_of k0 (List.getElem?_eq_getElem hk)
  rw [run]
  simp [penOut]
end
end K01

set_option maxRecDepth 100000
set_option maxHeartbeats 2000000
/-! PP01: the pen's maker. -/
namespace K01
open PySem PySem.Spec PyProof.Rows L2 RZ DL LamX
variable [CC : DL.ClsCtx] [XC : DL.XcCtx]
abbrev st__law_pen : Stmt := top 17
abbrev N__law_pen : List Str := ["script", "fold", "cell"]
theorem sc__law_pen : FnScope N__law_pen ["script"] (defScope st__law_pen) := ⟨rfl, rfl, rfl, by decide +kernel, rfl, by decide +kernel, by decide +kernel⟩
def mb_pen : M Ctl := (setM 1 (opM modD (bltM (only1 intOfD) (consM (opM addD (opM mulD (varM 1) (ret (.int 173))) (varM 2)) (ret []))) (ret (.int 1000000607))))
def m3_pen : M C := ndictM [("cells", bltM (only1 listD) (consM (varM 0) (ret []))), ("at", ret (.int 0)), ("digits", ret (.int 0)), ("count", ret (.int 0)), ("fold", varM 1)]
theorem pen_turn {acc z : Int} {d0 : PyData} {c : C} (h0 : 0 ≤ acc) (h1 : acc < 2 ^ 40) : mb_pen ([.sh d0, .sh (.int acc), c].set 2 (.sh (.int z))) = some (.ok .nx [.sh d0, .sh (.int ((acc * 173 + z) % 1000000607)), .sh (.int z)]) := by
  have e : mulD (.int acc) (.int 173) = some (.int (acc * 173)) := if_pos ⟨by omega, by omega⟩
  simp [mb_pen, bnd, lft, DL.ret, varM, e, addD, only1, DL.intOfD, modD_pos (show (0 : Int) < 1000000607 by decide), putM]
theorem pen_loop (d0 : PyData) : ∀ (ns : List Int) (acc : Int) (c : C), 0 ≤ acc → acc < 2 ^ 40 → ∃ c', forL (.nm 2) mb_pen (ns.map .int) [.sh d0, .sh (.int acc), c] = some (.ok .nx [.sh d0, .sh (.int (ns.foldl (fun fold cell => (fold * 173 + cell) % 1000000607) acc)), c'])
  | [], acc, c, _, _ => ⟨c, rfl⟩
  | z :: ns, acc, c, h0, h1 => by
    have h2 : 0 ≤ (acc * 173 + z) % 1000000607 := Int.emod_nonneg _ (by decide)
    have h3 : (acc * 173 + z) % 1000000607 < 1000000607 := Int.emod_lt_of_pos _ (by decide)
    obtain ⟨c', e⟩ := pen_loop d0 ns ((acc * 173 + z) % 1000000607) (.sh (.int z)) h2 (by omega)
    refine ⟨c', ?_⟩
    simp only [List.map_cons, forL, Tgt.set, List.length_cons, List.length_nil]
    rw [if_pos (by omega)]
    simp only [pen_turn h0 h1]
    exact e
section
variable {P : Program} {w : World} {K : PySem.W.Frag} {mg : Str → Option Value} {base : Heap} {cls : Str → Option Addr}
theorem cal_pen (T : DefT K mg "_law_pen" st__law_pen ["script"]) (n_int : mg "int" = none) (n_list : mg "list" = none) : Cal P w K mg base "_law_pen" 1 (spPen0 K) := by
  obtain ⟨f, fd, hm, Fu, hb⟩ := T.ex
  refine cal_D (ps := ["script"]) ?_ hm Fu.kp hb
  refine Fun.okX (k := 0) Fu sc__law_pen (fun _ _ _ _ h => h.1) fun cdv A outer s H vs Q E hr hsp => ?_
  refine ⟨_, pss_cons (ds_set (cls := fun _ => none) (W := fun c d _ H => E c d H) 1 sc__law_pen.nd de_int) (pss_cons (ds_for (cls := fun _ => none) (W := fun c d _ H => E c d H) (mb := mb_pen) (passes_of rfl) rfl (.nm 2) (di_seq (de_var 0)) (pg_name sc__law_pen.nd rfl (Or.inl rfl)) (dss_one (ds_set 1 sc__law_pen.nd (de_op od_mod (de_callTy cd_int n_int bo_int (by exact (da_cons (de_op od_add (de_op od_mul (de_var 1) de_int) (de_var 2)) da_nil))) de_int))))
    (pss_one (ps_ret (dn_dict (cls := fun _ => none) (W := fun c d _ H => E c d H) (l := [("cells", bltM (only1 listD) (consM (varM 0) (ret []))), ("at", ret (.int 0)), ("digits", ret (.int 0)), ("count", ret (.int 0)), ("fold", varM 1)]) (dps_cons (de_callTy cd_list n_list bo_list (by exact (da_cons (de_var 0) da_nil))) (dps_cons de_int (dps_cons de_int (dps_cons de_int (dps_cons (de_var 1) dps_nil))))) (by decide +kernel))))), ?_⟩
  obtain ⟨_, F, a, ns, rfl, hs, hq, hl, hend⟩ := hsp
  have E0 := er_start (N := N__law_pen) (vs := [.ref a]) (ds := [.list (ns.map .int)]) hs (.cons (.lst hq (dpa_of_ints ns)) .nil)
  refine ⟨F, [], _, E0, _, rfl, fun σ1 fp1 F1 H1 g1 E1 => ?_⟩
  obtain ⟨c', e⟩ := pen_loop (.list (ns.map .int)) ns 67 .un (by decide) (by decide)
  refine ⟨F1, fp1, _, E1, _, e, fun σ2 fp2 F2 H2 g2 E2 => ?_⟩
  refine ⟨F2, fp2, _, E2, ?_⟩
  refine ⟨.ok (.dk [(.inr "cells", .list (ns.map .int)), (.inr "at", .int 0), (.inr "digits", .int 0), (.inr "count", .int 0), (.inr "fold", .int (foldPen ns))]) [.sh (.list (ns.map .int)), .sh (.int (foldPen ns)), c'], rfl, fun fp3 F3 H3 g3 E3 v fc n => ?_⟩
  obtain ⟨p, ca, rfl, rfl, hp, hF, hca⟩ := pen_of n.rep
  have g := g1.trans (g2.trans g3)
  exact hend p ca F3 H3 ⟨g.fz, g.kp, g.nw, fun b hb => (g1.trans g2).back (n.nw b hb), g.al⟩ E3.sub hp hF hca
end
end K01

set_option maxRecDepth 100000
set_option maxHeartbeats 4000000
/-! MB01: values, what is shown of them. -/
namespace K01
open PySem PySem.Spec PyProof.Rows L2 RZ DL
variable [CC : DL.ClsCtx] [XC : DL.XcCtx]
def vals : List PyData := [.str "", .str "a", .int 0, .int (-1), .bool true, .none, .tuple [], .tuple [.str "a", .int 1], .list [.int 1, .str "b"], .list [], .int (10 ^ 40), .tuple [.tuple [.str "x", .int 2], .none]]
def goodV (v : PyData) : Bool := v.showable && (!v.hasDict && (decide (v.depth ≤ 10) && (decide (v.shown.length ≤ 100) && PyData.strOk v.shown)))
theorem vals_good : ∀ v ∈ vals, goodV v = true := by
  have : vals.all goodV = true := by kernel_rfl
  exact List.all_eq_true.mp this
theorem strOk_app {a b : Str} (ha : PyData.strOk a = true) (hb : PyData.strOk b = true) : PyData.strOk (a ++ b) = true := by
  unfold PyData.strOk at *
  show ((a.cps ++ b.cps).all _) = true
  rw [Array.all_append, ha, hb]
  rfl
theorem textFrom_ok : ∀ (ts : List Str) (k : Nat) (acc : Str), PyData.strOk acc = true → (∀ t ∈ ts, PyData.strOk t = true) → PyData.strOk (textFrom k acc ts) = true
  | [], k, acc, h, _ => h
  | t :: r, k, acc, h, ht => by
    show PyData.strOk (textFrom (k + 1) (acc ++ (if k > 0 then ", " else "" : String) ++ t) r) = true
    refine textFrom_ok r _ _ (strOk_app (strOk_app h ?_) (ht t List.mem_cons_self)) fun x hx => ht x (List.mem_cons_of_mem _ hx)
    split <;> decide +kernel
theorem listText_ok {ts : List Str} (h : ∀ t ∈ ts, PyData.strOk t = true) : PyData.strOk (listText ts) = true := strOk_app (textFrom_ok ts 0 _ (by decide +kernel) h) (by decide +kernel)
theorem allGood : ∀ l : List PyData, (∀ v ∈ l, goodV v = true) → PyData.showableAll l = true ∧ PyData.hasDictAll l = false ∧ PyData.depthAll l ≤ 10 ∧ ((PyData.shownAll l).map (·.length)).sum ≤ 100 * l.length ∧ (∀ t ∈ PyData.shownAll l, PyData.strOk t = true) ∧ (PyData.shownAll l).length = l.length
  | [], _ => by simp [PyData.showableAll, PyData.hasDictAll, PyData.depthAll, PyData.shownAll]
  | v :: l, h => by
    obtain ⟨h1, h2, h3, h4, h5, h6⟩ := allGood l fun x hx => h x (List.mem_cons_of_mem _ hx)
    have g := h v List.mem_cons_self
    unfold goodV at g
    simp only [Bool.and_eq_true, decide_eq_true_eq, Bool.not_eq_true'] at g
    obtain ⟨g1, g2, g3, g4, g5⟩ := g
    refine ⟨by simp [PyData.showableAll, g1, h1], by simp [PyData.hasDictAll, g2, h2], by simp only [PyData.depthAll]; omega, ?_, fun t ht => ?_, by simp [PyData.shownAll, h6]⟩
    · simp only [PyData.shownAll, List.map_cons, List.sum_cons, List.length_cons]
      omega
    · simp only [PyData.shownAll, List.mem_cons] at ht
      rcases ht with rfl | ht
      · exact g5
      · exact h5 t ht
/-- the repr of a few values, compared with itself -/
def Rp (l : List PyData) : Prop := ∃ s : Str, reprD (.list l) = some (.str s) ∧ neD (.str s) (.str s) = some (.bool false)
theorem rp_of {l : List PyData} (h : ∀ v ∈ l, goodV v = true) (hl : l.length ≤ 9) : Rp l := by
  obtain ⟨h1, h2, h3, h4, h5, h6⟩ := allGood l h
  refine ⟨(PyData.list l).shown, ?_, ?_⟩
  · unfold reprD
    rw [if_pos]
    refine ⟨by simp [PyData.showable, h1], by simp [PyData.hasDict, h2], by simp only [PyData.depth]; omega, ?_⟩
    have := listText_len_le (PyData.shownAll l)
    simp only [PyData.shown]
    rw [sizeLine_eq]
    omega
  · have ok : SeqAt.shaped (.str (PyData.list l).shown) = true := by
      have : PyData.strOk (PyData.list l).shown = true := by
        simp only [PyData.shown]
        exact listText_ok h5
      simp [SeqAt.shaped, PyData.canLay0, PyData.depth, this]
    unfold neD
    rw [if_pos ⟨ok, ok⟩]
    simp [PyData.eqv]
def E14 : List PyData → List PyData := fun l => match l with
  | [a, b, c] => [.tuple [objD "BadText" [("word", b), ("line", a)], .list [.str "line", .str "word"]], .tuple [objD "BadName" [("name", a)], .list [.str "name"]], .tuple [objD "BadNumber" [("number", b), ("what", a)], .list [.str "what", .str "number"]],
      .tuple [objD "BadRow" [("row", b), ("what", a)], .list [.str "what", .str "row"]], .tuple [objD "NoName" [("name", a)], .list [.str "name"]], .tuple [objD "TakenName" [("name", a)], .list [.str "name"]],
      .tuple [objD "Unlike" [("what", a)], .list [.str "what"]], .tuple [objD "NotThere" [("what", a)], .list [.str "what"]], .tuple [objD "TooMany" [("limit", c), ("many", b), ("what", a)], .list [.str "what", .str "many", .str "limit"]],
      .tuple [objD "Misread" [("column", b), ("line", a)], .list [.str "line", .str "column"]], .tuple [objD "Misplaced" [("name", a), ("why", c), ("column", b), ("line", a)], .list [.str "line", .str "column", .str "why", .str "name"]],
      .tuple [objD "NotKept" [("witness", b), ("promise", a)], .list [.str "promise", .str "witness"]]]
  | _ => []
theorem made_is (a b c : PyData) : F__law_made_errors [a, b, c] = some (.val (.list (E14 [a, b, c]))) := by rfl
theorem fields3 (a b c : PyData) : F__law_fields [objD "TooMany" [("limit", c), ("many", b), ("what", a)], .list [.str "what", .str "many", .str "limit"]] = some (.val (.list [a, b, c])) := by kernel_rfl
theorem kinds3 (a b c : PyData) : F__law_kinds [objD "TooMany" [("limit", c), ("many", b), ("what", a)]] = some (.val (.list ((List.range 14).map fun j => .bool (decide (j = 8))))) := by kernel_rfl
end K01

set_option maxRecDepth 100000
set_option maxHeartbeats 4000000
/-! MC01: the laps over the errors. -/
namespace K01
open PySem PySem.Spec PyProof.Rows L2 RZ DL
variable [CC : DL.ClsCtx] [XC : DL.XcCtx]
theorem callx2 {k : Nat} {fn : List PyData → Option RO} {ma : M (List PyData)} {δ δ1 : Sl} {ds : List PyData} {z : PyData} (h : ma δ = some (.ok ds δ1)) (hl : ds.length = k) (hf : fn ds = some (.val z)) : callM k fn ma δ = some (.ok z δ1) := by
  show bnd ma _ δ = _
  rw [bnd_of h]
  simp [hl, roM, hf]
abbrev A1 : M Ctl := bnd (varM 4) (asgM (.tp [(.nm 5), (.nm 6)]))
abbrev A2 : M Ctl := ifM (orM (notM (trM (isiOM (subOf "HouseError") (varM 5)))) (notM (trM (isiOM (subOf "ValueError") (varM 5))))) (retM (ret (.bool false))) (ret .nx)
abbrev A3 : M Ctl := setM 7 (slM (opM addD (varM 2) (varM 2)) (ret none) (someM (borM 6 lenD)))
abbrev A4 : M Ctl := ifM (tsM neD (bltM (only1 reprD) (consM (callM 2 F__law_fields (consM (varM 5) (consM (varM 6) (ret [])))) (ret []))) (bltM (only1 reprD) (consM (varM 7) (ret [])))) (retM (ret (.bool false))) (ret .nx)
abbrev A5 : M Ctl := ifM (tsM neD (callM 1 F__law_kinds (consM (varM 5) (ret []))) (lcM (rngM 1 (consM (ret (.int 14)) (ret []))) (.nm 12) [12] (ret true) (opM eqD (varM 12) (varM 3)))) (retM (ret (.bool false))) (ret .nx)
abbrev lapB : M Ctl := seqM A1 (seqM A2 (seqM A3 (seqM A4 A5)))
abbrev stA (b : C) (p : Addr) (P : Pen) (vs : List PyData) (k : Int) (m : PyData) (c5 c6 c7 : C) : Sl := [b, .pen p P, .sh (.list vs), .sh (.int k), .sh m, c5, c6, c7, .un, .un, .un, .un, .un]
theorem A4_of {δ : Sl} {o : PyData} {ns due : List PyData} (h5 : δ[5]? = some (.sh o)) (h6 : δ[6]? = some (.sh (.list ns))) (h7 : δ[7]? = some (.sh (.list due))) (hF : F__law_fields [o, .list ns] = some (.val (.list due))) (hR : Rp due) : A4 δ = some (.ok .nx δ) := by
  obtain ⟨s, r1, r2⟩ := hR
  have e1 : bltM (only1 reprD) (consM (callM 2 F__law_fields (consM (varM 5) (consM (varM 6) (DL.ret [])))) (DL.ret [])) δ = some (.ok (.str s) δ) := blt_of (one_of (callx2 (cons_of (var_of h5) (one_of (var_of h6))) rfl hF)) r1
  have e2 : bltM (only1 reprD) (consM (varM 7) (DL.ret [])) δ = some (.ok (.str s) δ) := blt_of (one_of (var_of h7)) r1
  show ifM _ _ _ δ = _
  rw [if_of (ts_of e1 e2 r2)]
  rfl
theorem lap_of {δ δa δ1 δ2 : Sl} {o : PyData} {ns due : List PyData} (h1 : A1 δ = some (.ok .nx δa)) (h2 : A2 δa = some (.ok .nx δa)) (h3 : A3 δa = some (.ok .nx δ1)) (h5 : δ1[5]? = some (.sh o)) (h6 : δ1[6]? = some (.sh (.list ns))) (h7 : δ1[7]? = some (.sh (.list due))) (hF : F__law_fields [o, .list ns] = some (.val (.list due))) (hR : Rp due)
    (hK : A5 δ1 = some (.ok .nx δ2)) : lapB δ = some (.ok .nx δ2) := (seq_nx h1).trans ((seq_nx h2).trans ((seq_nx h3).trans ((seq_nx (A4_of h5 h6 h7 hF hR)).trans hK)))
theorem lap_step {t : Tgt} {mb : M Ctl} {d : PyData} {ds : List PyData} {δ δ1 δ2 : Sl} {r : Option (Rs Ctl)} (ht : Tgt.set t d δ = some δ1) (hb : mb δ1 = some (.ok .nx δ2)) (hr : forL t mb ds δ2 = r) : forL t mb (d :: ds) δ = r := by
  show (match Tgt.set t d δ with | none => none | some δ1 => _) = _
  rw [ht]
  show (match mb δ1 with | some (.ok .nx δ2) => _ | some (.ok .ct δ2) => _ | some (.ok .bk δ2) => _ | r => r) = _
  rw [hb]
  exact hr
section
variable {b : C} {p : Addr} {P : Pen} {a b' c : PyData}
theorem fld0 (x y z : PyData) : F__law_fields [objD "BadText" [("word", y), ("line", x)], .list [.str "line", .str "word"]] = some (.val (.list [x, y])) := by kernel_rfl
theorem lap0 (x y z : PyData) (hR : Rp [x, y]) (c5 c6 c7 : C) : lapB (stA b p P [x, y, z] 0 (.tuple [objD "BadText" [("word", y), ("line", x)], .list [.str "line", .str "word"]]) c5 c6 c7) = some (.ok .nx (stA b p P [x, y, z] 0 (.tuple [objD "BadText" [("word", y), ("line", x)], .list [.str "line", .str "word"]]) (.sh (objD "BadText" [("word", y), ("line", x)])) (.sh (.list [.str "line", .str "word"])) (.sh (.list [x, y])))) :=
  lap_of (δ1 := (stA b p P [x, y, z] 0 (.tuple [objD "BadText" [("word", y), ("line", x)], .list [.str "line", .str "word"]]) (.sh (objD "BadText" [("word", y), ("line", x)])) (.sh (.list [.str "line", .str "word"])) (.sh (.list [x, y])))) (δa := stA b p P [x, y, z] 0 (.tuple [objD "BadText" [("word", y), ("line", x)], .list [.str "line", .str "word"]]) (.sh (objD "BadText" [("word", y), ("line", x)])) (.sh (.list [.str "line", .str "word"])) c7) (by kernel_rfl) (by kernel_rfl) (by kernel_rfl) rfl rfl rfl (fld0 x y z) hR (by kernel_rfl)
theorem fld1 (x y z : PyData) : F__law_fields [objD "BadName" [("name", x)], .list [.str "name"]] = some (.val (.list [x])) := by kernel_rfl
theorem lap1 (x y z : PyData) (hR : Rp [x]) (c5 c6 c7 : C) : lapB (stA b p P [x, y, z] 1 (.tuple [objD "BadName" [("name", x)], .list [.str "name"]]) c5 c6 c7) = some (.ok .nx (stA b p P [x, y, z] 1 (.tuple [objD "BadName" [("name", x)], .list [.str "name"]]) (.sh (objD "BadName" [("name", x)])) (.sh (.list [.str "name"])) (.sh (.list [x])))) :=
  lap_of (δ1 := (stA b p P [x, y, z] 1 (.tuple [objD "BadName" [("name", x)], .list [.str "name"]]) (.sh (objD "BadName" [("name", x)])) (.sh (.list [.str "name"])) (.sh (.list [x])))) (δa := stA b p P [x, y, z] 1 (.tuple [objD "BadName" [("name", x)], .list [.str "name"]]) (.sh (objD "BadName" [("name", x)])) (.sh (.list [.str "name"])) c7) (by kernel_rfl) (by kernel_rfl) (by kernel_rfl) rfl rfl rfl (fld1 x y z) hR (by kernel_rfl)
theorem fld2 (x y z : PyData) : F__law_fields [objD "BadNumber" [("number", y), ("what", x)], .list [.str "what", .str "number"]] = some (.val (.list [x, y])) := by kernel_rfl
theorem lap2 (x y z : PyData) (hR : Rp [x, y]) (c5 c6 c7 : C) : lapB (stA b p P [x, y, z] 2 (.tuple [objD "BadNumber" [("number", y), ("what", x)], .list [.str "what", .str "number"]]) c5 c6 c7) = some (.ok .nx (stA b p P [x, y, z] 2 (.tuple [objD "BadNumber" [("number", y), ("what", x)], .list [.str "what", .str "number"]]) (.sh (objD "BadNumber" [("number", y), ("what", x)])) (.sh (.list [.str "what", .str "number"])) (.sh (.list [x, y])))) :=
  lap_of (δ1 := (stA b p P [x, y, z] 2 (.tuple [objD "BadNumber" [("number", y), ("what", x)], .list [.str "what", .str "number"]]) (.sh (objD "BadNumber" [("number", y), ("what", x)])) (.sh (.list [.str "what", .str "number"])) (.sh (.list [x, y])))) (δa := stA b p P [x, y, z] 2 (.tuple [objD "BadNumber" [("number", y), ("what", x)], .list [.str "what", .str "number"]]) (.sh (objD "BadNumber" [("number", y), ("what", x)])) (.sh (.list [.str "what", .str "number"])) c7) (by kernel_rfl) (by kernel_rfl) (by kernel_rfl) rfl rfl rfl (fld2 x y z) hR (by kernel_rfl)
theorem fld3 (x y z : PyData) : F__law_fields [objD "BadRow" [("row", y), ("what", x)], .list [.str "what", .str "row"]] = some (.val (.list [x, y])) := by kernel_rfl
theorem lap3 (x y z : PyData) (hR : Rp [x, y]) (c5 c6 c7 : C) : lapB (stA b p P [x, y, z] 3 (.tuple [objD "BadRow" [("row", y), ("what", x)], .list [.str "what", .str "row"]]) c5 c6 c7) = some (.ok .nx (stA b p P [x, y, z] 3 (.tuple [objD "BadRow" [("row", y), ("what", x)], .list [.str "what", .str "row"]]) (.sh (objD "BadRow" [("row", y), ("what", x)])) (.sh (.list [.str "what", .str "row"])) (.sh (.list [x, y])))) :=
  lap_of (δ1 := (stA b p P [x, y, z] 3 (.tuple [objD "BadRow" [("row", y), ("what", x)], .list [.str "what", .str "row"]]) (.sh (objD "BadRow" [("row", y), ("what", x)])) (.sh (.list [.str "what", .str "row"])) (.sh (.list [x, y])))) (δa := stA b p P [x, y, z] 3 (.tuple [objD "BadRow" [("row", y), ("what", x)], .list [.str "what", .str "row"]]) (.sh (objD "BadRow" [("row", y), ("what", x)])) (.sh (.list [.str "what", .str "row"])) c7) (by kernel_rfl) (by kernel_rfl) (by kernel_rfl) rfl rfl rfl (fld3 x y z) hR (by kernel_rfl)
theorem fld4 (x y z : PyData) : F__law_fields [objD "NoName" [("name", x)], .list [.str "name"]] = some (.val (.list [x])) := by kernel_rfl
theorem lap4 (x y z : PyData) (hR : Rp [x]) (c5 c6 c7 : C) : lapB (stA b p P [x, y, z] 4 (.tuple [objD "NoName" [("name", x)], .list [.str "name"]]) c5 c6 c7) = some (.ok .nx (stA b p P [x, y, z] 4 (.tuple [objD "NoName" [("name", x)], .list [.str "name"]]) (.sh (objD "NoName" [("name", x)])) (.sh (.list [.str "name"])) (.sh (.list [x])))) :=
  lap_of (δ1 := (stA b p P [x, y, z] 4 (.tuple [objD "NoName" [("name", x)], .list [.str "name"]]) (.sh (objD "NoName" [("name", x)])) (.sh (.list [.str "name"])) (.sh (.list [x])))) (δa := stA b p P [x, y, z] 4 (.tuple [objD "NoName" [("name", x)], .list [.str "name"]]) (.sh (objD "NoName" [("name", x)])) (.sh (.list [.str "name"])) c7) (by kernel_rfl) (by kernel_rfl) (by kernel_rfl) rfl rfl rfl (fld4 x y z) hR (by kernel_rfl)
theorem fld5 (x y z : PyData) : F__law_fields [objD "TakenName" [("name", x)], .list [.str "name"]] = some (.val (.list [x])) := by kernel_rfl
theorem lap5 (x y z : PyData) (hR : Rp [x]) (c5 c6 c7 : C) : lapB (stA b p P [x, y, z] 5 (.tuple [objD "TakenName" [("name", x)], .list [.str "name"]]) c5 c6 c7) = some (.ok .nx (stA b p P [x, y, z] 5 (.tuple [objD "TakenName" [("name", x)], .list [.str "name"]]) (.sh (objD "TakenName" [("name", x)])) (.sh (.list [.str "name"])) (.sh (.list [x])))) :=
  lap_of (δ1 := (stA b p P [x, y, z] 5 (.tuple [objD "TakenName" [("name", x)], .list [.str "name"]]) (.sh (objD "TakenName" [("name", x)])) (.sh (.list [.str "name"])) (.sh (.list [x])))) (δa := stA b p P [x, y, z] 5 (.tuple [objD "TakenName" [("name", x)], .list [.str "name"]]) (.sh (objD "TakenName" [("name", x)])) (.sh (.list [.str "name"])) c7) (by kernel_rfl) (by kernel_rfl) (by kernel_rfl) rfl rfl rfl (fld5 x y z) hR (by kernel_rfl)
theorem fld6 (x y z : PyData) : F__law_fields [objD "Unlike" [("what", x)], .list [.str "what"]] = some (.val (.list [x])) := by kernel_rfl
theorem lap6 (x y z : PyData) (hR : Rp [x]) (c5 c6 c7 : C) : lapB (stA b p P [x, y, z] 6 (.tuple [objD "Unlike" [("what", x)], .list [.str "what"]]) c5 c6 c7) = some (.ok .nx (stA b p P [x, y, z] 6 (.tuple [objD "Unlike" [("what", x)], .list [.str "what"]]) (.sh (objD "Unlike" [("what", x)])) (.sh (.list [.str "what"])) (.sh (.list [x])))) :=
  lap_of (δ1 := (stA b p P [x, y, z] 6 (.tuple [objD "Unlike" [("what", x)], .list [.str "what"]]) (.sh (objD "Unlike" [("what", x)])) (.sh (.list [.str "what"])) (.sh (.list [x])))) (δa := stA b p P [x, y, z] 6 (.tuple [objD "Unlike" [("what", x)], .list [.str "what"]]) (.sh (objD "Unlike" [("what", x)])) (.sh (.list [.str "what"])) c7) (by kernel_rfl) (by kernel_rfl) (by kernel_rfl) rfl rfl rfl (fld6 x y z) hR (by kernel_rfl)
theorem fld7 (x y z : PyData) : F__law_fields [objD "NotThere" [("what", x)], .list [.str "what"]] = some (.val (.list [x])) := by kernel_rfl
theorem lap7 (x y z : PyData) (hR : Rp [x]) (c5 c6 c7 : C) : lapB (stA b p P [x, y, z] 7 (.tuple [objD "NotThere" [("what", x)], .list [.str "what"]]) c5 c6 c7) = some (.ok .nx (stA b p P [x, y, z] 7 (.tuple [objD "NotThere" [("what", x)], .list [.str "what"]]) (.sh (objD "NotThere" [("what", x)])) (.sh (.list [.str "what"])) (.sh (.list [x])))) :=
  lap_of (δ1 := (stA b p P [x, y, z] 7 (.tuple [objD "NotThere" [("what", x)], .list [.str "what"]]) (.sh (objD "NotThere" [("what", x)])) (.sh (.list [.str "what"])) (.sh (.list [x])))) (δa := stA b p P [x, y, z] 7 (.tuple [objD "NotThere" [("what", x)], .list [.str "what"]]) (.sh (objD "NotThere" [("what", x)])) (.sh (.list [.str "what"])) c7) (by kernel_rfl) (by kernel_rfl) (by kernel_rfl) rfl rfl rfl (fld7 x y z) hR (by kernel_rfl)
theorem fld8 (x y z : PyData) : F__law_fields [objD "TooMany" [("limit", z), ("many", y), ("what", x)], .list [.str "what", .str "many", .str "limit"]] = some (.val (.list [x, y, z])) := by kernel_rfl
theorem lap8 (x y z : PyData) (hR : Rp [x, y, z]) (c5 c6 c7 : C) : lapB (stA b p P [x, y, z] 8 (.tuple [objD "TooMany" [("limit", z), ("many", y), ("what", x)], .list [.str "what", .str "many", .str "limit"]]) c5 c6 c7) = some (.ok .nx (stA b p P [x, y, z] 8 (.tuple [objD "TooMany" [("limit", z), ("many", y), ("what", x)], .list [.str "what", .str "many", .str "limit"]]) (.sh (objD "TooMany" [("limit", z), ("many", y), ("what", x)])) (.sh (.list [.str "what", .str "many", .str "limit"])) (.sh (.list [x, y, z])))) :=
  lap_of (δ1 := (stA b p P [x, y, z] 8 (.tuple [objD "TooMany" [("limit", z), ("many", y), ("what", x)], .list [.str "what", .str "many", .str "limit"]]) (.sh (objD "TooMany" [("limit", z), ("many", y), ("what", x)])) (.sh (.list [.str "what", .str "many", .str "limit"])) (.sh (.list [x, y, z])))) (δa := stA b p P [x, y, z] 8 (.tuple [objD "TooMany" [("limit", z), ("many", y), ("what", x)], .list [.str "what", .str "many", .str "limit"]]) (.sh (objD "TooMany" [("limit", z), ("many", y), ("what", x)])) (.sh (.list [.str "what", .str "many", .str "limit"])) c7) (by kernel_rfl) (by kernel_rfl) (by kernel_rfl) rfl rfl rfl (fld8 x y z) hR (by kernel_rfl)
theorem fld9 (x y z : PyData) : F__law_fields [objD "Misread" [("column", y), ("line", x)], .list [.str "line", .str "column"]] = some (.val (.list [x, y])) := by kernel_rfl
theorem lap9 (x y z : PyData) (hR : Rp [x, y]) (c5 c6 c7 : C) : lapB (stA b p P [x, y, z] 9 (.tuple [objD "Misread" [("column", y), ("line", x)], .list [.str "line", .str "column"]]) c5 c6 c7) = some (.ok .nx (stA b p P [x, y, z] 9 (.tuple [objD "Misread" [("column", y), ("line", x)], .list [.str "line", .str "column"]]) (.sh (objD "Misread" [("column", y), ("line", x)])) (.sh (.list [.str "line", .str "column"])) (.sh (.list [x, y])))) :=
  lap_of (δ1 := (stA b p P [x, y, z] 9 (.tuple [objD "Misread" [("column", y), ("line", x)], .list [.str "line", .str "column"]]) (.sh (objD "Misread" [("column", y), ("line", x)])) (.sh (.list [.str "line", .str "column"])) (.sh (.list [x, y])))) (δa := stA b p P [x, y, z] 9 (.tuple [objD "Misread" [("column", y), ("line", x)], .list [.str "line", .str "column"]]) (.sh (objD "Misread" [("column", y), ("line", x)])) (.sh (.list [.str "line", .str "column"])) c7) (by kernel_rfl) (by kernel_rfl) (by kernel_rfl) rfl rfl rfl (fld9 x y z) hR (by kernel_rfl)
theorem fld10 (x y z : PyData) : F__law_fields [objD "Misplaced" [("name", x), ("why", z), ("column", y), ("line", x)], .list [.str "line", .str "column", .str "why", .str "name"]] = some (.val (.list [x, y, z, x])) := by kernel_rfl
theorem lap10 (x y z : PyData) (hR : Rp [x, y, z, x]) (c5 c6 c7 : C) : lapB (stA b p P [x, y, z] 10 (.tuple [objD "Misplaced" [("name", x), ("why", z), ("column", y), ("line", x)], .list [.str "line", .str "column", .str "why", .str "name"]]) c5 c6 c7) = some (.ok .nx (stA b p P [x, y, z] 10 (.tuple [objD "Misplaced" [("name", x), ("why", z), ("column", y), ("line", x)], .list [.str "line", .str "column", .str "why", .str "name"]]) (.sh (objD "Misplaced" [("name", x), ("why", z), ("column", y), ("line", x)])) (.sh (.list [.str "line", .str "column", .str "why", .str "name"])) (.sh (.list [x, y, z, x])))) :=
  lap_of (δ1 := (stA b p P [x, y, z] 10 (.tuple [objD "Misplaced" [("name", x), ("why", z), ("column", y), ("line", x)], .list [.str "line", .str "column", .str "why", .str "name"]]) (.sh (objD "Misplaced" [("name", x), ("why", z), ("column", y), ("line", x)])) (.sh (.list [.str "line", .str "column", .str "why", .str "name"])) (.sh (.list [x, y, z, x])))) (δa := stA b p P [x, y, z] 10 (.tuple [objD "Misplaced" [("name", x), ("why", z), ("column", y), ("line", x)], .list [.str "line", .str "column", .str "why", .str "name"]]) (.sh (objD "Misplaced" [("name", x), ("why", z), ("column", y), ("line", x)])) (.sh (.list [.str "line", .str "column", .str "why", .str "name"])) c7) (by kernel_rfl) (by kernel_rfl) (by kernel_rfl) rfl rfl rfl (fld10 x y z) hR (by kernel_rfl)
theorem fld11 (x y z : PyData) : F__law_fields [objD "NotKept" [("witness", y), ("promise", x)], .list [.str "promise", .str "witness"]] = some (.val (.list [x, y])) := by kernel_rfl
theorem lap11 (x y z : PyData) (hR : Rp [x, y]) (c5 c6 c7 : C) : lapB (stA b p P [x, y, z] 11 (.tuple [objD "NotKept" [("witness", y), ("promise", x)], .list [.str "promise", .str "witness"]]) c5 c6 c7) = some (.ok .nx (stA b p P [x, y, z] 11 (.tuple [objD "NotKept" [("witness", y), ("promise", x)], .list [.str "promise", .str "witness"]]) (.sh (objD "NotKept" [("witness", y), ("promise", x)])) (.sh (.list [.str "promise", .str "witness"])) (.sh (.list [x, y])))) :=
  lap_of (δ1 := (stA b p P [x, y, z] 11 (.tuple [objD "NotKept" [("witness", y), ("promise", x)], .list [.str "promise", .str "witness"]]) (.sh (objD "NotKept" [("witness", y), ("promise", x)])) (.sh (.list [.str "promise", .str "witness"])) (.sh (.list [x, y])))) (δa := stA b p P [x, y, z] 11 (.tuple [objD "NotKept" [("witness", y), ("promise", x)], .list [.str "promise", .str "witness"]]) (.sh (objD "NotKept" [("witness", y), ("promise", x)])) (.sh (.list [.str "promise", .str "witness"])) c7) (by kernel_rfl) (by kernel_rfl) (by kernel_rfl) rfl rfl rfl (fld11 x y z) hR (by kernel_rfl)
theorem fld12 (x y z : PyData) : F__law_fields [objD "NothingToUndo" [], .list []] = some (.val (.list [])) := by kernel_rfl
theorem lap12 (x y z : PyData) (hR : Rp []) (c5 c6 c7 : C) : lapB (stA b p P [x, y, z] 12 (.tuple [objD "NothingToUndo" [], .list []]) c5 c6 c7) = some (.ok .nx (stA b p P [x, y, z] 12 (.tuple [objD "NothingToUndo" [], .list []]) (.sh (objD "NothingToUndo" [])) (.sh (.list [])) (.sh (.list [])))) :=
  lap_of (δ1 := (stA b p P [x, y, z] 12 (.tuple [objD "NothingToUndo" [], .list []]) (.sh (objD "NothingToUndo" [])) (.sh (.list [])) (.sh (.list [])))) (δa := stA b p P [x, y, z] 12 (.tuple [objD "NothingToUndo" [], .list []]) (.sh (objD "NothingToUndo" [])) (.sh (.list [])) c7) (by kernel_rfl) (by kernel_rfl) (by kernel_rfl) rfl rfl rfl (fld12 x y z) hR (by kernel_rfl)
theorem fld13 (x y z : PyData) : F__law_fields [objD "NothingToRedo" [], .list []] = some (.val (.list [])) := by kernel_rfl
theorem lap13 (x y z : PyData) (hR : Rp []) (c5 c6 c7 : C) : lapB (stA b p P [x, y, z] 13 (.tuple [objD "NothingToRedo" [], .list []]) c5 c6 c7) = some (.ok .nx (stA b p P [x, y, z] 13 (.tuple [objD "NothingToRedo" [], .list []]) (.sh (objD "NothingToRedo" [])) (.sh (.list [])) (.sh (.list [])))) :=
  lap_of (δ1 := (stA b p P [x, y, z] 13 (.tuple [objD "NothingToRedo" [], .list []]) (.sh (objD "NothingToRedo" [])) (.sh (.list [])) (.sh (.list [])))) (δa := stA b p P [x, y, z] 13 (.tuple [objD "NothingToRedo" [], .list []]) (.sh (objD "NothingToRedo" [])) (.sh (.list [])) c7) (by kernel_rfl) (by kernel_rfl) (by kernel_rfl) rfl rfl rfl (fld13 x y z) hR (by kernel_rfl)
end
def All (x y z : PyData) : List PyData := [(.tuple [objD "BadText" [("word", y), ("line", x)], .list [.str "line", .str "word"]]),
  (.tuple [objD "BadName" [("name", x)], .list [.str "name"]]),
  (.tuple [objD "BadNumber" [("number", y), ("what", x)], .list [.str "what", .str "number"]]),
  (.tuple [objD "BadRow" [("row", y), ("what", x)], .list [.str "what", .str "row"]]),
  (.tuple [objD "NoName" [("name", x)], .list [.str "name"]]),
  (.tuple [objD "TakenName" [("name", x)], .list [.str "name"]]),
  (.tuple [objD "Unlike" [("what", x)], .list [.str "what"]]),
  (.tuple [objD "NotThere" [("what", x)], .list [.str "what"]]),
  (.tuple [objD "TooMany" [("limit", z), ("many", y), ("what", x)], .list [.str "what", .str "many", .str "limit"]]),
  (.tuple [objD "Misread" [("column", y), ("line", x)], .list [.str "line", .str "column"]]),
  (.tuple [objD "Misplaced" [("name", x), ("why", z), ("column", y), ("line", x)], .list [.str "line", .str "column", .str "why", .str "name"]]),
  (.tuple [objD "NotKept" [("witness", y), ("promise", x)], .list [.str "promise", .str "witness"]]),
  (.tuple [objD "NothingToUndo" [], .list []]),
  (.tuple [objD "NothingToRedo" [], .list []])]
theorem enum_is (x y z : PyData) : enumA [.list (All x y z)] = some [.tuple [.int 0, (.tuple [objD "BadText" [("word", y), ("line", x)], .list [.str "line", .str "word"]])],
  .tuple [.int 1, (.tuple [objD "BadName" [("name", x)], .list [.str "name"]])],
  .tuple [.int 2, (.tuple [objD "BadNumber" [("number", y), ("what", x)], .list [.str "what", .str "number"]])],
  .tuple [.int 3, (.tuple [objD "BadRow" [("row", y), ("what", x)], .list [.str "what", .str "row"]])],
  .tuple [.int 4, (.tuple [objD "NoName" [("name", x)], .list [.str "name"]])],
  .tuple [.int 5, (.tuple [objD "TakenName" [("name", x)], .list [.str "name"]])],
  .tuple [.int 6, (.tuple [objD "Unlike" [("what", x)], .list [.str "what"]])],
  .tuple [.int 7, (.tuple [objD "NotThere" [("what", x)], .list [.str "what"]])],
  .tuple [.int 8, (.tuple [objD "TooMany" [("limit", z), ("many", y), ("what", x)], .list [.str "what", .str "many", .str "limit"]])],
  .tuple [.int 9, (.tuple [objD "Misread" [("column", y), ("line", x)], .list [.str "line", .str "column"]])],
  .tuple [.int 10, (.tuple [objD "Misplaced" [("name", x), ("why", z), ("column", y), ("line", x)], .list [.str "line", .str "column", .str "why", .str "name"]])],
  .tuple [.int 11, (.tuple [objD "NotKept" [("witness", y), ("promise", x)], .list [.str "promise", .str "witness"]])],
  .tuple [.int 12, (.tuple [objD "NothingToUndo" [], .list []])],
  .tuple [.int 13, (.tuple [objD "NothingToRedo" [], .list []])]] := by kernel_rfl
theorem loop_is {b : C} {p : Addr} {P : Pen} {x y z : PyData} (h1 : Rp [x, y]) (h0 : Rp [x]) (h3 : Rp [x, y, z]) (h4 : Rp [x, y, z, x]) (hn : Rp []) : forL (.tp [(.nm 3), (.nm 4)]) lapB [.tuple [.int 0, (.tuple [objD "BadText" [("word", y), ("line", x)], .list [.str "line", .str "word"]])],
  .tuple [.int 1, (.tuple [objD "BadName" [("name", x)], .list [.str "name"]])],
  .tuple [.int 2, (.tuple [objD "BadNumber" [("number", y), ("what", x)], .list [.str "what", .str "number"]])],
  .tuple [.int 3, (.tuple [objD "BadRow" [("row", y), ("what", x)], .list [.str "what", .str "row"]])],
  .tuple [.int 4, (.tuple [objD "NoName" [("name", x)], .list [.str "name"]])],
  .tuple [.int 5, (.tuple [objD "TakenName" [("name", x)], .list [.str "name"]])],
  .tuple [.int 6, (.tuple [objD "Unlike" [("what", x)], .list [.str "what"]])],
  .tuple [.int 7, (.tuple [objD "NotThere" [("what", x)], .list [.str "what"]])],
  .tuple [.int 8, (.tuple [objD "TooMany" [("limit", z), ("many", y), ("what", x)], .list [.str "what", .str "many", .str "limit"]])],
  .tuple [.int 9, (.tuple [objD "Misread" [("column", y), ("line", x)], .list [.str "line", .str "column"]])],
  .tuple [.int 10, (.tuple [objD "Misplaced" [("name", x), ("why", z), ("column", y), ("line", x)], .list [.str "line", .str "column", .str "why", .str "name"]])],
  .tuple [.int 11, (.tuple [objD "NotKept" [("witness", y), ("promise", x)], .list [.str "promise", .str "witness"]])],
  .tuple [.int 12, (.tuple [objD "NothingToUndo" [], .list []])],
  .tuple [.int 13, (.tuple [objD "NothingToRedo" [], .list []])]] [b, .pen p P, .sh (.list [x, y, z]), .un, .un, .un, .un, .un, .un, .un, .un, .un, .un] =
    some (.ok .nx (stA b p P [x, y, z] 13 (.tuple [objD "NothingToRedo" [], .list []]) (.sh (objD "NothingToRedo" [])) (.sh (.list [])) (.sh (.list [])))) := by
  refine lap_step (by rfl) (lap0 x y z h1 _ _ _) ?_
  refine lap_step (by rfl) (lap1 x y z h0 _ _ _) ?_
  refine lap_step (by rfl) (lap2 x y z h1 _ _ _) ?_
  refine lap_step (by rfl) (lap3 x y z h1 _ _ _) ?_
  refine lap_step (by rfl) (lap4 x y z h0 _ _ _) ?_
  refine lap_step (by rfl) (lap5 x y z h0 _ _ _) ?_
  refine lap_step (by rfl) (lap6 x y z h0 _ _ _) ?_
  refine lap_step (by rfl) (lap7 x y z h0 _ _ _) ?_
  refine lap_step (by rfl) (lap8 x y z h3 _ _ _) ?_
  refine lap_step (by rfl) (lap9 x y z h1 _ _ _) ?_
  refine lap_step (by rfl) (lap10 x y z h4 _ _ _) ?_
  refine lap_step (by rfl) (lap11 x y z h1 _ _ _) ?_
  refine lap_step (by rfl) (lap12 x y z hn _ _ _) ?_
  refine lap_step (by rfl) (lap13 x y z hn _ _ _) ?_
  rfl
end K01

set_option maxRecDepth 100000
set_option maxHeartbeats 4000000
/-! MD01: the whole law of k01, reckoned. -/
namespace K01
open PySem PySem.Spec PyProof.Rows L2 RZ DL
variable [CC : DL.ClsCtx] [XC : DL.XcCtx]
theorem value_is {p : Addr} {P : Pen} {n : Int} (h : PenOk n P) (hn : n < 2 ^ 40) : ∃ x P', F__law_value p P [] = some (x, P') ∧ x ∈ vals ∧ PenOk (n + 1) P' := by
  obtain ⟨x, P', e, hx, ok⟩ := pick_is (p := p) (xs := vals) h hn (by decide) (by decide)
  refine ⟨x, P', ?_, hx, ok⟩
  unfold F__law_value fnBP
  rw [if_pos (by rfl)]
  have run : m__law_value [.pen p P] = some (.ok (.rt x) [.pen p P']) := by
    unfold m__law_value
    refine rt_of (callP_of (p := p) (P := P) (P' := P') (ds := [.list vals]) (δ1 := [.pen p P]) rfl ?_ rfl rfl e rfl)
    kernel_rfl
  have e0 : startD 1 (C.pen p P :: List.map C.sh []) = [.pen p P] := rfl
  rw [e0, run]
  simp [penOut]
def lawStart (ns : List Int) (p : Addr) : Sl := [.sh (.list (ns.map .int)), .pen p (pen0 ns), .un, .un, .un, .un, .un, .un, .un, .un, .un, .un, .un]
def LawMath : Prop := ∀ (ns : List Int) (p : Addr), ns.length ≤ 63 → ∃ δ', m_law m_end (lawStart ns p) = some (.ok (.rt (.bool true)) δ')
theorem end_is (b : List PyData) (p : Addr) (P : Pen) (x y z : PyData) : m_end (stA (.sh (.list b)) p P [x, y, z] 13 (.tuple [objD "NothingToRedo" [], .list []]) (.sh (objD "NothingToRedo" [])) (.sh (.list [])) (.sh (.list []))) =
    some (.ok (.rt (.bool true)) [.sh (.list b), .pen p P, .sh (.list [x, y, z]), .sh (.int 13), .sh (.tuple [objD "NothingToRedo" [], .list []]), .sh (objD "NothingToRedo" []), .sh (.list []), .sh (.list []), .sh (.list [.int 1, .list [.int 2], .int 3]), .sh (objD "BadRow" [("row", .list [.int 1, .list [.int 2], .int 3]), ("what", .str "x")]), .sh (.list [.bool true]), .un, .un]) := by kernel_rfl
theorem items_is (b : C) (p : Addr) (P : Pen) (x y z : PyData) : enM (consM (opM addD (callM 3 F__law_made_errors (consM (opM ixD (varM 2) (DL.ret (.int 0))) (consM (opM ixD (varM 2) (DL.ret (.int 1))) (consM (opM ixD (varM 2) (DL.ret (.int 2))) (DL.ret []))))) (lstM (consM (tupM (consM (DL.ret (objD "NothingToUndo" [])) (consM (lstM (DL.ret [])) (DL.ret [])))) (consM (tupM (consM (DL.ret (objD "NothingToRedo" [])) (consM (lstM (DL.ret [])) (DL.ret [])))) (DL.ret []))))) (DL.ret []))
    [b, .pen p P, .sh (.list [x, y, z]), .un, .un, .un, .un, .un, .un, .un, .un, .un, .un] = some (.ok [.tuple [.int 0, (.tuple [objD "BadText" [("word", y), ("line", x)], .list [.str "line", .str "word"]])],
  .tuple [.int 1, (.tuple [objD "BadName" [("name", x)], .list [.str "name"]])],
  .tuple [.int 2, (.tuple [objD "BadNumber" [("number", y), ("what", x)], .list [.str "what", .str "number"]])],
  .tuple [.int 3, (.tuple [objD "BadRow" [("row", y), ("what", x)], .list [.str "what", .str "row"]])],
  .tuple [.int 4, (.tuple [objD "NoName" [("name", x)], .list [.str "name"]])],
  .tuple [.int 5, (.tuple [objD "TakenName" [("name", x)], .list [.str "name"]])],
  .tuple [.int 6, (.tuple [objD "Unlike" [("what", x)], .list [.str "what"]])],
  .tuple [.int 7, (.tuple [objD "NotThere" [("what", x)], .list [.str "what"]])],
  .tuple [.int 8, (.tuple [objD "TooMany" [("limit", z), ("many", y), ("what", x)], .list [.str "what", .str "many", .str "limit"]])],
  .tuple [.int 9, (.tuple [objD "Misread" [("column", y), ("line", x)], .list [.str "line", .str "column"]])],
  .tuple [.int 10, (.tuple [objD "Misplaced" [("name", x), ("why", z), ("column", y), ("line", x)], .list [.str "line", .str "column", .str "why", .str "name"]])],
  .tuple [.int 11, (.tuple [objD "NotKept" [("witness", y), ("promise", x)], .list [.str "promise", .str "witness"]])],
  .tuple [.int 12, (.tuple [objD "NothingToUndo" [], .list []])],
  .tuple [.int 13, (.tuple [objD "NothingToRedo" [], .list []])]] [b, .pen p P, .sh (.list [x, y, z]), .un, .un, .un, .un, .un, .un, .un, .un, .un, .un]) := by kernel_rfl
theorem law_math : LawMath := by
  intro ns p hns
  obtain ⟨x, P1, e1, hx, ok1⟩ := value_is (p := p) (pen0_ok ns) (by decide)
  obtain ⟨y, P2, e2, hy, ok2⟩ := value_is (p := p) ok1 (by decide)
  obtain ⟨z, P3, e3, hz, ok3⟩ := value_is (p := p) ok2 (by decide)
  let b : C := .sh (.list (ns.map .int))
  have s1 : setM 2 (lstM (consM (callPM 1 0 F__law_value (DL.ret [])) (consM (callPM 1 0 F__law_value (DL.ret [])) (consM (callPM 1 0 F__law_value (DL.ret [])) (DL.ret []))))) (lawStart ns p) = some (.ok .nx [b, .pen p P3, .sh (.list [x, y, z]), .un, .un, .un, .un, .un, .un, .un, .un, .un, .un]) := by
    refine set_to (δ1 := [b, .pen p P3, .un, .un, .un, .un, .un, .un, .un, .un, .un, .un, .un]) (x := .list [x, y, z]) ?_ (by simp) rfl
    have c1 : callPM 1 0 F__law_value (DL.ret []) (lawStart ns p) = some (.ok x [b, .pen p P1, .un, .un, .un, .un, .un, .un, .un, .un, .un, .un, .un]) := callP_of (p := p) (ds := []) rfl ret_of rfl rfl e1 rfl
    have c2 : callPM 1 0 F__law_value (DL.ret []) [b, .pen p P1, .un, .un, .un, .un, .un, .un, .un, .un, .un, .un, .un] = some (.ok y [b, .pen p P2, .un, .un, .un, .un, .un, .un, .un, .un, .un, .un, .un]) := callP_of (p := p) (ds := []) rfl ret_of rfl rfl e2 rfl
    have c3 : callPM 1 0 F__law_value (DL.ret []) [b, .pen p P2, .un, .un, .un, .un, .un, .un, .un, .un, .un, .un, .un] = some (.ok z [b, .pen p P3, .un, .un, .un, .un, .un, .un, .un, .un, .un, .un, .un]) := callP_of (p := p) (ds := []) rfl ret_of rfl rfl e3 rfl
    show bnd _ _ _ = _
    rw [bnd_of (cons_of c1 (cons_of c2 (one_of c3)))]
    rfl
  have g : ∀ l : List PyData, (∀ v ∈ l, v ∈ vals) → l.length ≤ 9 → Rp l := fun l h hl => rp_of (fun v hv => vals_good v (h v hv)) hl
  have e4 := loop_is (b := b) (p := p) (P := P3) (x := x) (y := y) (z := z) (g _ (by simp [hx, hy]) (by simp)) (g _ (by simp [hx]) (by simp)) (g _ (by simp [hx, hy, hz]) (by simp)) (g _ (by simp [hx, hy, hz]) (by simp)) (g _ (by simp) (by simp))
  exact ⟨_, (seq_nx s1).trans ((seq_nx ((for_of (items_is b p P3 x y z)).trans e4)).trans (end_is (ns.map .int) p P3 x y z))⟩
where
  for_of {mi : M (List PyData)} {t : Tgt} {mb : M Ctl} {δ δ1 : Sl} {ds : List PyData} (h : mi δ = some (.ok ds δ1)) : forM mi t mb δ = forL t mb ds δ1 := by
    show bnd _ _ _ = _
    rw [bnd_of h]
end K01

set_option maxRecDepth 100000
set_option maxHeartbeats 4000000
/-! E01: the law's run, the facts of the classes. -/
namespace K01
open PySem PySem.Spec PyProof.Rows L2 RZ DL LamX
def clsOf (tab : List (Str × Addr)) : Str → Option Addr := fun n => tab.lookup n
theorem lookup_mem {n : Str} {C : Addr} : ∀ {tab : List (Str × Addr)}, tab.lookup n = some C → (n, C) ∈ tab
  | [], h => by cases h
  | (m, D) :: r, h => by
    rw [List.lookup_cons] at h
    cases q : n == m with
    | true =>
      rw [q] at h
      cases h
      have : n = m := by simpa using q
      subst this
      exact List.mem_cons_self
    | false =>
      rw [q] at h
      exact List.mem_cons_of_mem _ (lookup_mem h)
/-- a class's object, its bases -/
structure ClsL (K : PySem.W.Frag) (C : Addr) (bm : List Value) : Prop where
  ex : ∃ nm q N bs sn sub ab col dd k0 k1 k2 k3 k5, K.lookup C = some (excClassObj nm q C N bs bm true sn sub ab col dd k0 k1 k2 k3 k5 "ValueError.__new__")
theorem ClsL.of {K : PySem.W.Frag} {C : Addr} {bm : List Value} {nm q : Str} {N : Addr} {bs : List Value} {sn : List Str} {sub : List Value} {ab : Bool} {col : Option Bool} {dd : Option Addr} {k0 k1 k2 k3 k5 : Option Value} (h : K.lookup C = some (excClassObj nm q C N bs bm true sn sub ab col dd k0 k1 k2 k3 k5 "ValueError.__new__")) : ClsL K C bm := ⟨⟨_, _, _, _, _, _, _, _, _, _, _, _, _, _, h⟩⟩
theorem ClsL.mro {K : PySem.W.Frag} {C : Addr} {bm : List Value} (h : ClsL K C bm) (base : Value) : PySem.W.mroIn K C base = some ((Value.ref C :: bm).contains base) := by
  obtain ⟨nm, q, N, bs, sn, sub, ab, col, dd, k0, k1, k2, k3, k5, e⟩ := h.ex
  unfold PySem.W.mroIn PySem.W.clsIn
  rw [e]
  rfl
theorem ClsL.ic {K : PySem.W.Frag} {C : Addr} {bm : List Value} (h : ClsL K C bm) : PySem.W.isClsIn K C = true := by
  obtain ⟨nm, q, N, bs, sn, sub, ab, col, dd, k0, k1, k2, k3, k5, e⟩ := h.ex
  unfold PySem.W.isClsIn PySem.W.clsIn
  rw [e]
  rfl
/-- what the library says of a class's kind -/
structure ClsK (K : PySem.W.Frag) (C : Addr) (bm : List Value) (l : List Str) : Prop where
  L : ClsL K C bm
  ga : PySem.W.findIn K (.ref C) "__getattribute__" = some (some (.builtin "BaseException.__getattribute__"))
  gg : PySem.W.findIn K (.ref C) "__getattr__" = some none
  hd : PySem.W.hasDictIn K C = true
  ca : PySem.W.findIn K (.ref C) "__class__" = some (some (.builtin "object.__class__"))
  ty : PySem.W.typeIn K (.ref C) = some (.type "type")
  nf : ∀ f ∈ l, PySem.W.findIn K (.ref C) f = some none
structure Glb (K : PySem.W.Frag) (bm : List Value) : Prop where
  cg : PySem.W.specialIn K (.builtin "object.__class__") "__get__" = some (some (.builtin "getset_descriptor.__get__"))
  ct : PySem.W.takesIn K (.builtin "object.__class__") = some true
  bo : ∀ C : Addr, (Value.ref C :: bm).contains (.type "object") = true
  bb : ∀ C : Addr, (Value.ref C :: bm).contains (.type "BaseException") = true
  bv : ∀ C : Addr, (Value.ref C :: bm).contains (.type "ValueError") = true
theorem ClsK.xo [CC : DL.ClsCtx] {K : PySem.W.Frag} {C : Addr} {bm : List Value} {l : List Str} {n : Str} (h : ClsK K C bm l) (G : Glb K bm) (hc : CC.cls n = some C) : XoF K C n l :=
  ⟨hc, ⟨h.ga, h.gg, (h.L.mro _).trans (congrArg some (G.bb C)), h.hd⟩, h.L.ic, h.ca, G.cg, G.ct, (h.L.mro _).trans (congrArg some (G.bo C)), h.nf⟩
theorem kit_own {K : PySem.W.Frag} {C D : Addr} {bm : List Value} (hC : ClsL K C bm) (iD : PySem.W.isClsIn K D = true) (tD : PySem.W.typeIn K (.ref D) = some (.type "type")) : PySem.W.kitOne K (.ref C) (.ref D) = some ((Value.ref C :: bm).contains (.ref D)) := by
  unfold PySem.W.kitOne
  split
  · rename_i h
    have e : C = D := by simpa using h
    subst e
    simp
  · show (if ((PySem.W.clsIn K D).isSome && PySem.W.typeIn K (.ref D) == some (.type "type")) = true then PySem.W.subIn K (.ref C) (.ref D) else none) = _
    rw [if_pos (by rw [show (PySem.W.clsIn K D).isSome = true from iD, tD]; rfl)]
    exact hC.mro _
theorem kit_VE {K : PySem.W.Frag} {C : Addr} {bm : List Value} (hC : ClsL K C bm) (G : Glb K bm) : PySem.W.kitOne K (.ref C) (.type "ValueError") = some true := by
  have e : PySem.W.kitOne K (.ref C) (.type "ValueError") = PySem.W.kitCls K (.ref C) (.type "ValueError") := if_neg (by simp)
  rw [e]
  show (if PySem.W.kitMeta "ValueError" = true then PySem.W.subIn K (.ref C) (.type "ValueError") else none) = _
  rw [if_pos (by decide +kernel)]
  exact (hC.mro _).trans (congrArg some (G.bv C))
theorem exm_own {K : PySem.W.Frag} {C D : Addr} {bm : List Value} (hC : ClsL K C bm) (sD : PySem.W.subIn K (.ref D) (.type "BaseException") = some true) (iD : PySem.W.isClsIn K D = true) (tD : PySem.W.typeIn K (.ref D) = some (.type "type")) : PySem.W.exmOne K (.ref C) (.ref D) = some ((Value.ref C :: bm).contains (.ref D)) :=
  DL.exm_mk (CC := ⟨fun _ => none⟩) (XC := ⟨0, 0, 0⟩) sD iD tD (hC.mro _)
def subChk (tab : List (Str × Addr)) (DH : Addr) (bm : List Value) : Bool := tab.all fun p => (tab.all fun q => (Value.ref p.2 :: bm).contains (.ref q.2) == subOf q.1 p.1) && (Value.ref p.2 :: bm).contains (.ref DH)
/-- all that is known of the classes -/
structure Cls14 (K : PySem.W.Frag) (mg : Str → Option Value) (tab : List (Str × Addr)) (DH : Addr) (bm : List Value) : Prop where
  G : Glb K bm
  hK : ∀ p ∈ tab, ClsK K p.2 bm (flds p.1)
  hm : ∀ p ∈ tab, mg p.1 = some (.ref p.2)
  hH : mg "HouseError" = some (.ref DH)
  iH : PySem.W.isClsIn K DH = true
  tH : PySem.W.typeIn K (.ref DH) = some (.type "type")
  sH : PySem.W.subIn K (.ref DH) (.type "BaseException") = some true
  chk : subChk tab DH bm = true
section
variable [CC : DL.ClsCtx] {K : PySem.W.Frag} {mg : Str → Option Value} {tab : List (Str × Addr)} {DH : Addr} {bm : List Value} (F : Cls14 K mg tab DH bm) (hcc : CC.cls = clsOf tab)
include F hcc
theorem Cls14.mem {n : Str} {C : Addr} (h : CC.cls n = some C) : (n, C) ∈ tab := lookup_mem (by rw [hcc] at h; exact h)
theorem Cls14.xo (n : Str) (C : Addr) (h : CC.cls n = some C) : XoF K C n (flds n) := (F.hK _ (F.mem hcc h)).xo F.G h
theorem Cls14.isi {x : Str} {D : Addr} (hx : (x, D) ∈ tab) : ClsT K mg (subOf x) x :=
  ⟨⟨D, F.hm _ hx, fun n C h => by
    have hp := F.mem hcc h
    rw [kit_own (F.hK _ hp).L (F.hK _ hx).L.ic (F.hK _ hx).ty]
    have c := List.all_eq_true.mp F.chk _ hp
    rw [Bool.and_eq_true] at c
    have c2 := List.all_eq_true.mp c.1 _ hx
    have c3 : (Value.ref C :: bm).contains (.ref D) = subOf x n := by simpa using c2
    rw [c3]⟩⟩
theorem Cls14.isH : ClsT K mg (subOf "HouseError") "HouseError" :=
  ⟨⟨DH, F.hH, fun n C h => by
    have hp := F.mem hcc h
    rw [kit_own (F.hK _ hp).L F.iH F.tH]
    have c := List.all_eq_true.mp F.chk _ hp
    rw [Bool.and_eq_true] at c
    have c3 : (Value.ref C :: bm).contains (.ref DH) = true := c.2
    rw [c3]
    show _ = some (("HouseError" : Str) == n || (("HouseError" : Str) == "HouseError" || ("HouseError" : Str) == "ValueError"))
    rw [show (("HouseError" : Str) == "HouseError" || ("HouseError" : Str) == "ValueError") = true from by decide, Bool.or_true]⟩⟩
theorem Cls14.exH (n : Str) (C : Addr) (h : CC.cls n = some C) : PySem.W.exmOne K (.ref C) (.ref DH) = some (subOf "HouseError" n) := by
  have hp := F.mem hcc h
  rw [exm_own (F.hK _ hp).L F.sH F.iH F.tH]
  have c := List.all_eq_true.mp F.chk _ hp
  rw [Bool.and_eq_true] at c
  have c3 : (Value.ref C :: bm).contains (.ref DH) = true := c.2
  rw [c3]
  show _ = some (("HouseError" : Str) == n || (("HouseError" : Str) == "HouseError" || ("HouseError" : Str) == "ValueError"))
  rw [show (("HouseError" : Str) == "HouseError" || ("HouseError" : Str) == "ValueError") = true from by decide, Bool.or_true]
theorem Cls14.isVE (n : Str) (C : Addr) (h : CC.cls n = some C) : PySem.W.kitOne K (.ref C) (.type "ValueError") = some (subOf "ValueError" n) := by
  rw [kit_VE (F.hK _ (F.mem hcc h)).L F.G]
  show _ = some (("ValueError" : Str) == n || (("ValueError" : Str) == "HouseError" || ("ValueError" : Str) == "ValueError"))
  rw [show (("ValueError" : Str) == "HouseError" || ("ValueError" : Str) == "ValueError") = true from by decide, Bool.or_true]
end
abbrev veB : List Value := [.type "ValueError", .type "Exception", .type "BaseException", .type "object"]
/-- what the top has written, but for the classes' kinds -/
structure Txt0 [CC : DL.ClsCtx] (K : PySem.W.Frag) (mg : Str → Option Value) : Prop where
  n_len : mg "len" = none
  n_int : mg "int" = none
  n_isinstance : mg "isinstance" = none
  n_ValueError : mg "ValueError" = none
  n_repr : mg "repr" = none
  n_enumerate : mg "enumerate" = none
  n_range : mg "range" = none
  d__law_draw : DefT K mg "_law_draw" st__law_draw ["pen", "many"]
  d__law_pick : DefT K mg "_law_pick" st__law_pick ["pen", "some"]
  d__law_value : DefT K mg "_law_value" st__law_value ["pen"]
  d__law_fields : DefT K mg "_law_fields" st__law_fields ["one", "names"]
  d__law_made_errors : DefT K mg "_law_made_errors" st__law_made_errors ["one", "two", "three"]
  d__law_kinds : DefT K mg "_law_kinds" st__law_kinds ["one"]
  x_BadText : ExcF K mg CC.cls "BadText" E_BadText ini_BadText
  x_Misread : ExcF K mg CC.cls "Misread" E_Misread ini_Misread
  x_Misplaced : ExcF K mg CC.cls "Misplaced" E_Misplaced ini_Misplaced
  x_BadName : ExcF K mg CC.cls "BadName" E_BadName ini_BadName
  x_BadNumber : ExcF K mg CC.cls "BadNumber" E_BadNumber ini_BadNumber
  x_BadRow : ExcF K mg CC.cls "BadRow" E_BadRow ini_BadRow
  x_NoName : ExcF K mg CC.cls "NoName" E_NoName ini_NoName
  x_TakenName : ExcF K mg CC.cls "TakenName" E_TakenName ini_TakenName
  x_Unlike : ExcF K mg CC.cls "Unlike" E_Unlike ini_Unlike
  x_NotThere : ExcF K mg CC.cls "NotThere" E_NotThere ini_NotThere
  x_TooMany : ExcF K mg CC.cls "TooMany" E_TooMany ini_TooMany
  x_NotKept : ExcF K mg CC.cls "NotKept" E_NotKept ini_NotKept
section
variable [CC : DL.ClsCtx] [XC : DL.XcCtx] {K : PySem.W.Frag} {mg : Str → Option Value} {DH : Addr} {bm : List Value} {c0 c1 c2 c3 c4 c5 c6 c7 c8 c9 c10 c11 c12 c13 : Addr}
abbrev tabOf (c0 c1 c2 c3 c4 c5 c6 c7 c8 c9 c10 c11 c12 c13 : Addr) : List (Str × Addr) := [("BadText", c0), ("Misread", c1), ("Misplaced", c2), ("BadName", c3), ("BadNumber", c4), ("BadRow", c5), ("NoName", c6), ("TakenName", c7), ("Unlike", c8), ("NotThere", c9), ("TooMany", c10), ("NotKept", c11), ("NothingToUndo", c12), ("NothingToRedo", c13)]
theorem Txt0.full (T : Txt0 K mg) (F : Cls14 K mg (tabOf c0 c1 c2 c3 c4 c5 c6 c7 c8 c9 c10 c11 c12 c13) DH bm) (hcc : CC.cls = clsOf (tabOf c0 c1 c2 c3 c4 c5 c6 c7 c8 c9 c10 c11 c12 c13)) (e12 : PySem.W.excIn K c12 veB "ValueError.__new__" = true) (p12 : PySem.W.keepIn K (.ref c12) = true) (e13 : PySem.W.excIn K c13 veB "ValueError.__new__" = true) (p13 : PySem.W.keepIn K (.ref c13) = true) : Txt K mg where
  n_len := T.n_len
  n_int := T.n_int
  n_isinstance := T.n_isinstance
  n_ValueError := T.n_ValueError
  n_repr := T.n_repr
  n_enumerate := T.n_enumerate
  n_range := T.n_range
  d__law_draw := T.d__law_draw
  d__law_pick := T.d__law_pick
  d__law_value := T.d__law_value
  d__law_fields := T.d__law_fields
  d__law_made_errors := T.d__law_made_errors
  d__law_kinds := T.d__law_kinds
  x_BadText := T.x_BadText
  x_Misread := T.x_Misread
  x_Misplaced := T.x_Misplaced
  x_BadName := T.x_BadName
  x_BadNumber := T.x_BadNumber
  x_BadRow := T.x_BadRow
  x_NoName := T.x_NoName
  x_TakenName := T.x_TakenName
  x_Unlike := T.x_Unlike
  x_NotThere := T.x_NotThere
  x_TooMany := T.x_TooMany
  x_NotKept := T.x_NotKept
  o_BadText := fun C h => (F.xo hcc _ C h)
  o_Misread := fun C h => (F.xo hcc _ C h)
  o_Misplaced := fun C h => (F.xo hcc _ C h)
  o_BadName := fun C h => (F.xo hcc _ C h)
  o_BadNumber := fun C h => (F.xo hcc _ C h)
  o_BadRow := fun C h => (F.xo hcc _ C h)
  o_NoName := fun C h => (F.xo hcc _ C h)
  o_TakenName := fun C h => (F.xo hcc _ C h)
  o_Unlike := fun C h => (F.xo hcc _ C h)
  o_NotThere := fun C h => (F.xo hcc _ C h)
  o_TooMany := fun C h => (F.xo hcc _ C h)
  o_NotKept := fun C h => (F.xo hcc _ C h)
  v0_NothingToUndo := ⟨⟨c12, veB, _, _, _, F.hm ("NothingToUndo", c12) (by simp), PySem.F.excBase_ValueError, e12, p12, F.xo hcc _ c12 (by rw [hcc]; rfl)⟩⟩
  v0_NothingToRedo := ⟨⟨c13, veB, _, _, _, F.hm ("NothingToRedo", c13) (by simp), PySem.F.excBase_ValueError, e13, p13, F.xo hcc _ c13 (by rw [hcc]; rfl)⟩⟩
  i_HouseError := F.isH hcc
  i_ValueError := F.isVE hcc
  i_BadText := F.isi hcc (D := c0) (by simp)
  i_Misread := F.isi hcc (D := c1) (by simp)
  i_Misplaced := F.isi hcc (D := c2) (by simp)
  i_BadName := F.isi hcc (D := c3) (by simp)
  i_BadNumber := F.isi hcc (D := c4) (by simp)
  i_BadRow := F.isi hcc (D := c5) (by simp)
  i_NoName := F.isi hcc (D := c6) (by simp)
  i_TakenName := F.isi hcc (D := c7) (by simp)
  i_Unlike := F.isi hcc (D := c8) (by simp)
  i_NotThere := F.isi hcc (D := c9) (by simp)
  i_TooMany := F.isi hcc (D := c10) (by simp)
  i_NotKept := F.isi hcc (D := c11) (by simp)
  i_NothingToUndo := F.isi hcc (D := c12) (by simp)
  i_NothingToRedo := F.isi hcc (D := c13) (by simp)
end
end K01

set_option maxRecDepth 100000
set_option maxHeartbeats 4000000
/-! R01: the law's run. -/
namespace K01
open PySem PySem.Spec PyProof.Rows L2 RZ DL LamX
variable [CC : DL.ClsCtx] [XC : DL.XcCtx]
theorem un_slots {K : PySem.W.Frag} {F H : Hp} : ∀ (n : Nat) {σ : L2.St} {δ : Sl} {fp : List Addr}, SRep K F H σ δ fp → SRep K F H (List.replicate n none ++ σ) (List.replicate n .un ++ δ) fp
  | 0, _, _, _, h => h
  | n + 1, _, _, _, h => SRep.cons (fp := []) .un (un_slots n h)
theorem law_runs {P : Program} {w : World} {K : PySem.W.Frag} {mg : Str → Option Value} {base : Heap} {fa a cL DH : Addr} {tab : List (Str × Addr)} {bm : List Value} {oc kV doc pm ct : Value} {od an : Option Addr} {osl : Array (Option Value)} {s1 : Shared} {ns : List Int} (M : LawMath) (hns : ns.length ≤ 63) (T : Txt K mg) (F14 : Cls14 K mg tab DH bm) (hcc : CC.cls = clsOf tab)
    (tPen : DefT K mg "_law_pen" st__law_pen ["script"]) (n_list : mg "list" = none)
    (lk : K.lookup fa = some ⟨oc, od, .func (PySem.W.fnOf "law" "law" (defArgs st_law) (defBody st_law) (defScope st_law) .none kV doc pm an (.ref cL) ct), osl⟩) (hcd : PySem.W.codeIn K (.ref cL) "law" = true) :
    RunsAt P w K mg base [] fa a ns s1 := by
  intro hTB H env hTab hScr
  have room : Room 4 callerA := ⟨rfl, by decide, by decide⟩
  refine run_ofS (CX := L2.CX P w) (N := N_law) (ps := ["script"]) (us := [.ref a]) (vs := [.ref a]) lk hcd sc_law room env (.of_eq rfl) (.cons rfl .nil) rfl fun hr2 => ?_
  obtain ⟨fP, fdP, psP, GP, hmP, hkP, hbP⟩ := (cal_pen (P := P) (w := w) (base := base) tPen T.n_int n_list).ex
  refine ⟨_, pss_cons (ps_set (i := 1) sc_law.nd rfl (Or.inl rfl) (pe_callSD (E := fun _ => L2.E0) GP (hr2.mono (by decide)) rfl hmP hkP hbP .nil (fun _ => fun pins H' s e s' _ h => ?_) (by exact (pa_cons (pv 0) pa_nil))))
    (w_law (cls := CC.cls) T.n_enumerate T.n_ValueError T.n_isinstance T.n_len T.n_repr T.n_range T.v0_NothingToUndo T.v0_NothingToRedo T.i_HouseError T.i_ValueError (cal__law_value T) (cal__law_made_errors T) (cal__law_fields T) (cal__law_kinds T) hr2 rfl
      (w_end (v_BadRow T) (v_NotThere T) T.i_NotThere T.i_ValueError T.n_ValueError T.n_isinstance F14.hH (F14.exH hcc) (F14.xo hcc) hr2 rfl)), ?_⟩
  · obtain ⟨_, _, _, _, _, _, _, _, _, _, _, _, z⟩ := h
    exact z.elim
  · have hq : ∃ F : Hp, Same F H ∧ SqL K F a (ns.map V.int) := ⟨H, Same.refl _, hScr⟩
    let F : Hp := H
    refine ⟨_, rfl, rfl, H, a, ns, rfl, Same.refl _, hScr, by rw [sizeLine_eq]; omega, fun p ca F' H' g s hp hF hca => ?_⟩
    obtain ⟨δ', hm⟩ := M ns p hns
    refine ⟨F', [p], lawStart ns p, ⟨s, ?_, by simp⟩, _, hm, fun σ' fp' F2 H2 g2 E2 v rv => ?_⟩
    · exact SRep.cons (fp := []) (.sh (.lst (g.fz.seq hScr) (dpa_of_ints ns))) (SRep.cons (fp := [p]) (.pen hp hF hca) (un_slots 11 .nil))
    · cases rv
      rfl
end K01

set_option maxRecDepth 100000
set_option maxHeartbeats 4000000
/-! F01: the facts of the top, the end. -/
namespace K01
open PySem PySem.Spec PyProof.Rows L2 RZ DL LamX
abbrev CCof (c0 c1 c2 c3 c4 c5 c6 c7 c8 c9 c10 c11 c12 c13 : Addr) : DL.ClsCtx := ⟨clsOf (tabOf c0 c1 c2 c3 c4 c5 c6 c7 c8 c9 c10 c11 c12 c13)⟩
theorem final {w : World} {K : PySem.W.Frag} {mg : Str → Option Value} {h : Heap} {fa cL DH f4 c0 c1 c2 c3 c4 c5 c6 c7 c8 c9 c10 c11 c12 c13 : Addr} {bm : List Value} {oc kV doc pm ct : Value} {od an : Option Addr} {osl : Array (Option Value)} (KX : K.In h) (G : h.Ns mainGlobals mg) (hmg : mg "law" = some (.ref fa))
    (a0 : PySem.W.nsIn K mainGlobals "BadText" = some (some (.ref c0)))
    (a1 : PySem.W.nsIn K mainGlobals "Misread" = some (some (.ref c1)))
    (a2 : PySem.W.nsIn K mainGlobals "Misplaced" = some (some (.ref c2)))
    (a3 : PySem.W.nsIn K mainGlobals "BadName" = some (some (.ref c3)))
    (a4 : PySem.W.nsIn K mainGlobals "BadNumber" = some (some (.ref c4)))
    (a5 : PySem.W.nsIn K mainGlobals "BadRow" = some (some (.ref c5)))
    (a6 : PySem.W.nsIn K mainGlobals "NoName" = some (some (.ref c6)))
    (a7 : PySem.W.nsIn K mainGlobals "TakenName" = some (some (.ref c7)))
    (a8 : PySem.W.nsIn K mainGlobals "Unlike" = some (some (.ref c8)))
    (a9 : PySem.W.nsIn K mainGlobals "NotThere" = some (some (.ref c9)))
    (a10 : PySem.W.nsIn K mainGlobals "TooMany" = some (some (.ref c10)))
    (a11 : PySem.W.nsIn K mainGlobals "NotKept" = some (some (.ref c11)))
    (a12 : PySem.W.nsIn K mainGlobals "NothingToUndo" = some (some (.ref c12)))
    (a13 : PySem.W.nsIn K mainGlobals "NothingToRedo" = some (some (.ref c13)))
    (aH : PySem.W.nsIn K mainGlobals "HouseError" = some (some (.ref DH)))
    (k0 : ClsK K c0 bm E_BadText)
    (k1 : ClsK K c1 bm E_Misread)
    (k2 : ClsK K c2 bm E_Misplaced)
    (k3 : ClsK K c3 bm E_BadName)
    (k4 : ClsK K c4 bm E_BadNumber)
    (k5 : ClsK K c5 bm E_BadRow)
    (k6 : ClsK K c6 bm E_NoName)
    (k7 : ClsK K c7 bm E_TakenName)
    (k8 : ClsK K c8 bm E_Unlike)
    (k9 : ClsK K c9 bm E_NotThere)
    (k10 : ClsK K c10 bm E_TooMany)
    (k11 : ClsK K c11 bm E_NotKept)
    (k12 : ClsK K c12 bm [])
    (k13 : ClsK K c13 bm [])
    (GG : Glb K bm) (iH : PySem.W.isClsIn K DH = true) (tH : PySem.W.typeIn K (.ref DH) = some (.type "type")) (sH : PySem.W.subIn K (.ref DH) (.type "BaseException") = some true) (chk : subChk (tabOf c0 c1 c2 c3 c4 c5 c6 c7 c8 c9 c10 c11 c12 c13) DH bm = true)
    (e12 : PySem.W.excIn K c12 veB "ValueError.__new__" = true) (p12 : PySem.W.keepIn K (.ref c12) = true) (e13 : PySem.W.excIn K c13 veB "ValueError.__new__" = true) (p13 : PySem.W.keepIn K (.ref c13) = true)
    (T0 : @Txt0 (CCof c0 c1 c2 c3 c4 c5 c6 c7 c8 c9 c10 c11 c12 c13) K mg) (tPen : DefT K mg "_law_pen" st__law_pen ["script"]) (nl : PySem.W.nsIn K mainGlobals "list" = some none) (aL : PySem.W.nsIn K mainGlobals "law" = some (some (.ref f4)))
    (lL : K.lookup f4 = some ⟨oc, od, .func (PySem.W.fnOf "law" "law" (defArgs st_law) (defBody st_law) (defScope st_law) .none kV doc pm an (.ref cL) ct), osl⟩) (qL : PySem.W.codeIn K (.ref cL) "law" = true) : LawRuns PySem.Challenge.rw_bothanswer_k01_errors w K 63 mg fa h := by
  have e := hmg.symm.trans (PySem.W.mg_of KX G aL)
  cases e
  have F14 : Cls14 K mg (tabOf c0 c1 c2 c3 c4 c5 c6 c7 c8 c9 c10 c11 c12 c13) DH bm := ⟨GG, List.forall_mem_cons.mpr ⟨k0, List.forall_mem_cons.mpr ⟨k1, List.forall_mem_cons.mpr ⟨k2, List.forall_mem_cons.mpr ⟨k3, List.forall_mem_cons.mpr ⟨k4, List.forall_mem_cons.mpr ⟨k5, List.forall_mem_cons.mpr ⟨k6, List.forall_mem_cons.mpr ⟨k7, List.forall_mem_cons.mpr ⟨k8, List.forall_mem_cons.mpr ⟨k9, List.forall_mem_cons.mpr ⟨k10, List.forall_mem_cons.mpr ⟨k11, List.forall_mem_cons.mpr ⟨k12, List.forall_mem_cons.mpr ⟨k13, fun _ z => by cases z⟩⟩⟩⟩⟩⟩⟩⟩⟩⟩⟩⟩⟩⟩, List.forall_mem_cons.mpr ⟨PySem.W.mg_of KX G a0, List.forall_mem_cons.mpr ⟨PySem.W.mg_of KX G a1, List.forall_mem_cons.mpr ⟨PySem.W.mg_of KX G a2, List.forall_mem_cons.mpr ⟨PySem.W.mg_of KX G a3, List.forall_mem_cons.mpr ⟨PySem.W.mg_of KX G a4, List.forall_mem_cons.mpr ⟨PySem.W.mg_of KX G a5, List.forall_mem_cons.mpr ⟨PySem.W.mg_of KX G a6, List.forall_mem_cons.mpr ⟨PySem.W.mg_of KX G a7, List.forall_mem_cons.mpr ⟨PySem.W.mg_of KX G a8, List.forall_mem_cons.mpr ⟨PySem.W.mg_of KX G a9, List.forall_mem_cons.mpr ⟨PySem.W.mg_of KX G a10, List.forall_mem_cons.mpr ⟨PySem.W.mg_of KX G a11, List.forall_mem_cons.mpr ⟨PySem.W.mg_of KX G a12, List.forall_mem_cons.mpr ⟨PySem.W.mg_of KX G a13, fun _ z => by cases z⟩⟩⟩⟩⟩⟩⟩⟩⟩⟩⟩⟩⟩⟩, PySem.W.mg_of KX G aH, iH, tH, sH, chk⟩
  letI : DL.ClsCtx := CCof c0 c1 c2 c3 c4 c5 c6 c7 c8 c9 c10 c11 c12 c13
  letI : DL.XcCtx := ⟨0, 0, 0⟩
  exact ⟨[], by simp, by simp, by simp, fun base s1 a ns hs hl hb kb nb => law_runs law_math hl (T0.full F14 rfl e12 p12 e13 p13) F14 rfl tPen (PySem.W.mg_none_of KX G nl) lL qL⟩
theorem cls_BadText {c0 c1 c2 c3 c4 c5 c6 c7 c8 c9 c10 c11 c12 c13 : Addr} : clsOf (tabOf c0 c1 c2 c3 c4 c5 c6 c7 c8 c9 c10 c11 c12 c13) "BadText" = some c0 := rfl
theorem cls_Misread {c0 c1 c2 c3 c4 c5 c6 c7 c8 c9 c10 c11 c12 c13 : Addr} : clsOf (tabOf c0 c1 c2 c3 c4 c5 c6 c7 c8 c9 c10 c11 c12 c13) "Misread" = some c1 := rfl
theorem cls_Misplaced {c0 c1 c2 c3 c4 c5 c6 c7 c8 c9 c10 c11 c12 c13 : Addr} : clsOf (tabOf c0 c1 c2 c3 c4 c5 c6 c7 c8 c9 c10 c11 c12 c13) "Misplaced" = some c2 := rfl
theorem cls_BadName {c0 c1 c2 c3 c4 c5 c6 c7 c8 c9 c10 c11 c12 c13 : Addr} : clsOf (tabOf c0 c1 c2 c3 c4 c5 c6 c7 c8 c9 c10 c11 c12 c13) "BadName" = some c3 := rfl
theorem cls_BadNumber {c0 c1 c2 c3 c4 c5 c6 c7 c8 c9 c10 c11 c12 c13 : Addr} : clsOf (tabOf c0 c1 c2 c3 c4 c5 c6 c7 c8 c9 c10 c11 c12 c13) "BadNumber" = some c4 := rfl
theorem cls_BadRow {c0 c1 c2 c3 c4 c5 c6 c7 c8 c9 c10 c11 c12 c13 : Addr} : clsOf (tabOf c0 c1 c2 c3 c4 c5 c6 c7 c8 c9 c10 c11 c12 c13) "BadRow" = some c5 := rfl
theorem cls_NoName {c0 c1 c2 c3 c4 c5 c6 c7 c8 c9 c10 c11 c12 c13 : Addr} : clsOf (tabOf c0 c1 c2 c3 c4 c5 c6 c7 c8 c9 c10 c11 c12 c13) "NoName" = some c6 := rfl
theorem cls_TakenName {c0 c1 c2 c3 c4 c5 c6 c7 c8 c9 c10 c11 c12 c13 : Addr} : clsOf (tabOf c0 c1 c2 c3 c4 c5 c6 c7 c8 c9 c10 c11 c12 c13) "TakenName" = some c7 := rfl
theorem cls_Unlike {c0 c1 c2 c3 c4 c5 c6 c7 c8 c9 c10 c11 c12 c13 : Addr} : clsOf (tabOf c0 c1 c2 c3 c4 c5 c6 c7 c8 c9 c10 c11 c12 c13) "Unlike" = some c8 := rfl
theorem cls_NotThere {c0 c1 c2 c3 c4 c5 c6 c7 c8 c9 c10 c11 c12 c13 : Addr} : clsOf (tabOf c0 c1 c2 c3 c4 c5 c6 c7 c8 c9 c10 c11 c12 c13) "NotThere" = some c9 := rfl
theorem cls_TooMany {c0 c1 c2 c3 c4 c5 c6 c7 c8 c9 c10 c11 c12 c13 : Addr} : clsOf (tabOf c0 c1 c2 c3 c4 c5 c6 c7 c8 c9 c10 c11 c12 c13) "TooMany" = some c10 := rfl
theorem cls_NotKept {c0 c1 c2 c3 c4 c5 c6 c7 c8 c9 c10 c11 c12 c13 : Addr} : clsOf (tabOf c0 c1 c2 c3 c4 c5 c6 c7 c8 c9 c10 c11 c12 c13) "NotKept" = some c11 := rfl
theorem cls_NothingToUndo {c0 c1 c2 c3 c4 c5 c6 c7 c8 c9 c10 c11 c12 c13 : Addr} : clsOf (tabOf c0 c1 c2 c3 c4 c5 c6 c7 c8 c9 c10 c11 c12 c13) "NothingToUndo" = some c12 := rfl
theorem cls_NothingToRedo {c0 c1 c2 c3 c4 c5 c6 c7 c8 c9 c10 c11 c12 c13 : Addr} : clsOf (tabOf c0 c1 c2 c3 c4 c5 c6 c7 c8 c9 c10 c11 c12 c13) "NothingToRedo" = some c13 := rfl
end K01
open PySem PySem.W PyProof.Rows
set_option maxRecDepth 100000 in
set_option maxHeartbeats 0 in
set_option pp.maxSteps 300 in
set_option pp.deepTerms false in
theorem PySem.Challenge.cw_bothanswer_k01_errors_holds : PySem.Challenge.rw_bothanswer_k01_errors.Holds := by
  w_on; o_law; k_head; (case hw => w_witness2)
  k_fill
  refine DL.walk_runs (CC := ⟨fun _ => none⟩) (XC := ⟨0, 0, 0⟩) (l := PySem.Challenge.rw_bothanswer_k01_errors) (n := 63) rfl (by decide) rfl ?hrec (fun w h Y => PySem.W.kIn_of Y) ?F
  (case hrec => decide +kernel)
  case F =>
    intro w mg fa h Y KX G hmg own
    refine' K01.final KX G hmg ?a0 ?a1 ?a2 ?a3 ?a4 ?a5 ?a6 ?a7 ?a8 ?a9 ?a10 ?a11 ?a12 ?a13 ?aH ?k0 ?k1 ?k2 ?k3 ?k4 ?k5 ?k6 ?k7 ?k8 ?k9 ?k10 ?k11 ?k12 ?k13 ?GG ?iH ?tH ?sH ?chk ?e12 ?p12 ?e13 ?p13 ?T0 ?tPen ?nl ?aL ?lL ?qL
    (case a0 => k_is)
    (case a1 => k_is)
    (case a2 => k_is)
    (case a3 => k_is)
    (case a4 => k_is)
    (case a5 => k_is)
    (case a6 => k_is)
    (case a7 => k_is)
    (case a8 => k_is)
    (case a9 => k_is)
    (case a10 => k_is)
    (case a11 => k_is)
    (case a12 => k_is)
    (case a13 => k_is)
    (case aH => k_is)
    (case k0 => (refine' ⟨K01.ClsL.of ?xL0, ?ga0, ?gg0, ?hd0, ?ca0, ?ty0, ?nf0⟩; (case xL0 => k_is); (case ga0 => k_is); (case gg0 => k_is); (case hd0 => k_is); (case ca0 => k_is); (case ty0 => k_is); (case nf0 => exact List.forall_mem_cons.mpr ⟨by k_is, List.forall_mem_cons.mpr ⟨by k_is, fun _ z => by cases z⟩⟩)))
    (case k1 => (refine' ⟨K01.ClsL.of ?xL1, ?ga1, ?gg1, ?hd1, ?ca1, ?ty1, ?nf1⟩; (case xL1 => k_is); (case ga1 => k_is); (case gg1 => k_is); (case hd1 => k_is); (case ca1 => k_is); (case ty1 => k_is); (case nf1 => exact List.forall_mem_cons.mpr ⟨by k_is, List.forall_mem_cons.mpr ⟨by k_is, fun _ z => by cases z⟩⟩)))
    (case k2 => (refine' ⟨K01.ClsL.of ?xL2, ?ga2, ?gg2, ?hd2, ?ca2, ?ty2, ?nf2⟩; (case xL2 => k_is); (case ga2 => k_is); (case gg2 => k_is); (case hd2 => k_is); (case ca2 => k_is); (case ty2 => k_is); (case nf2 => exact List.forall_mem_cons.mpr ⟨by k_is, List.forall_mem_cons.mpr ⟨by k_is, List.forall_mem_cons.mpr ⟨by k_is, List.forall_mem_cons.mpr ⟨by k_is, fun _ z => by cases z⟩⟩⟩⟩)))
    (case k3 => (refine' ⟨K01.ClsL.of ?xL3, ?ga3, ?gg3, ?hd3, ?ca3, ?ty3, ?nf3⟩; (case xL3 => k_is); (case ga3 => k_is); (case gg3 => k_is); (case hd3 => k_is); (case ca3 => k_is); (case ty3 => k_is); (case nf3 => exact List.forall_mem_cons.mpr ⟨by k_is, fun _ z => by cases z⟩)))
    (case k4 => (refine' ⟨K01.ClsL.of ?xL4, ?ga4, ?gg4, ?hd4, ?ca4, ?ty4, ?nf4⟩; (case xL4 => k_is); (case ga4 => k_is); (case gg4 => k_is); (case hd4 => k_is); (case ca4 => k_is); (case ty4 => k_is); (case nf4 => exact List.forall_mem_cons.mpr ⟨by k_is, List.forall_mem_cons.mpr ⟨by k_is, fun _ z => by cases z⟩⟩)))
    (case k5 => (refine' ⟨K01.ClsL.of ?xL5, ?ga5, ?gg5, ?hd5, ?ca5, ?ty5, ?nf5⟩; (case xL5 => k_is); (case ga5 => k_is); (case gg5 => k_is); (case hd5 => k_is); (case ca5 => k_is); (case ty5 => k_is); (case nf5 => exact List.forall_mem_cons.mpr ⟨by k_is, List.forall_mem_cons.mpr ⟨by k_is, fun _ z => by cases z⟩⟩)))
    (case k6 => (refine' ⟨K01.ClsL.of ?xL6, ?ga6, ?gg6, ?hd6, ?ca6, ?ty6, ?nf6⟩; (case xL6 => k_is); (case ga6 => k_is); (case gg6 => k_is); (case hd6 => k_is); (case ca6 => k_is); (case ty6 => k_is); (case nf6 => exact List.forall_mem_cons.mpr ⟨by k_is, fun _ z => by cases z⟩)))
    (case k7 => (refine' ⟨K01.ClsL.of ?xL7, ?ga7, ?gg7, ?hd7, ?ca7, ?ty7, ?nf7⟩; (case xL7 => k_is); (case ga7 => k_is); (case gg7 => k_is); (case hd7 => k_is); (case ca7 => k_is); (case ty7 => k_is); (case nf7 => exact List.forall_mem_cons.mpr ⟨by k_is, fun _ z => by cases z⟩)))
    (case k8 => (refine' ⟨K01.ClsL.of ?xL8, ?ga8, ?gg8, ?hd8, ?ca8, ?ty8, ?nf8⟩; (case xL8 => k_is); (case ga8 => k_is); (case gg8 => k_is); (case hd8 => k_is); (case ca8 => k_is); (case ty8 => k_is); (case nf8 => exact List.forall_mem_cons.mpr ⟨by k_is, fun _ z => by cases z⟩)))
    (case k9 => (refine' ⟨K01.ClsL.of ?xL9, ?ga9, ?gg9, ?hd9, ?ca9, ?ty9, ?nf9⟩; (case xL9 => k_is); (case ga9 => k_is); (case gg9 => k_is); (case hd9 => k_is); (case ca9 => k_is); (case ty9 => k_is); (case nf9 => exact List.forall_mem_cons.mpr ⟨by k_is, fun _ z => by cases z⟩)))
    (case k10 => (refine' ⟨K01.ClsL.of ?xL10, ?ga10, ?gg10, ?hd10, ?ca10, ?ty10, ?nf10⟩; (case xL10 => k_is); (case ga10 => k_is); (case gg10 => k_is); (case hd10 => k_is); (case ca10 => k_is); (case ty10 => k_is); (case nf10 => exact List.forall_mem_cons.mpr ⟨by k_is, List.forall_mem_cons.mpr ⟨by k_is, List.forall_mem_cons.mpr ⟨by k_is, fun _ z => by cases z⟩⟩⟩)))
    (case k11 => (refine' ⟨K01.ClsL.of ?xL11, ?ga11, ?gg11, ?hd11, ?ca11, ?ty11, ?nf11⟩; (case xL11 => k_is); (case ga11 => k_is); (case gg11 => k_is); (case hd11 => k_is); (case ca11 => k_is); (case ty11 => k_is); (case nf11 => exact List.forall_mem_cons.mpr ⟨by k_is, List.forall_mem_cons.mpr ⟨by k_is, fun _ z => by cases z⟩⟩)))
    (case k12 => (refine' ⟨K01.ClsL.of ?xL12, ?ga12, ?gg12, ?hd12, ?ca12, ?ty12, ?nf12⟩; (case xL12 => k_is); (case ga12 => k_is); (case gg12 => k_is); (case hd12 => k_is); (case ca12 => k_is); (case ty12 => k_is); (case nf12 => exact fun _ z => by cases z)))
    (case k13 => (refine' ⟨K01.ClsL.of ?xL13, ?ga13, ?gg13, ?hd13, ?ca13, ?ty13, ?nf13⟩; (case xL13 => k_is); (case ga13 => k_is); (case gg13 => k_is); (case hd13 => k_is); (case ca13 => k_is); (case ty13 => k_is); (case nf13 => exact fun _ z => by cases z)))
    (case GG => exact ⟨by k_is, by k_is, fun _ => by rfl, fun _ => by rfl, fun _ => by rfl⟩)
    (case iH => k_is); (case tH => k_is); (case sH => k_is); (case chk => decide +kernel)
    (case e12 => k_exc); (case p12 => k_is); (case e13 => k_exc); (case p13 => k_is)
    case T0 =>
      refine' @K01.Txt0.mk (K01.CCof _ _ _ _ _ _ _ _ _ _ _ _ _ _) _ _ ?n_len ?n_int ?n_isinstance ?n_ValueError ?n_repr ?n_enumerate ?n_range ?d__law_draw ?d__law_pick ?d__law_value ?d__law_fields ?d__law_made_errors ?d__law_kinds ?x_BadText ?x_Misread ?x_Misplaced ?x_BadName ?x_BadNumber ?x_BadRow ?x_NoName ?x_TakenName ?x_Unlike ?x_NotThere ?x_TooMany ?x_NotKept
      case n_len => exact PySem.W.mg_none_of KX G (by k_is)
      case n_int => exact PySem.W.mg_none_of KX G (by k_is)
      case n_isinstance => exact PySem.W.mg_none_of KX G (by k_is)
      case n_ValueError => exact PySem.W.mg_none_of KX G (by k_is)
      case n_repr => exact PySem.W.mg_none_of KX G (by k_is)
      case n_enumerate => exact PySem.W.mg_none_of KX G (by k_is)
      case n_range => exact PySem.W.mg_none_of KX G (by k_is)
      case d__law_draw =>
        refine' DL.defT_mk (CC := ⟨fun _ => none⟩) (XC := ⟨0, 0, 0⟩) (st := K01.st__law_draw) KX G ?a__law_draw ?l__law_draw ?c__law_draw ?k__law_draw ?b__law_draw
        (case a__law_draw => k_is); (case l__law_draw => k_is); (case c__law_draw => k_is); (case k__law_draw => k_is)
        (case b__law_draw => exact fun _ _ _ _ _ _ us hl => match us, hl with | [_, _], _ => rfl)
      case d__law_pick =>
        refine' DL.defT_mk (CC := ⟨fun _ => none⟩) (XC := ⟨0, 0, 0⟩) (st := K01.st__law_pick) KX G ?a__law_pick ?l__law_pick ?c__law_pick ?k__law_pick ?b__law_pick
        (case a__law_pick => k_is); (case l__law_pick => k_is); (case c__law_pick => k_is); (case k__law_pick => k_is)
        (case b__law_pick => exact fun _ _ _ _ _ _ us hl => match us, hl with | [_, _], _ => rfl)
      case d__law_value =>
        refine' DL.defT_mk (CC := ⟨fun _ => none⟩) (XC := ⟨0, 0, 0⟩) (st := K01.st__law_value) KX G ?a__law_value ?l__law_value ?c__law_value ?k__law_value ?b__law_value
        (case a__law_value => k_is); (case l__law_value => k_is); (case c__law_value => k_is); (case k__law_value => k_is)
        (case b__law_value => exact fun _ _ _ _ _ _ us hl => match us, hl with | [_], _ => rfl)
      case d__law_fields =>
        refine' DL.defT_mk (CC := ⟨fun _ => none⟩) (XC := ⟨0, 0, 0⟩) (st := K01.st__law_fields) KX G ?a__law_fields ?l__law_fields ?c__law_fields ?k__law_fields ?b__law_fields
        (case a__law_fields => k_is); (case l__law_fields => k_is); (case c__law_fields => k_is); (case k__law_fields => k_is)
        (case b__law_fields => exact fun _ _ _ _ _ _ us hl => match us, hl with | [_, _], _ => rfl)
      case d__law_made_errors =>
        refine' DL.defT_mk (CC := ⟨fun _ => none⟩) (XC := ⟨0, 0, 0⟩) (st := K01.st__law_made_errors) KX G ?a__law_made_errors ?l__law_made_errors ?c__law_made_errors ?k__law_made_errors ?b__law_made_errors
        (case a__law_made_errors => k_is); (case l__law_made_errors => k_is); (case c__law_made_errors => k_is); (case k__law_made_errors => k_is)
        (case b__law_made_errors => exact fun _ _ _ _ _ _ us hl => match us, hl with | [_, _, _], _ => rfl)
      case d__law_kinds =>
        refine' DL.defT_mk (CC := ⟨fun _ => none⟩) (XC := ⟨0, 0, 0⟩) (st := K01.st__law_kinds) KX G ?a__law_kinds ?l__law_kinds ?c__law_kinds ?k__law_kinds ?b__law_kinds
        (case a__law_kinds => k_is); (case l__law_kinds => k_is); (case c__law_kinds => k_is); (case k__law_kinds => k_is)
        (case b__law_kinds => exact fun _ _ _ _ _ _ us hl => match us, hl with | [_], _ => rfl)
      case x_BadText =>
        refine' DL.excF_mk (CC := ⟨fun _ => none⟩) (XC := ⟨0, 0, 0⟩) (st := K01.ini_BadText) (qual := "BadText.__init__") (hc := K01.cls_BadText) KX G ?hq_BadText ?a_BadText ?xL_BadText ?hbm_BadText ?sa_BadText ?eC_BadText ?tC_BadText ?kC_BadText ?no_BadText ?iC_BadText ?tI_BadText ?xf_BadText ?l_BadText ?c_BadText ?k_BadText ?b_BadText
        (case hq_BadText => decide +kernel); (case a_BadText => k_is); (case xL_BadText => k_is); (case hbm_BadText => decide +kernel); (case sa_BadText => k_is); (case eC_BadText => k_is); (case tC_BadText => k_is); (case kC_BadText => k_is); (case iC_BadText => k_is); (case tI_BadText => k_is)
        (case xf_BadText => (refine' DL.xfC_mk (CC := ⟨fun _ => none⟩) (XC := ⟨0, 0, 0⟩) ?g1_BadText ?g2_BadText ?g3_BadText ?g4_BadText; (case g1_BadText => k_is); (case g2_BadText => k_is); (case g3_BadText => k_is); (case g4_BadText => k_is)))
        (case no_BadText => exact List.forall_mem_cons.mpr ⟨by k_is, List.forall_mem_cons.mpr ⟨by k_is, fun _ z => by cases z⟩⟩)
        (case l_BadText => k_is); (case c_BadText => k_is); (case k_BadText => k_is)
        (case b_BadText => exact fun _ _ _ _ _ _ us hl => match us, hl with | [_, _, _], _ => rfl)
      case x_Misread =>
        refine' DL.excF_mk (CC := ⟨fun _ => none⟩) (XC := ⟨0, 0, 0⟩) (st := K01.ini_Misread) (qual := "Misread.__init__") (hc := K01.cls_Misread) KX G ?hq_Misread ?a_Misread ?xL_Misread ?hbm_Misread ?sa_Misread ?eC_Misread ?tC_Misread ?kC_Misread ?no_Misread ?iC_Misread ?tI_Misread ?xf_Misread ?l_Misread ?c_Misread ?k_Misread ?b_Misread
        (case hq_Misread => decide +kernel); (case a_Misread => k_is); (case xL_Misread => k_is); (case hbm_Misread => decide +kernel); (case sa_Misread => k_is); (case eC_Misread => k_is); (case tC_Misread => k_is); (case kC_Misread => k_is); (case iC_Misread => k_is); (case tI_Misread => k_is)
        (case xf_Misread => (refine' DL.xfC_mk (CC := ⟨fun _ => none⟩) (XC := ⟨0, 0, 0⟩) ?g1_Misread ?g2_Misread ?g3_Misread ?g4_Misread; (case g1_Misread => k_is); (case g2_Misread => k_is); (case g3_Misread => k_is); (case g4_Misread => k_is)))
        (case no_Misread => exact List.forall_mem_cons.mpr ⟨by k_is, List.forall_mem_cons.mpr ⟨by k_is, fun _ z => by cases z⟩⟩)
        (case l_Misread => k_is); (case c_Misread => k_is); (case k_Misread => k_is)
        (case b_Misread => exact fun _ _ _ _ _ _ us hl => match us, hl with | [_, _, _], _ => rfl)
      case x_Misplaced =>
        refine' DL.excF_mk (CC := ⟨fun _ => none⟩) (XC := ⟨0, 0, 0⟩) (st := K01.ini_Misplaced) (qual := "Misplaced.__init__") (hc := K01.cls_Misplaced) KX G ?hq_Misplaced ?a_Misplaced ?xL_Misplaced ?hbm_Misplaced ?sa_Misplaced ?eC_Misplaced ?tC_Misplaced ?kC_Misplaced ?no_Misplaced ?iC_Misplaced ?tI_Misplaced ?xf_Misplaced ?l_Misplaced ?c_Misplaced ?k_Misplaced ?b_Misplaced
        (case hq_Misplaced => decide +kernel); (case a_Misplaced => k_is); (case xL_Misplaced => k_is); (case hbm_Misplaced => decide +kernel); (case sa_Misplaced => k_is); (case eC_Misplaced => k_is); (case tC_Misplaced => k_is); (case kC_Misplaced => k_is); (case iC_Misplaced => k_is); (case tI_Misplaced => k_is)
        (case xf_Misplaced => (refine' DL.xfC_mk (CC := ⟨fun _ => none⟩) (XC := ⟨0, 0, 0⟩) ?g1_Misplaced ?g2_Misplaced ?g3_Misplaced ?g4_Misplaced; (case g1_Misplaced => k_is); (case g2_Misplaced => k_is); (case g3_Misplaced => k_is); (case g4_Misplaced => k_is)))
        (case no_Misplaced => exact List.forall_mem_cons.mpr ⟨by k_is, List.forall_mem_cons.mpr ⟨by k_is, List.forall_mem_cons.mpr ⟨by k_is, List.forall_mem_cons.mpr ⟨by k_is, fun _ z => by cases z⟩⟩⟩⟩)
        (case l_Misplaced => k_is); (case c_Misplaced => k_is); (case k_Misplaced => k_is)
        (case b_Misplaced => exact fun _ _ _ _ _ _ us hl => match us, hl with | [_, _, _, _, _], _ => rfl)
      case x_BadName =>
        refine' DL.excF_mk (CC := ⟨fun _ => none⟩) (XC := ⟨0, 0, 0⟩) (st := K01.ini_BadName) (qual := "BadName.__init__") (hc := K01.cls_BadName) KX G ?hq_BadName ?a_BadName ?xL_BadName ?hbm_BadName ?sa_BadName ?eC_BadName ?tC_BadName ?kC_BadName ?no_BadName ?iC_BadName ?tI_BadName ?xf_BadName ?l_BadName ?c_BadName ?k_BadName ?b_BadName
        (case hq_BadName => decide +kernel); (case a_BadName => k_is); (case xL_BadName => k_is); (case hbm_BadName => decide +kernel); (case sa_BadName => k_is); (case eC_BadName => k_is); (case tC_BadName => k_is); (case kC_BadName => k_is); (case iC_BadName => k_is); (case tI_BadName => k_is)
        (case xf_BadName => (refine' DL.xfC_mk (CC := ⟨fun _ => none⟩) (XC := ⟨0, 0, 0⟩) ?g1_BadName ?g2_BadName ?g3_BadName ?g4_BadName; (case g1_BadName => k_is); (case g2_BadName => k_is); (case g3_BadName => k_is); (case g4_BadName => k_is)))
        (case no_BadName => exact List.forall_mem_cons.mpr ⟨by k_is, fun _ z => by cases z⟩)
        (case l_BadName => k_is); (case c_BadName => k_is); (case k_BadName => k_is)
        (case b_BadName => exact fun _ _ _ _ _ _ us hl => match us, hl with | [_, _], _ => rfl)
      case x_BadNumber =>
        refine' DL.excF_mk (CC := ⟨fun _ => none⟩) (XC := ⟨0, 0, 0⟩) (st := K01.ini_BadNumber) (qual := "BadNumber.__init__") (hc := K01.cls_BadNumber) KX G ?hq_BadNumber ?a_BadNumber ?xL_BadNumber ?hbm_BadNumber ?sa_BadNumber ?eC_BadNumber ?tC_BadNumber ?kC_BadNumber ?no_BadNumber ?iC_BadNumber ?tI_BadNumber ?xf_BadNumber ?l_BadNumber ?c_BadNumber ?k_BadNumber ?b_BadNumber
        (case hq_BadNumber => decide +kernel); (case a_BadNumber => k_is); (case xL_BadNumber => k_is); (case hbm_BadNumber => decide +kernel); (case sa_BadNumber => k_is); (case eC_BadNumber => k_is); (case tC_BadNumber => k_is); (case kC_BadNumber => k_is); (case iC_BadNumber => k_is); (case tI_BadNumber => k_is)
        (case xf_BadNumber => (refine' DL.xfC_mk (CC := ⟨fun _ => none⟩) (XC := ⟨0, 0, 0⟩) ?g1_BadNumber ?g2_BadNumber ?g3_BadNumber ?g4_BadNumber; (case g1_BadNumber => k_is); (case g2_BadNumber => k_is); (case g3_BadNumber => k_is); (case g4_BadNumber => k_is)))
        (case no_BadNumber => exact List.forall_mem_cons.mpr ⟨by k_is, List.forall_mem_cons.mpr ⟨by k_is, fun _ z => by cases z⟩⟩)
        (case l_BadNumber => k_is); (case c_BadNumber => k_is); (case k_BadNumber => k_is)
        (case b_BadNumber => exact fun _ _ _ _ _ _ us hl => match us, hl with | [_, _, _], _ => rfl)
      case x_BadRow =>
        refine' DL.excF_mk (CC := ⟨fun _ => none⟩) (XC := ⟨0, 0, 0⟩) (st := K01.ini_BadRow) (qual := "BadRow.__init__") (hc := K01.cls_BadRow) KX G ?hq_BadRow ?a_BadRow ?xL_BadRow ?hbm_BadRow ?sa_BadRow ?eC_BadRow ?tC_BadRow ?kC_BadRow ?no_BadRow ?iC_BadRow ?tI_BadRow ?xf_BadRow ?l_BadRow ?c_BadRow ?k_BadRow ?b_BadRow
        (case hq_BadRow => decide +kernel); (case a_BadRow => k_is); (case xL_BadRow => k_is); (case hbm_BadRow => decide +kernel); (case sa_BadRow => k_is); (case eC_BadRow => k_is); (case tC_BadRow => k_is); (case kC_BadRow => k_is); (case iC_BadRow => k_is); (case tI_BadRow => k_is)
        (case xf_BadRow => (refine' DL.xfC_mk (CC := ⟨fun _ => none⟩) (XC := ⟨0, 0, 0⟩) ?g1_BadRow ?g2_BadRow ?g3_BadRow ?g4_BadRow; (case g1_BadRow => k_is); (case g2_BadRow => k_is); (case g3_BadRow => k_is); (case g4_BadRow => k_is)))
        (case no_BadRow => exact List.forall_mem_cons.mpr ⟨by k_is, List.forall_mem_cons.mpr ⟨by k_is, fun _ z => by cases z⟩⟩)
        (case l_BadRow => k_is); (case c_BadRow => k_is); (case k_BadRow => k_is)
        (case b_BadRow => exact fun _ _ _ _ _ _ us hl => match us, hl with | [_, _, _], _ => rfl)
      case x_NoName =>
        refine' DL.excF_mk (CC := ⟨fun _ => none⟩) (XC := ⟨0, 0, 0⟩) (st := K01.ini_NoName) (qual := "NoName.__init__") (hc := K01.cls_NoName) KX G ?hq_NoName ?a_NoName ?xL_NoName ?hbm_NoName ?sa_NoName ?eC_NoName ?tC_NoName ?kC_NoName ?no_NoName ?iC_NoName ?tI_NoName ?xf_NoName ?l_NoName ?c_NoName ?k_NoName ?b_NoName
        (case hq_NoName => decide +kernel); (case a_NoName => k_is); (case xL_NoName => k_is); (case hbm_NoName => decide +kernel); (case sa_NoName => k_is); (case eC_NoName => k_is); (case tC_NoName => k_is); (case kC_NoName => k_is); (case iC_NoName => k_is); (case tI_NoName => k_is)
        (case xf_NoName => (refine' DL.xfC_mk (CC := ⟨fun _ => none⟩) (XC := ⟨0, 0, 0⟩) ?g1_NoName ?g2_NoName ?g3_NoName ?g4_NoName; (case g1_NoName => k_is); (case g2_NoName => k_is); (case g3_NoName => k_is); (case g4_NoName => k_is)))
        (case no_NoName => exact List.forall_mem_cons.mpr ⟨by k_is, fun _ z => by cases z⟩)
        (case l_NoName => k_is); (case c_NoName => k_is); (case k_NoName => k_is)
        (case b_NoName => exact fun _ _ _ _ _ _ us hl => match us, hl with | [_, _], _ => rfl)
      case x_TakenName =>
        refine' DL.excF_mk (CC := ⟨fun _ => none⟩) (XC := ⟨0, 0, 0⟩) (st := K01.ini_TakenName) (qual := "TakenName.__init__") (hc := K01.cls_TakenName) KX G ?hq_TakenName ?a_TakenName ?xL_TakenName ?hbm_TakenName ?sa_TakenName ?eC_TakenName ?tC_TakenName ?kC_TakenName ?no_TakenName ?iC_TakenName ?tI_TakenName ?xf_TakenName ?l_TakenName ?c_TakenName ?k_TakenName ?b_TakenName
        (case hq_TakenName => decide +kernel); (case a_TakenName => k_is); (case xL_TakenName => k_is); (case hbm_TakenName => decide +kernel); (case sa_TakenName => k_is); (case eC_TakenName => k_is); (case tC_TakenName => k_is); (case kC_TakenName => k_is); (case iC_TakenName => k_is); (case tI_TakenName => k_is)
        (case xf_TakenName => (refine' DL.xfC_mk (CC := ⟨fun _ => none⟩) (XC := ⟨0, 0, 0⟩) ?g1_TakenName ?g2_TakenName ?g3_TakenName ?g4_TakenName; (case g1_TakenName => k_is); (case g2_TakenName => k_is); (case g3_TakenName => k_is); (case g4_TakenName => k_is)))
        (case no_TakenName => exact List.forall_mem_cons.mpr ⟨by k_is, fun _ z => by cases z⟩)
        (case l_TakenName => k_is); (case c_TakenName => k_is); (case k_TakenName => k_is)
        (case b_TakenName => exact fun _ _ _ _ _ _ us hl => match us, hl with | [_, _], _ => rfl)
      case x_Unlike =>
        refine' DL.excF_mk (CC := ⟨fun _ => none⟩) (XC := ⟨0, 0, 0⟩) (st := K01.ini_Unlike) (qual := "Unlike.__init__") (hc := K01.cls_Unlike) KX G ?hq_Unlike ?a_Unlike ?xL_Unlike ?hbm_Unlike ?sa_Unlike ?eC_Unlike ?tC_Unlike ?kC_Unlike ?no_Unlike ?iC_Unlike ?tI_Unlike ?xf_Unlike ?l_Unlike ?c_Unlike ?k_Unlike ?b_Unlike
        (case hq_Unlike => decide +kernel); (case a_Unlike => k_is); (case xL_Unlike => k_is); (case hbm_Unlike => decide +kernel); (case sa_Unlike => k_is); (case eC_Unlike => k_is); (case tC_Unlike => k_is); (case kC_Unlike => k_is); (case iC_Unlike => k_is); (case tI_Unlike => k_is)
        (case xf_Unlike => (refine' DL.xfC_mk (CC := ⟨fun _ => none⟩) (XC := ⟨0, 0, 0⟩) ?g1_Unlike ?g2_Unlike ?g3_Unlike ?g4_Unlike; (case g1_Unlike => k_is); (case g2_Unlike => k_is); (case g3_Unlike => k_is); (case g4_Unlike => k_is)))
        (case no_Unlike => exact List.forall_mem_cons.mpr ⟨by k_is, fun _ z => by cases z⟩)
        (case l_Unlike => k_is); (case c_Unlike => k_is); (case k_Unlike => k_is)
        (case b_Unlike => exact fun _ _ _ _ _ _ us hl => match us, hl with | [_, _], _ => rfl)
      case x_NotThere =>
        refine' DL.excF_mk (CC := ⟨fun _ => none⟩) (XC := ⟨0, 0, 0⟩) (st := K01.ini_NotThere) (qual := "NotThere.__init__") (hc := K01.cls_NotThere) KX G ?hq_NotThere ?a_NotThere ?xL_NotThere ?hbm_NotThere ?sa_NotThere ?eC_NotThere ?tC_NotThere ?kC_NotThere ?no_NotThere ?iC_NotThere ?tI_NotThere ?xf_NotThere ?l_NotThere ?c_NotThere ?k_NotThere ?b_NotThere
        (case hq_NotThere => decide +kernel); (case a_NotThere => k_is); (case xL_NotThere => k_is); (case hbm_NotThere => decide +kernel); (case sa_NotThere => k_is); (case eC_NotThere => k_is); (case tC_NotThere => k_is); (case kC_NotThere => k_is); (case iC_NotThere => k_is); (case tI_NotThere => k_is)
        (case xf_NotThere => (refine' DL.xfC_mk (CC := ⟨fun _ => none⟩) (XC := ⟨0, 0, 0⟩) ?g1_NotThere ?g2_NotThere ?g3_NotThere ?g4_NotThere; (case g1_NotThere => k_is); (case g2_NotThere => k_is); (case g3_NotThere => k_is); (case g4_NotThere => k_is)))
        (case no_NotThere => exact List.forall_mem_cons.mpr ⟨by k_is, fun _ z => by cases z⟩)
        (case l_NotThere => k_is); (case c_NotThere => k_is); (case k_NotThere => k_is)
        (case b_NotThere => exact fun _ _ _ _ _ _ us hl => match us, hl with | [_, _], _ => rfl)
      case x_TooMany =>
        refine' DL.excF_mk (CC := ⟨fun _ => none⟩) (XC := ⟨0, 0, 0⟩) (st := K01.ini_TooMany) (qual := "TooMany.__init__") (hc := K01.cls_TooMany) KX G ?hq_TooMany ?a_TooMany ?xL_TooMany ?hbm_TooMany ?sa_TooMany ?eC_TooMany ?tC_TooMany ?kC_TooMany ?no_TooMany ?iC_TooMany ?tI_TooMany ?xf_TooMany ?l_TooMany ?c_TooMany ?k_TooMany ?b_TooMany
        (case hq_TooMany => decide +kernel); (case a_TooMany => k_is); (case xL_TooMany => k_is); (case hbm_TooMany => decide +kernel); (case sa_TooMany => k_is); (case eC_TooMany => k_is); (case tC_TooMany => k_is); (case kC_TooMany => k_is); (case iC_TooMany => k_is); (case tI_TooMany => k_is)
        (case xf_TooMany => (refine' DL.xfC_mk (CC := ⟨fun _ => none⟩) (XC := ⟨0, 0, 0⟩) ?g1_TooMany ?g2_TooMany ?g3_TooMany ?g4_TooMany; (case g1_TooMany => k_is); (case g2_TooMany => k_is); (case g3_TooMany => k_is); (case g4_TooMany => k_is)))
        (case no_TooMany => exact List.forall_mem_cons.mpr ⟨by k_is, List.forall_mem_cons.mpr ⟨by k_is, List.forall_mem_cons.mpr ⟨by k_is, fun _ z => by cases z⟩⟩⟩)
        (case l_TooMany => k_is); (case c_TooMany => k_is); (case k_TooMany => k_is)
        (case b_TooMany => exact fun _ _ _ _ _ _ us hl => match us, hl with | [_, _, _, _], _ => rfl)
      case x_NotKept =>
        refine' DL.excF_mk (CC := ⟨fun _ => none⟩) (XC := ⟨0, 0, 0⟩) (st := K01.ini_NotKept) (qual := "NotKept.__init__") (hc := K01.cls_NotKept) KX G ?hq_NotKept ?a_NotKept ?xL_NotKept ?hbm_NotKept ?sa_NotKept ?eC_NotKept ?tC_NotKept ?kC_NotKept ?no_NotKept ?iC_NotKept ?tI_NotKept ?xf_NotKept ?l_NotKept ?c_NotKept ?k_NotKept ?b_NotKept
        (case hq_NotKept => decide +kernel); (case a_NotKept => k_is); (case xL_NotKept => k_is); (case hbm_NotKept => decide +kernel); (case sa_NotKept => k_is); (case eC_NotKept => k_is); (case tC_NotKept => k_is); (case kC_NotKept => k_is); (case iC_NotKept => k_is); (case tI_NotKept => k_is)
        (case xf_NotKept => (refine' DL.xfC_mk (CC := ⟨fun _ => none⟩) (XC := ⟨0, 0, 0⟩) ?g1_NotKept ?g2_NotKept ?g3_NotKept ?g4_NotKept; (case g1_NotKept => k_is); (case g2_NotKept => k_is); (case g3_NotKept => k_is); (case g4_NotKept => k_is)))
        (case no_NotKept => exact List.forall_mem_cons.mpr ⟨by k_is, List.forall_mem_cons.mpr ⟨by k_is, fun _ z => by cases z⟩⟩)
        (case l_NotKept => k_is); (case c_NotKept => k_is); (case k_NotKept => k_is)
        (case b_NotKept => exact fun _ _ _ _ _ _ us hl => match us, hl with | [_, _, _], _ => rfl)
    case tPen =>
      refine' DL.defT_mk (CC := ⟨fun _ => none⟩) (XC := ⟨0, 0, 0⟩) (st := K01.st__law_pen) KX G ?ap ?lp ?cp ?kp ?bp
      (case ap => k_is); (case lp => k_is); (case cp => k_is); (case kp => k_is)
      exact fun _ _ _ _ _ _ us hl => match us, hl with | [_], _ => rfl
    (case nl => k_is); (case aL => k_is); (case lL => k_is); (case qL => k_is)

