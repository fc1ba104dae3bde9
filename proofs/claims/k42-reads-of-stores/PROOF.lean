import PyProof.Rows.All
import Wide.All
import OpenK.AllK
import Wide.FinOn
import HandS.ForMost
import HandS.ForExc
import HandS.Lambda
import HandS.EndTab
import HandS.TryMany
import HandS.IsInst
import HandS.Zip
import HandS.Strs
import HandS.SortKw
import HandS.Wide
import HandS.Conv
import HandS.NoneIn
import HandS.TupAny
import HandS.TupMul
import HandS.StrMore
import PyProof.StrOps2
import KE.GoesEnum
import KE.GoesEnumKw
import HandS.HeadHook2
import HandS.HeadEnd
import HandS.Head2
import HandS.NestedK
import PyProof.ReprRoads
import KE.KRevSl
import HandS.SetFor
import HandS.TupLe
import PySem.Challenge.RW_halfbits_k42_reads_of_stores
/-! text DLA -/
set_option Elab.async false
set_option linter.all false
set_option maxRecDepth 100000
namespace DL
open PySem PySem.Spec L2

/-! ### data, contents of changing objects, values of expressions -/
inductive D where
  | sc (v : V) | tup (xs : List D) | lst (xs : List D) | dic (kvs : List (Key × D))
  /-- the script -/
  | scr (ns : List Int)
inductive M where
  | lst (xs : List D) | dic (kvs : List (Key × D))
def M.frz : M → D
  | .lst xs => .lst xs
  | .dic kvs => .dic kvs
inductive Wv where
  | pu (d : D) | ow (m : M) | pl (i : Nat) | io (k : Nat)
structure DS where
  sl : List (Option Wv)
  an : List Wv
/-- what stays as it is through a def -/
structure Gd where
  K : PySem.W.Frag
  T : List (Addr × Str)
  A : List V
abbrev Owner := Sum Nat Nat
abbrev Own := Addr → Option Owner

mutual
inductive Rep (K : PySem.W.Frag) (F : Hp) : V → D → Prop
  | sc (v : V) : Rep K F v (.sc v)
  | tup {a : Addr} {vs : List V} {ds : List D} : SqT K F a vs → Reps K F vs ds → Rep K F (.ref a) (.tup ds)
  | lst {a : Addr} {vs : List V} {ds : List D} : F a = some (.lst vs) → Reps K F vs ds → Rep K F (.ref a) (.lst ds)
  | scr {a : Addr} {ns : List Int} : SqL K F a (ns.map V.int) → Rep K F (.ref a) (.scr ns)
  | dic {a : Addr} {vs : List (Key × V)} {ds : List (Key × D)} : Rd F a (.dK vs) → RepK K F vs ds → Rep K F (.ref a) (.dic ds)
inductive Reps (K : PySem.W.Frag) (F : Hp) : List V → List D → Prop
  | nil : Reps K F [] []
  | cons {v : V} {d : D} {vs : List V} {ds : List D} : Rep K F v d → Reps K F vs ds → Reps K F (v :: vs) (d :: ds)
inductive RepK (K : PySem.W.Frag) (F : Hp) : List (Key × V) → List (Key × D) → Prop
  | nil : RepK K F [] []
  | cons {k : Key} {v : V} {d : D} {vs : List (Key × V)} {ds : List (Key × D)} : Rep K F v d → RepK K F vs ds → RepK K F ((k, v) :: vs) ((k, d) :: ds)
end
/-- one heap within another -/
def Sub (F H : Hp) : Prop := ∀ a o, F a = some o → H a = some o
theorem Sub.refl (F : Hp) : Sub F F := fun _ _ h => h
theorem Sub.trans {F G H : Hp} (a : Sub F G) (b : Sub G H) : Sub F H := fun c o h => b c o (a c o h)
theorem Sub.rd {F H : Hp} (s : Sub F H) {a : Addr} {u : HO} (h : Rd F a u) : Rd H a u := by
  rcases h with h | ⟨o, h⟩
  · exact .inl (s _ _ h)
  · exact .inr ⟨o, s _ _ h⟩
theorem Sub.sqL {F H : Hp} (s : Sub F H) {K : PySem.W.Frag} {a : Addr} {xs : List V} (h : SqL K F a xs) : SqL K H a xs := h.imp s.rd id
theorem Sub.sqT {F H : Hp} (s : Sub F H) {K : PySem.W.Frag} {a : Addr} {xs : List V} (h : SqT K F a xs) : SqT K H a xs := h.imp s.rd id
mutual
theorem Rep.sub {K : PySem.W.Frag} {F H : Hp} (s : Sub F H) : ∀ {v : V} {d : D}, Rep K F v d → Rep K H v d
  | _, _, .sc v => .sc v
  | _, _, .tup h r => .tup (s.sqT h) (Reps.sub s r)
  | _, _, .lst h r => .lst (s _ _ h) (Reps.sub s r)
  | _, _, .scr h => .scr (s.sqL h)
  | _, _, .dic h r => .dic (s.rd h) (RepK.sub s r)
theorem Reps.sub {K : PySem.W.Frag} {F H : Hp} (s : Sub F H) : ∀ {v : List V} {d : List D}, Reps K F v d → Reps K H v d
  | _, _, .nil => .nil
  | _, _, .cons h r => .cons (Rep.sub s h) (Reps.sub s r)
theorem RepK.sub {K : PySem.W.Frag} {F H : Hp} (s : Sub F H) : ∀ {v : List (Key × V)} {d : List (Key × D)}, RepK K F v d → RepK K H v d
  | _, _, .nil => .nil
  | _, _, .cons h r => .cons (Rep.sub s h) (RepK.sub s r)
end
theorem Reps.length {K : PySem.W.Frag} {F : Hp} : ∀ {vs : List V} {ds : List D}, Reps K F vs ds → vs.length = ds.length
  | _, _, .nil => rfl
  | _, _, .cons _ r => by simp [Reps.length r]
theorem Reps.get {K : PySem.W.Frag} {F : Hp} : ∀ {vs : List V} {ds : List D} {i : Nat} {d : D}, Reps K F vs ds → ds[i]? = some d → ∃ v, vs[i]? = some v ∧ Rep K F v d
  | _, _, _, _, .nil, h => by simp at h
  | _, _, 0, _, .cons h r, e => by
    simp only [List.getElem?_cons_zero, Option.some.injEq] at e
    subst e
    exact ⟨_, rfl, h⟩
  | _, _, i + 1, _, .cons h r, e => by
    simp only [List.getElem?_cons_succ] at e ⊢
    exact Reps.get r e
theorem Reps.getV {K : PySem.W.Frag} {F : Hp} : ∀ {vs : List V} {ds : List D} {i : Nat} {v : V}, Reps K F vs ds → vs[i]? = some v → ∃ d, ds[i]? = some d ∧ Rep K F v d
  | _, _, _, _, .nil, h => by simp at h
  | _, _, 0, _, .cons h r, e => by
    simp only [List.getElem?_cons_zero, Option.some.injEq] at e
    subst e
    exact ⟨_, rfl, h⟩
  | _, _, i + 1, _, .cons h r, e => by
    simp only [List.getElem?_cons_succ] at e ⊢
    exact Reps.getV r e
theorem Reps.append {K : PySem.W.Frag} {F : Hp} : ∀ {vs ws : List V} {ds es : List D}, Reps K F vs ds → Reps K F ws es → Reps K F (vs ++ ws) (ds ++ es)
  | _, _, _, _, .nil, s => s
  | _, _, _, _, .cons h r, s => .cons h (Reps.append r s)
theorem Reps.one {K : PySem.W.Frag} {F : Hp} {v : V} {d : D} (h : Rep K F v d) : Reps K F [v] [d] := .cons h .nil
theorem Reps.set {K : PySem.W.Frag} {F : Hp} {v : V} {d : D} (h : Rep K F v d) : ∀ {vs : List V} {ds : List D} (i : Nat), Reps K F vs ds → Reps K F (vs.set i v) (ds.set i d)
  | _, _, _, .nil => .nil
  | _, _, 0, .cons _ r => .cons h r
  | _, _, i + 1, .cons g r => .cons g (Reps.set h i r)
theorem Reps.take {K : PySem.W.Frag} {F : Hp} : ∀ {vs : List V} {ds : List D} (i : Nat), Reps K F vs ds → Reps K F (vs.take i) (ds.take i)
  | _, _, 0, _ => .nil
  | _, _, _ + 1, .nil => .nil
  | _, _, i + 1, .cons g r => .cons g (Reps.take i r)
theorem Reps.drop {K : PySem.W.Frag} {F : Hp} : ∀ {vs : List V} {ds : List D} (i : Nat), Reps K F vs ds → Reps K F (vs.drop i) (ds.drop i)
  | _, _, 0, r => r
  | _, _, _ + 1, .nil => .nil
  | _, _, i + 1, .cons g r => Reps.drop i r
theorem Reps.reverse {K : PySem.W.Frag} {F : Hp} : ∀ {vs : List V} {ds : List D}, Reps K F vs ds → Reps K F vs.reverse ds.reverse
  | _, _, .nil => .nil
  | _, _, .cons h r => by
    rw [List.reverse_cons, List.reverse_cons]
    exact (Reps.reverse r).append (.one h)
theorem Reps.scs {K : PySem.W.Frag} {F : Hp} : ∀ vs : List V, Reps K F vs (vs.map D.sc)
  | [] => .nil
  | v :: vs => .cons (.sc v) (Reps.scs vs)

/-- the content of a changing object at a -/
def OwnM (K : PySem.W.Frag) (F H : Hp) (a : Addr) : M → Prop
  | .lst xs => ∃ vs, H a = some (.lst vs) ∧ Reps K F vs xs
  | .dic kvs => ∃ vs, H a = some (.dK vs) ∧ RepK K F vs kvs
theorem OwnM.sub {K : PySem.W.Frag} {F F' H H' : Hp} {a : Addr} {m : M} (x : OwnM K F H a m) (s : Sub F F') (e : ∀ o, H a = some o → (∀ ps, o ≠ .tbl ps) → H' a = some o) : OwnM K F' H' a m := by
  cases m with
  | lst xs => obtain ⟨vs, h, r⟩ := x; exact ⟨vs, e _ h (fun _ z => by cases z), r.sub s⟩
  | dic xs => obtain ⟨vs, h, r⟩ := x; exact ⟨vs, e _ h (fun _ z => by cases z), r.sub s⟩
theorem OwnM.there {K : PySem.W.Frag} {F H : Hp} {a : Addr} {m : M} (x : OwnM K F H a m) : ∃ o, H a = some o ∧ ∀ ps, o ≠ .tbl ps := by
  cases m with
  | lst xs => obtain ⟨vs, h, r⟩ := x; exact ⟨_, h, (fun _ z => by cases z)⟩
  | dic xs => obtain ⟨vs, h, r⟩ := x; exact ⟨_, h, (fun _ z => by cases z)⟩
def Hold (K : PySem.W.Frag) (F H : Hp) (O : Own) (p : Owner) (v : V) (m : M) : Prop := ∃ a, v = .ref a ∧ O a = some p ∧ OwnM K F H a m

def SlOk (g : Gd) (F H : Hp) (O : Own) (i : Nat) (v : V) : Wv → Prop
  | .pu d => Rep g.K F v d
  | .ow m => Hold g.K F H O (.inl i) v m
  | .io k => g.A[k]? = some v
  | .pl _ => False
def AnOk (g : Gd) (F H : Hp) (O : Own) (k : Nat) (v : V) : Wv → Prop
  | .pu d => Rep g.K F v d
  | .ow m => Hold g.K F H O (.inr k) v m
  | _ => False
/-- an object is known there, no table -/
def Live (H : Hp) (a : Addr) : Prop := ∃ o, H a = some o ∧ ∀ ps, o ≠ .tbl ps
theorem Live.not {H : Hp} {a : Addr} (h : H a = none) : ¬ Live H a := fun ⟨_, e, _⟩ => nomatch h.symm.trans e
theorem Live.ne {H : Hp} {a : Addr} : Live H a → H a ≠ none := fun x h => Live.not h x
theorem Live.upd {H : Hp} {a b : Addr} {o : HO} (t : ∀ ps, o ≠ .tbl ps) (x : Live H b) : Live (upd H a o) b := by
  by_cases z : b = a
  · subst z; exact ⟨o, upd_same, t⟩
  · obtain ⟨u, e, t'⟩ := x; exact ⟨u, by rw [upd_ne z]; exact e, t'⟩
structure R (g : Gd) (F H : Hp) (O : Own) (σ : L2.St) (δ : DS) : Prop where
  sub : Sub F H
  sl : ∀ i w, δ.sl[i]? = some (some w) → ∃ v, σ[i]? = some (some v) ∧ SlOk g F H O i v w
  an : ∀ k w, δ.an[k]? = some w → ∃ v, g.A[k]? = some v ∧ AnOk g F H O k v w
  inh : ∀ a, O a ≠ none → Live H a ∧ F a = none
  ntb : ∀ a ps, F a ≠ some (.tbl ps)
  tab : LamX.Tabs g.T H
  len : σ.length = δ.sl.length
/-- an address that is one's own, or new -/
def New (H : Hp) (O : Own) (a : Addr) : Prop := O a ≠ none ∨ ¬ Live H a
structure Step (F H : Hp) (O : Own) (F' H' : Hp) (O' : Own) : Prop where
  ff : Sub F F'
  fr : ∀ a o, H a = some o → O a = none → (∀ ps, o ≠ .tbl ps) → H' a = some o
  th : ∀ a, Live H a → Live H' a
  nf : ∀ a, F' a ≠ none → F a ≠ none ∨ New H O a
  no : ∀ a, O' a ≠ none → New H O a
theorem Step.refl (F H : Hp) (O : Own) : Step F H O F H O := ⟨Sub.refl _, fun _ _ h _ _ => h, fun _ h => h, fun _ h => .inl h, fun _ h => .inl h⟩
theorem Step.new {F H F' H' : Hp} {O O' : Own} (s : Step F H O F' H' O') {a : Addr} (n : New H' O' a) : New H O a := by
  rcases n with n | n
  · exact s.no a n
  · refine Classical.byContradiction fun h => ?_
    exact n (s.th a (Classical.byContradiction fun z => h (.inr z)))
theorem Step.trans {F H F1 H1 F2 H2 : Hp} {O O1 O2 : Own} (s : Step F H O F1 H1 O1) (t : Step F1 H1 O1 F2 H2 O2) : Step F H O F2 H2 O2 where
  ff := s.ff.trans t.ff
  fr := fun a o h n tb => t.fr a o (s.fr a o h n tb) (by
    refine Classical.byContradiction fun z => ?_
    rcases s.no a z with q | q
    · exact q n
    · exact q ⟨_, h, tb⟩) tb
  th := fun a h => t.th a (s.th a h)
  nf := fun a h => by
    rcases t.nf a h with q | q
    · exact s.nf a q
    · exact .inr (s.new q)
  no := fun a h => s.new (t.no a h)
/-- another owner's map, another frozen heap: of new addresses -/
theorem Step.own {F H F1 H1 : Hp} {O O1 O2 : Own} (s : Step F H O F1 H1 O1) (h : ∀ a, O2 a ≠ none → New H O a) : Step F H O F1 H1 O2 := ⟨s.ff, s.fr, s.th, s.nf, h⟩
theorem Step.frz {F H F1 F2 H1 : Hp} {O O1 : Own} (s : Step F H O F1 H1 O1) (k : Sub F1 F2) (h : ∀ a, F2 a ≠ none → F1 a ≠ none ∨ New H O a) : Step F H O F2 H1 O1 :=
  ⟨s.ff.trans k, s.fr, s.th, fun a q => (h a q).elim (s.nf a) .inr, s.no⟩

/-- a value of an expression; H0, O0: where it began -/
def VR (g : Gd) (F H : Hp) (O : Own) (H0 : Hp) (O0 : Own) (σ : L2.St) (v : V) : Wv → Prop
  | .pu d => Rep g.K F v d
  | .ow m => ∃ a, v = .ref a ∧ F a = none ∧ O a = none ∧ New H0 O0 a ∧ OwnM g.K F H a m
  | .pl i => σ[i]? = some (some v)
  | .io k => g.A[k]? = some v
theorem VR.step {g : Gd} {F H F' H' H0 : Hp} {O O' O0 : Own} {σ : L2.St} {v : V} {w : Wv} (x : VR g F H O H0 O0 σ v w) (s : Step F H O F' H' O') : VR g F' H' O' H0 O0 σ v w := by
  cases w with
  | pu d => exact Rep.sub s.ff x
  | ow m =>
    obtain ⟨a, e, f, o, n, x⟩ := x
    obtain ⟨u, hu, nt⟩ := x.there
    refine ⟨a, e, ?_, ?_, n, x.sub s.ff fun o' h nt => s.fr a o' h o nt⟩
    · refine Classical.byContradiction fun z => ?_
      rcases s.nf a z with q | q | q
      · exact q f
      · exact q o
      · exact q ⟨_, hu, nt⟩
    · refine Classical.byContradiction fun z => ?_
      rcases s.no a z with q | q
      · exact q o
      · exact q ⟨_, hu, nt⟩
  | pl i => exact x
  | io k => exact x
theorem VR.back {g : Gd} {F H F0 H0 F1 H1 : Hp} {O O0 O1 : Own} {σ : L2.St} {v : V} {w : Wv} (x : VR g F H O H1 O1 σ v w) (s : Step F0 H0 O0 F1 H1 O1) : VR g F H O H0 O0 σ v w := by
  cases w with
  | pu d => exact x
  | ow m => obtain ⟨a, e, f, o, n, x⟩ := x; exact ⟨a, e, f, o, s.new n, x⟩
  | pl i => exact x
  | io k => exact x

/-! ### readings over data -/
abbrev DQ := Wv → DS → Prop
abbrev DX := Value → DS → Prop
abbrev DTE := DS → DQ → DX → Prop
abbrev DTT := DS → (Bool → DS → Prop) → DX → Prop
abbrev DTA := DS → (List Wv → DS → Prop) → DX → Prop
structure DEnds where
  nx : DS → Prop
  rt : Wv → DS → Prop
  bk : DS → Prop := fun _ => False
  ct : DS → Prop := fun _ => False
  ex : DX := fun _ _ => False
abbrev DTS := DEnds → DS → Prop
def MonoE (t : DTE) : Prop := ∀ δ Q Q' X X', (∀ w δ', Q w δ' → Q' w δ') → (∀ c δ', X c δ' → X' c δ') → t δ Q X → t δ Q' X'
def MonoT (t : DTT) : Prop := ∀ δ Q Q' X X', (∀ w δ', Q w δ' → Q' w δ') → (∀ c δ', X c δ' → X' c δ') → t δ Q X → t δ Q' X'
def MonoA (t : DTA) : Prop := ∀ δ Q Q' X X', (∀ w δ', Q w δ' → Q' w δ') → (∀ c δ', X c δ' → X' c δ') → t δ Q X → t δ Q' X'
structure DEnds.le (D D' : DEnds) : Prop where
  nx : ∀ δ, D.nx δ → D'.nx δ
  rt : ∀ w δ, D.rt w δ → D'.rt w δ
  bk : ∀ δ, D.bk δ → D'.bk δ
  ct : ∀ δ, D.ct δ → D'.ct δ
  ex : ∀ c δ, D.ex c δ → D'.ex c δ
def MonoS (t : DTS) : Prop := ∀ D D' δ, DEnds.le D D' → t D δ → t D' δ

/-- what an exception finds -/
def canX (g : Gd) (Wx : WX) (F H : Hp) (O : Own) (σ : L2.St) : DX := fun c δ' => ∀ F' H' O', Step F H O F' H' O' → R g F' H' O' σ δ' → Wx c none σ H'
/-- the reading over the heap that a reading over data stands for -/
def canE (g : Gd) (Wx : WX) (t : DTE) : TE := fun σ H Q => ∃ F O δ, R g F H O σ δ ∧
  t δ (fun w δ' => ∀ v F' H' O', Step F H O F' H' O' → R g F' H' O' σ δ' → VR g F' H' O' H O σ v w → Q v H') (canX g Wx F H O σ)
def canT (g : Gd) (Wx : WX) (t : DTT) : TT := fun σ H Q => ∃ F O δ, R g F H O σ δ ∧
  t δ (fun b δ' => ∀ F' H' O', Step F H O F' H' O' → R g F' H' O' σ δ' → Q b H') (canX g Wx F H O σ)
def VRs (g : Gd) (F H : Hp) (O : Own) (H0 : Hp) (O0 : Own) (σ : L2.St) (vs : List V) (ws : List Wv) : Prop := Paired (fun v w => VR g F H O H0 O0 σ v w) vs ws
def canA (g : Gd) (Wx : WX) (t : DTA) : TA := fun σ H Q => ∃ F O δ, R g F H O σ δ ∧
  t δ (fun ws δ' => ∀ vs F' H' O', Step F H O F' H' O' → R g F' H' O' σ δ' → VRs g F' H' O' H O σ vs ws → Q vs H') (canX g Wx F H O σ)
structure EndsOk (g : Gd) (Wx : WX) (F H : Hp) (O : Own) (D : L2.Ends) (D' : DEnds) : Prop where
  nx : ∀ δ' F' H' O' σ', Step F H O F' H' O' → R g F' H' O' σ' δ' → D'.nx δ' → D.nx σ' H'
  rt : ∀ w δ' v F' H' O' σ', Step F H O F' H' O' → R g F' H' O' σ' δ' → VR g F' H' O' H O σ' v w → D'.rt w δ' → D.rt v H'
  bk : ∀ δ' F' H' O' σ', Step F H O F' H' O' → R g F' H' O' σ' δ' → D'.bk δ' → D.bk σ' H'
  ct : ∀ δ' F' H' O' σ', Step F H O F' H' O' → R g F' H' O' σ' δ' → D'.ct δ' → D.ct σ' H'
  ex : ∀ c δ' F' H' O' σ', Step F H O F' H' O' → R g F' H' O' σ' δ' → D'.ex c δ' → Wx c none σ' H'
def canS (g : Gd) (Wx : WX) (t : DTS) : TS := fun D σ H => ∃ F O δ D', R g F H O σ δ ∧ EndsOk g Wx F H O D D' ∧ t D' δ

structure DE (X : Cx) (g : Gd) (Wx : WX) (e : Expr) (t : DTE) : Prop where
  mono : MonoE t
  pe : PE X e (canE g Wx t)
structure DT (X : Cx) (g : Gd) (Wx : WX) (e : Expr) (t : DTT) : Prop where
  mono : MonoT t
  pt : PT X e (canT g Wx t)
structure DA (X : Cx) (g : Gd) (Wx : WX) (es : List Expr) (t : DTA) : Prop where
  mono : MonoA t
  pa : PA X es (canA g Wx t)
structure DSt (X : Cx) (g : Gd) (Wx : WX) (s : Stmt) (t : DTS) : Prop where
  mono : MonoS t
  ps : PS X s (canS g Wx t)
structure DSs (X : Cx) (g : Gd) (Wx : WX) (s : List Stmt) (t : DTS) : Prop where
  mono : MonoS t
  ps : PSs X s (canS g Wx t)
/-- a stronger reading -/
theorem peMono {X : Cx} {e : Expr} {t t' : TE} (h : PE X e t) (i : ∀ σ H Q, t' σ H Q → t σ H Q) : PE X e t' := ⟨fun pins s σ H Q I q => h.run pins s σ H Q I (i σ H Q q)⟩
theorem ptMono {X : Cx} {e : Expr} {t t' : TT} (h : PT X e t) (i : ∀ σ H Q, t' σ H Q → t σ H Q) : PT X e t' := ⟨fun pins s σ H Q I q => h.run pins s σ H Q I (i σ H Q q)⟩
theorem paMono {X : Cx} {e : List Expr} {t t' : TA} (h : PA X e t) (i : ∀ σ H Q, t' σ H Q → t σ H Q) : PA X e t' := ⟨fun pos pins s σ H Q I q => h.run pos pins s σ H Q I (i σ H Q q)⟩
theorem psMono {X : Cx} {e : Stmt} {t t' : TS} (h : PS X e t) (i : ∀ D σ H, t' D σ H → t D σ H) : PS X e t' := ⟨fun pins s σ H D I q => h.run pins s σ H D I (i D σ H q)⟩
theorem pssMono {X : Cx} {e : List Stmt} {t t' : TS} (h : PSs X e t) (i : ∀ D σ H, t' D σ H → t D σ H) : PSs X e t' := ⟨fun pins s σ H D I q => h.run pins s σ H D I (i D σ H q)⟩
end DL

/-! text DLB -/
set_option Elab.async false
set_option linter.all false
set_option maxRecDepth 100000
namespace DL
open PySem PySem.Spec L2

/-! ### what a value holds -/
def slD (δ : DS) (k : Nat) : Option D := match δ.an[k]? with
  | some (.pu d) => some d
  | some (.ow m) => some m.frz
  | _ => none
def val (δ : DS) : Wv → Option D
  | .pu d => some d
  | .ow m => some m.frz
  | .pl i => match δ.sl[i]? with
    | some (some (.pu d)) => some d
    | some (some (.ow m)) => some m.frz
    | some (some (.io k)) => slD δ k
    | _ => none
  | .io k => slD δ k
/-- the content at v: its own object in H, what it holds in F -/
def Cont (K : PySem.W.Frag) (F H : Hp) : V → D → Prop
  | v, .sc u => v = u
  | v, .tup ds => ∃ a vs, v = .ref a ∧ SqT K F a vs ∧ Reps K F vs ds
  | v, .lst ds => ∃ a vs, v = .ref a ∧ H a = some (.lst vs) ∧ Reps K F vs ds
  | v, .scr ns => ∃ a, v = .ref a ∧ SqL K H a (ns.map V.int)
  | v, .dic ds => ∃ a vs, v = .ref a ∧ Rd H a (.dK vs) ∧ RepK K F vs ds
theorem Rep.cont {K : PySem.W.Frag} {F H : Hp} (s : Sub F H) {v : V} {d : D} (r : Rep K F v d) : Cont K F H v d := by
  cases r with
  | sc => rfl
  | tup h r => exact ⟨_, _, rfl, h, r⟩
  | lst h r => exact ⟨_, _, rfl, s _ _ h, r⟩
  | scr h => exact ⟨_, rfl, s.sqL h⟩
  | dic h r => exact ⟨_, _, rfl, s.rd h, r⟩
theorem Cont.rep {K : PySem.W.Frag} {F H : Hp} (s : Sub F H) {v : V} {d : D} (r : Cont K F H v d) : Rep K H v d := by
  cases d with
  | sc => subst r; exact .sc _
  | tup ds => obtain ⟨a, vs, rfl, h, r⟩ := r; exact .tup (s.sqT h) (r.sub s)
  | lst ds => obtain ⟨a, vs, rfl, h, r⟩ := r; exact .lst h (r.sub s)
  | scr ns => obtain ⟨a, rfl, h⟩ := r; exact .scr h
  | dic ds => obtain ⟨a, vs, rfl, h, r⟩ := r; exact .dic h (r.sub s)
theorem OwnM.cont {K : PySem.W.Frag} {F H : Hp} {a : Addr} {m : M} (x : OwnM K F H a m) : Cont K F H (.ref a) m.frz := by
  cases m with
  | lst xs => obtain ⟨vs, h, r⟩ := x; exact ⟨a, vs, rfl, h, r⟩
  | dic xs => obtain ⟨vs, h, r⟩ := x; exact ⟨a, vs, rfl, .inl h, r⟩
section
variable {g : Gd} {F H H0 : Hp} {O O0 : Own} {σ : L2.St} {δ : DS} {v : V} {w : Wv} {d : D}
theorem R.anD (r : R g F H O σ δ) {k : Nat} (hk : g.A[k]? = some v) (e : slD δ k = some d) : Cont g.K F H v d := by
  unfold slD at e
  cases h : δ.an[k]? with
  | none => rw [h] at e; cases e
  | some w =>
    rw [h] at e
    obtain ⟨v', hv, x⟩ := r.an k w h
    rw [hk] at hv
    cases hv
    cases w with
    | pu d' => cases e; exact Rep.cont r.sub x
    | ow m => cases e; obtain ⟨a, rfl, _, x⟩ := x; exact x.cont
    | pl i => exact x.elim
    | io k => exact x.elim
theorem R.cont (r : R g F H O σ δ) (x : VR g F H O H0 O0 σ v w) (e : val δ w = some d) : Cont g.K F H v d := by
  cases w with
  | pu d' => cases e; exact Rep.cont r.sub x
  | ow m => cases e; obtain ⟨a, rfl, _, _, _, x⟩ := x; exact x.cont
  | io k => exact r.anD x e
  | pl i =>
    have x : σ[i]? = some (some v) := x
    unfold val at e
    cases h : δ.sl[i]? with
    | none => simp only [h] at e; cases e
    | some o =>
      cases o with
      | none => simp only [h] at e; cases e
      | some w =>
        obtain ⟨v', hv, y⟩ := r.sl i w h
        rw [x] at hv
        cases hv
        simp only [h] at e
        cases w with
        | pu d' => cases e; exact Rep.cont r.sub y
        | ow m => cases e; obtain ⟨a, rfl, _, y⟩ := y; exact y.cont
        | io k => exact r.anD y e
        | pl i => exact y.elim
/-- a new object is laid, the frozen heap stays -/
theorem R.laid (r : R g F H O σ δ) {p : Addr} {o : HO} (n : H p = none) : R g F (upd H p o) O σ δ ∧ Step F H O F (upd H p o) O := by
  have k : Sub H (upd H p o) := fun a u e => by rw [upd_ne (ne_of_none e n)]; exact e
  have hl : ∀ {q : Owner} {v : V} {m : M}, Hold g.K F H O q v m → Hold g.K F (upd H p o) O q v m := fun ⟨a, e, h, x⟩ => ⟨a, e, h, x.sub (Sub.refl _) fun o h _ => k _ _ h⟩
  refine ⟨⟨r.sub.trans k, fun i w h => ?_, fun i w h => ?_, fun a h => ?_, r.ntb, r.tab.ext k, r.len⟩, ⟨Sub.refl _, fun a u h _ _ => k a u h, fun a h => ?_, fun a h => .inl h, fun a h => .inl h⟩⟩
  · obtain ⟨v, h1, h2⟩ := r.sl i w h
    refine ⟨v, h1, ?_⟩
    cases w with
    | ow m => exact hl h2
    | _ => exact h2
  · obtain ⟨v, h1, h2⟩ := r.an i w h
    refine ⟨v, h1, ?_⟩
    cases w with
    | ow m => exact hl h2
    | _ => exact h2
  · obtain ⟨h1, h2⟩ := r.inh a h
    refine ⟨?_, h2⟩
    obtain ⟨u, q, t⟩ := h1
    exact ⟨u, k _ _ q, t⟩
  · obtain ⟨u, q, t⟩ := h
    exact ⟨u, k _ _ q, t⟩
theorem R.dead (r : R g F H O σ δ) {p : Addr} (n : ¬ Live H p) : F p = none ∧ O p = none := by
  refine ⟨?_, Classical.byContradiction fun z => n (r.inh p z).1⟩
  cases q : F p with
  | none => rfl
  | some u => exact absurd ⟨u, r.sub p u q, fun ps z => r.ntb p ps (by rw [q, z])⟩ n
theorem R.free (r : R g F H O σ δ) {p : Addr} (n : H p = none) : F p = none ∧ O p = none := by
  constructor
  · cases q : F p with
    | none => rfl
    | some u => rw [r.sub _ _ q] at n; cases n
  · refine Classical.byContradiction fun z => ?_
    exact (r.inh p z).1.ne n
/-- an object is frozen -/
theorem R.froze (r : R g F H O σ δ) {p : Addr} {o : HO} (h : H p = some o) (n : O p = none) (nt : ∀ ps, o ≠ .tbl ps) : R g (upd F p o) H O σ δ ∧ Sub F (upd F p o) := by
  have k : Sub F (upd F p o) := fun a u e => by
    by_cases z : a = p
    · subst z; rw [r.sub _ _ e] at h; cases h; exact upd_same
    · rw [upd_ne z]; exact e
  have hl : ∀ {q : Owner} {v : V} {m : M}, Hold g.K F H O q v m → Hold g.K (upd F p o) H O q v m := fun ⟨a, e, h, x⟩ => ⟨a, e, h, x.sub k fun o h _ => h⟩
  refine ⟨⟨fun a u e => ?_, fun i w h => ?_, fun i w h => ?_, fun a h => ?_, fun a ps => ?_, r.tab, r.len⟩, k⟩
  · by_cases z : a = p
    · subst z; rw [upd_same] at e; cases e; exact h
    · rw [upd_ne z] at e; exact r.sub _ _ e
  · obtain ⟨v, h1, h2⟩ := r.sl i w h
    refine ⟨v, h1, ?_⟩
    cases w with
    | ow m => exact hl h2
    | pu d => exact Rep.sub k h2
    | _ => exact h2
  · obtain ⟨v, h1, h2⟩ := r.an i w h
    refine ⟨v, h1, ?_⟩
    cases w with
    | ow m => exact hl h2
    | pu d => exact Rep.sub k h2
    | _ => exact h2
  · obtain ⟨h1, h2⟩ := r.inh a h
    refine ⟨h1, ?_⟩
    rw [upd_ne (fun z => h (by rw [z]; exact n))]
    exact h2
  · by_cases z : a = p
    · subst z; rw [upd_same]; intro q; cases q; exact nt _ rfl
    · rw [upd_ne z]; exact r.ntb a ps
end
theorem canX.step {g : Gd} {Wx : WX} {F H F1 H1 : Hp} {O O1 : Own} {σ : L2.St} {c : Value} {δ : DS} (x : canX g Wx F H O σ c δ) (s : Step F H O F1 H1 O1) : canX g Wx F1 H1 O1 σ c δ :=
  fun F' H' O' s' r' => x F' H' O' (s.trans s') r'

/-! ### names, constants -/
def dVar (i : Nat) : DTE := fun δ Q _ => match δ.sl[i]? with
  | some (some (.pu d)) => Q (.pu d) δ
  | some (some (.ow _)) => Q (.pl i) δ
  | some (some (.io k)) => Q (.io k) δ
  | _ => False
def dC (v : V) : DTE := fun δ Q _ => Q (.pu (.sc v)) δ
section
variable {X : Cx} {g : Gd} {Wx : WX} {e a b c : Expr} {es : List Expr} {ta tb tc : DTE} {tA : DTA} {pos : Pos}
theorem de_var (i : Nat) (hp : PE X e (tVar i)) : DE X g Wx e (dVar i) := by
  refine ⟨fun δ Q Q' Y Y' hQ hY h => ?_, peMono hp ?_⟩
  · unfold dVar at h ⊢
    split at h
    · exact hQ _ _ h
    · exact hQ _ _ h
    · exact hQ _ _ h
    · exact h
  · rintro σ H Q ⟨F, O, δ, r, h⟩
    unfold dVar at h
    cases hs : δ.sl[i]? with
    | none => rw [hs] at h; exact h.elim
    | some o =>
      cases o with
      | none => rw [hs] at h; exact h.elim
      | some w =>
        obtain ⟨v, hv, x⟩ := r.sl i w hs
        rw [hs] at h
        refine ⟨v, hv, ?_⟩
        cases w with
        | pu d => exact h v F H O (Step.refl _ _ _) r x
        | ow m => exact h v F H O (Step.refl _ _ _) r hv
        | io k => exact h v F H O (Step.refl _ _ _) r x
        | pl i => exact h.elim
theorem de_tc {v : V} (hp : PE X e (tC v)) : DE X g Wx e (dC v) := by
  refine ⟨fun δ Q Q' Y Y' hQ hY h => hQ _ _ h, peMono hp ?_⟩
  rintro σ H Q ⟨F, O, δ, r, h⟩
  exact h v F H O (Step.refl _ _ _) r (.sc v)

/-! ### operators on values -/
abbrev P1 := D → (Wv → Prop) → Prop
abbrev P2 := D → D → (Wv → Prop) → Prop
abbrev PN := List D → (Wv → Prop) → Prop
def Mo1 (p : P1) : Prop := ∀ d Q Q', (∀ w, Q w → Q' w) → p d Q → p d Q'
def Mo2 (p : P2) : Prop := ∀ d d' Q Q', (∀ w, Q w → Q' w) → p d d' Q → p d d' Q'
def MoN (p : PN) : Prop := ∀ d Q Q', (∀ w, Q w → Q' w) → p d Q → p d Q'
/-- what is wanted of the values' rule r, that it does what p says of data -/
structure Pr2 (g : Gd) (r : R2) (p : P2) : Prop where
  mono : Mo2 p
  ok : ∀ {F H O σ δ x y dx dy} {Q : VK} {Qd : Wv → Prop}, R g F H O σ δ → Cont g.K F H x dx → Cont g.K F H y dy → p dx dy Qd →
    (∀ z H' F' w, Step F H O F' H' O → R g F' H' O σ δ → VR g F' H' O H O σ z w → Qd w → Q z H') → r x y H Q
structure Pr1 (g : Gd) (r : V → Hp → VK → Prop) (p : P1) : Prop where
  mono : Mo1 p
  ok : ∀ {F H O σ δ x dx} {Q : VK} {Qd : Wv → Prop}, R g F H O σ δ → Cont g.K F H x dx → p dx Qd →
    (∀ z H' F' w, Step F H O F' H' O → R g F' H' O σ δ → VR g F' H' O H O σ z w → Qd w → Q z H') → r x H Q
structure PrN (g : Gd) (r : List V → Hp → VK → Prop) (p : PN) : Prop where
  mono : MoN p
  ok : ∀ {F H O σ δ xs ds} {Q : VK} {Qd : Wv → Prop}, R g F H O σ δ → Paired (Cont g.K F H) xs ds → p ds Qd →
    (∀ z H' F' w, Step F H O F' H' O → R g F' H' O σ δ → VR g F' H' O H O σ z w → Qd w → Q z H') → r xs H Q
def dOp (p : P2) (ta tb : DTE) : DTE := fun δ Q Y => ta δ (fun x δ1 => tb δ1 (fun y δ2 => ∃ dx, val δ2 x = some dx ∧ ∃ dy, val δ2 y = some dy ∧ p dx dy fun w => Q w δ2) Y) Y
theorem dOp_mono {p : P2} (hp : Mo2 p) (ha : MonoE ta) (hb : MonoE tb) : MonoE (dOp p ta tb) := fun δ Q Q' Y Y' hQ hY h =>
  ha _ _ _ _ _ (fun x δ1 h => hb _ _ _ _ _ (fun y δ2 ⟨dx, e1, dy, e2, h⟩ => ⟨dx, e1, dy, e2, hp _ _ _ _ (fun w => hQ w δ2) h⟩) hY h) hY h
theorem opCan {r : R2} {p : P2} (pr : Pr2 g r p) (ha : MonoE ta) (hb : MonoE tb) (σ : L2.St) (H : Hp) (Q : VK) : canE g Wx (dOp p ta tb) σ H Q → tOp r (canE g Wx ta) (canE g Wx tb) σ H Q := by
  rintro ⟨F, O, δ, r0, h⟩
  refine ⟨F, O, δ, r0, ha _ _ _ _ _ (fun x δ1 h v1 F1 H1 O1 s1 r1 x1 => ?_) (fun _ _ z => z) h⟩
  refine ⟨F1, O1, δ1, r1, hb _ _ _ _ _ (fun y δ2 h v2 F2 H2 O2 s2 r2 x2 => ?_) (fun c δ z => z.step s1) h⟩
  obtain ⟨dx, e1, dy, e2, h⟩ := h
  exact pr.ok r2 (r2.cont (x1.step s2) e1) (r2.cont x2 e2) h fun z H3 F3 w s3 r3 x3 q => q z F3 H3 O2 ((s1.trans s2).trans s3) r3 (x3.back (s1.trans s2))
theorem de_op {op : Operator} {r : R2} {p : P2} (ho : OpR X (binaryOp op) r) (pr : Pr2 g r p) (ha : DE X g Wx a ta) (hb : DE X g Wx b tb) : DE X g Wx (.BinOp a op b pos) (dOp p ta tb) :=
  ⟨dOp_mono pr.mono ha.mono hb.mono, peMono (pe_op ho ha.pe hb.pe) (opCan pr ha.mono hb.mono)⟩
theorem de_cmp {op : CmpOp} {r : R2} {p : P2} (ho : OpR X (compareOp op) r) (pr : Pr2 g r p) (ha : DE X g Wx a ta) (hb : DE X g Wx b tb) (hm : behindInMarks op b = false) : DE X g Wx (.Compare a [op] [b] pos) (dOp p ta tb) :=
  ⟨dOp_mono pr.mono ha.mono hb.mono, peMono (pe_cmpR ho ha.pe hb.pe hm) (opCan pr ha.mono hb.mono)⟩
theorem de_ix {r : R2} {p : P2} (ho : IxR X r) (pr : Pr2 g r p) (ha : DE X g Wx a ta) (hb : DE X g Wx b tb) (hs : PlainIx b) : DE X g Wx (.Subscript a b pos) (dOp p ta tb) :=
  ⟨dOp_mono pr.mono ha.mono hb.mono, peMono (pe_ix ho ha.pe hb.pe hs) (opCan pr ha.mono hb.mono)⟩
def dUn (p : P1) (ta : DTE) : DTE := fun δ Q Y => ta δ (fun x δ1 => ∃ dx, val δ1 x = some dx ∧ p dx fun w => Q w δ1) Y
theorem dUn_mono {p : P1} (hp : Mo1 p) (ha : MonoE ta) : MonoE (dUn p ta) := fun δ Q Q' Y Y' hQ hY h =>
  ha _ _ _ _ _ (fun x δ1 ⟨dx, e1, h⟩ => ⟨dx, e1, hp _ _ _ (fun w => hQ w δ1) h⟩) hY h
theorem unCan {r : V → Hp → VK → Prop} {p : P1} (pr : Pr1 g r p) (ha : MonoE ta) (σ : L2.St) (H : Hp) (Q : VK) : canE g Wx (dUn p ta) σ H Q → canE g Wx ta σ H fun x H1 => r x H1 Q := by
  rintro ⟨F, O, δ, r0, h⟩
  refine ⟨F, O, δ, r0, ha _ _ _ _ _ (fun x δ1 h v1 F1 H1 O1 s1 r1 x1 => ?_) (fun _ _ z => z) h⟩
  obtain ⟨dx, e1, h⟩ := h
  exact pr.ok r1 (r1.cont x1 e1) h fun z H3 F3 w s3 r3 x3 q => q z F3 H3 O1 (s1.trans s3) r3 (x3.back s1)
theorem de_un {op : UnaryOp} {r : V → Hp → VK → Prop} {p : P1} (ho : UnR X (unaryOp op) r) (pr : Pr1 g r p) (ha : DE X g Wx a ta) : DE X g Wx (.UnaryOp op a pos) (dUn p ta) :=
  ⟨dUn_mono pr.mono ha.mono, peMono (pe_un ho ha.pe) (unCan pr ha.mono)⟩

/-! ### arguments -/
def dNil : DTA := fun δ Q _ => Q [] δ
def dCons (ta : DTE) (tA : DTA) : DTA := fun δ Q Y => ta δ (fun x δ1 => tA δ1 (fun xs δ2 => Q (x :: xs) δ2) Y) Y
theorem da_nil : DA X g Wx [] dNil := by
  refine ⟨fun δ Q Q' Y Y' hQ hY h => hQ _ _ h, paMono pa_nil ?_⟩
  rintro σ H Q ⟨F, O, δ, r, h⟩
  exact h [] F H O (Step.refl _ _ _) r .nil
theorem da_cons (ha : DE X g Wx a ta) (hr : DA X g Wx es tA) (hs : starEach (a :: es) X.env = (false, eval a X.env) :: starEach es X.env := by rfl) : DA X g Wx (a :: es) (dCons ta tA) := by
  refine ⟨fun δ Q Q' Y Y' hQ hY h => ha.mono _ _ _ _ _ (fun x δ1 h => hr.mono _ _ _ _ _ (fun xs δ2 h => hQ _ _ h) hY h) hY h, paMono (pa_cons ha.pe hr.pa hs) ?_⟩
  rintro σ H Q ⟨F, O, δ, r0, h⟩
  refine ⟨F, O, δ, r0, ha.mono _ _ _ _ _ (fun x δ1 h v1 F1 H1 O1 s1 r1 x1 => ?_) (fun _ _ z => z) h⟩
  refine ⟨F1, O1, δ1, r1, hr.mono _ _ _ _ _ (fun ys δ2 h vs F2 H2 O2 s2 r2 x2 => ?_) (fun c δ z => z.step s1) h⟩
  exact h (v1 :: vs) F2 H2 O2 (s1.trans s2) r2 (.cons (x1.step s2) (L2.Paired.mapP x2 fun _ _ z => z.back s1))
def vals (δ : DS) : List Wv → Option (List D)
  | [] => some []
  | w :: ws => match val δ w, vals δ ws with
    | some d, some ds => some (d :: ds)
    | _, _ => none
theorem R.conts {F H H0 : Hp} {O O0 : Own} {σ : L2.St} {δ : DS} (r : R g F H O σ δ) : ∀ {vs : List V} {ws : List Wv} {ds : List D}, VRs g F H O H0 O0 σ vs ws → vals δ ws = some ds → Paired (Cont g.K F H) vs ds
  | _, _, _, .nil, e => by
    cases e
    exact .nil
  | _, _, ds, .cons (b := w) (l₂ := ws) x xs, e => by
    simp only [vals] at e
    cases h1 : val δ w with
    | none => simp only [h1] at e; cases e
    | some d =>
      cases h2 : vals δ ws with
      | none => simp only [h1, h2] at e; cases e
      | some ds' =>
        simp only [h1, h2] at e
        cases e
        exact .cons (r.cont x h1) (R.conts r xs h2)
def dCallP (p : PN) (tA : DTA) : DTE := fun δ Q Y => tA δ (fun ws δ1 => ∃ ds, vals δ1 ws = some ds ∧ p ds fun w => Q w δ1) Y
theorem dCallP_mono {p : PN} (hp : MoN p) (ha : MonoA tA) : MonoE (dCallP p tA) := fun δ Q Q' Y Y' hQ hY h =>
  ha _ _ _ _ _ (fun x δ1 ⟨dx, e1, h⟩ => ⟨dx, e1, hp _ _ _ (fun w => hQ w δ1) h⟩) hY h
theorem callCan {r : List V → Hp → VK → Prop} {p : PN} (pr : PrN g r p) (ha : MonoA tA) (σ : L2.St) (H : Hp) (Q : VK) : canE g Wx (dCallP p tA) σ H Q → tCB r (canA g Wx tA) σ H Q := by
  rintro ⟨F, O, δ, r0, h⟩
  refine ⟨F, O, δ, r0, ha _ _ _ _ _ (fun x δ1 h v1 F1 H1 O1 s1 r1 x1 => ?_) (fun _ _ z => z) h⟩
  obtain ⟨dx, e1, h⟩ := h
  exact pr.ok r1 (r1.conts x1 e1) h fun z H3 F3 w s3 r3 x3 q => q z F3 H3 O1 (s1.trans s3) r3 (x3.back s1)
theorem de_callP {r : List V → Hp → VK → Prop} {p : PN} (hp : PE X e (tCB r (canA g Wx tA))) (pr : PrN g r p) (ha : DA X g Wx es tA) : DE X g Wx e (dCallP p tA) :=
  ⟨dCallP_mono pr.mono ha.mono, peMono hp (callCan pr ha.mono)⟩
end
end DL

/-! text DLC -/
set_option Elab.async false
set_option linter.all false
set_option maxRecDepth 100000
namespace DL
open PySem PySem.Spec L2
section
variable {X : Cx} {g : Gd} {Wx : WX} {e a b c : Expr} {es rest : List Expr} {ta tb tc : DTE} {tA : DTA} {t u : DTT} {pos : Pos}

/-! ### tests -/
def dTst (ta : DTE) : DTT := fun δ Q Y => ta δ (fun x δ1 => ∃ k, val δ1 x = some (.sc (.bl k)) ∧ Q k δ1) Y
theorem dTst_mono (ha : MonoE ta) : MonoT (dTst ta) := fun δ Q Q' Y Y' hQ hY h => ha _ _ _ _ _ (fun x δ1 ⟨k, e, h⟩ => ⟨k, e, hQ _ _ h⟩) hY h
theorem tstCan (ha : MonoE ta) (σ : L2.St) (H : Hp) (Q : Bool → Hp → Prop) : canT g Wx (dTst ta) σ H Q → canE g Wx ta σ H fun x H' => ∃ k, x = .bl k ∧ Q k H' := by
  rintro ⟨F, O, δ, r0, h⟩
  refine ⟨F, O, δ, r0, ha _ _ _ _ _ (fun x δ1 h v1 F1 H1 O1 s1 r1 x1 => ?_) (fun _ _ z => z) h⟩
  obtain ⟨k, e1, h⟩ := h
  have := r1.cont x1 e1
  exact ⟨k, this, h F1 H1 O1 s1 r1⟩
theorem dt_val (h : DE X g Wx e ta) (he : ∀ whole, isTrue e X.env whole = (do let v ← whole; standAt e.pos; holding [v] (truthy v)) := by intro _; rfl) : DT X g Wx e (dTst ta) :=
  ⟨dTst_mono h.mono, ptMono (pt_val h.pe he) (tstCan h.mono)⟩
theorem dt_cmp {op : CmpOp} {r : R2} {p : P2} (ho : OpR X (compareOp op) r) (pr : Pr2 g r p) (ha : DE X g Wx a ta) (hb : DE X g Wx b tb) (hm : behindInMarks op b = false) : DT X g Wx (.Compare a [op] [b] pos) (dTst (dOp p ta tb)) := by
  have hd := dOp_mono pr.mono ha.mono hb.mono
  refine ⟨dTst_mono hd, ptMono (pt_cmpR ho ha.pe hb.pe hm) fun σ H Q h => ?_⟩
  exact opCan pr ha.mono hb.mono σ H _ (tstCan hd σ H Q h)
/-- a value's own reading as a test's, whatever its syntax -/
theorem dt_of {te : TE} (hm : MonoE ta) (hp : PT X e (tTest te)) (i : ∀ σ H Q, canE g Wx ta σ H Q → te σ H Q) : DT X g Wx e (dTst ta) :=
  ⟨dTst_mono hm, ptMono hp fun σ H Q h => i σ H _ (tstCan hm σ H Q h)⟩
def dAnd (t u : DTT) : DTT := fun δ Q Y => t δ (fun k δ1 => if k = true then u δ1 Q Y else Q false δ1) Y
def dOr (t u : DTT) : DTT := fun δ Q Y => t δ (fun k δ1 => if k = true then Q true δ1 else u δ1 Q Y) Y
def dNot (t : DTT) : DTT := fun δ Q Y => t δ (fun k δ1 => Q (!k) δ1) Y
theorem dAnd_mono (h : MonoT t) (h' : MonoT u) : MonoT (dAnd t u) := fun δ Q Q' Y Y' hQ hY q => h _ _ _ _ _ (fun k δ1 q => by
  cases k with
  | true => exact h' _ _ _ _ _ hQ hY q
  | false => exact hQ _ _ q) hY q
theorem dOr_mono (h : MonoT t) (h' : MonoT u) : MonoT (dOr t u) := fun δ Q Q' Y Y' hQ hY q => h _ _ _ _ _ (fun k δ1 q => by
  cases k with
  | false => exact h' _ _ _ _ _ hQ hY q
  | true => exact hQ _ _ q) hY q
theorem dNot_mono (h : MonoT t) : MonoT (dNot t) := fun δ Q Q' Y Y' hQ hY q => h _ _ _ _ _ (fun k δ1 q => hQ _ _ q) hY q
structure DW (X : Cx) (g : Gd) (Wx : WX) (e : Expr) (t : DTT) : Prop where
  mono : MonoT t
  pw : PW X e (canT g Wx t)
theorem pwMono {e : Expr} {t t' : TT} (h : PW X e t) (i : ∀ σ H Q, t' σ H Q → t σ H Q) : PW X e t' := ⟨fun wh pins s σ H Q I q => h.run wh pins s σ H Q I (i σ H Q q)⟩
theorem DW.dt (h : DW X g Wx e t) : DT X g Wx e t := ⟨h.mono, h.pw.pt⟩
theorem dw_and1 (h : DT X g Wx a t) : DW X g Wx (.BoolOp .And [a] pos) t := ⟨h.mono, pw_and1 h.pt⟩
theorem dw_or1 (h : DT X g Wx a t) : DW X g Wx (.BoolOp .Or [a] pos) t := ⟨h.mono, pw_or1 h.pt⟩
theorem dw_and (h : DT X g Wx a t) (h' : DW X g Wx (.BoolOp .And (b :: rest) pos) u) : DW X g Wx (.BoolOp .And (a :: b :: rest) pos) (dAnd t u) := by
  refine ⟨dAnd_mono h.mono h'.mono, pwMono (pw_and h.pt h'.pw) ?_⟩
  rintro σ H Q ⟨F, O, δ, r0, q⟩
  refine ⟨F, O, δ, r0, h.mono _ _ _ _ _ (fun k δ1 q F1 H1 O1 s1 r1 => ?_) (fun _ _ z => z) q⟩
  cases k with
  | true => exact ⟨F1, O1, δ1, r1, h'.mono _ _ _ _ _ (fun k δ2 q F2 H2 O2 s2 r2 => q F2 H2 O2 (s1.trans s2) r2) (fun c δ z => z.step s1) q⟩
  | false => exact q F1 H1 O1 s1 r1
theorem dw_or (h : DT X g Wx a t) (h' : DW X g Wx (.BoolOp .Or (b :: rest) pos) u) : DW X g Wx (.BoolOp .Or (a :: b :: rest) pos) (dOr t u) := by
  refine ⟨dOr_mono h.mono h'.mono, pwMono (pw_or h.pt h'.pw) ?_⟩
  rintro σ H Q ⟨F, O, δ, r0, q⟩
  refine ⟨F, O, δ, r0, h.mono _ _ _ _ _ (fun k δ1 q F1 H1 O1 s1 r1 => ?_) (fun _ _ z => z) q⟩
  cases k with
  | false => exact ⟨F1, O1, δ1, r1, h'.mono _ _ _ _ _ (fun k δ2 q F2 H2 O2 s2 r2 => q F2 H2 O2 (s1.trans s2) r2) (fun c δ z => z.step s1) q⟩
  | true => exact q F1 H1 O1 s1 r1
theorem dt_not (h : DT X g Wx a t) : DT X g Wx (.UnaryOp .Not a pos) (dNot t) := by
  refine ⟨dNot_mono h.mono, ptMono (pt_not h.pt) ?_⟩
  rintro σ H Q ⟨F, O, δ, r0, q⟩
  exact ⟨F, O, δ, r0, h.mono _ _ _ _ _ (fun k δ1 q F1 H1 O1 s1 r1 => q F1 H1 O1 s1 r1) (fun _ _ z => z) q⟩
/-! ### .. as values (bools) -/
def dAndV (ta tb : DTE) : DTE := fun δ Q Y => ta δ (fun x δ1 => ∃ k, val δ1 x = some (.sc (.bl k)) ∧ if k = true then tb δ1 Q Y else Q (.pu (.sc (.bl false))) δ1) Y
def dOrV (ta tb : DTE) : DTE := fun δ Q Y => ta δ (fun x δ1 => ∃ k, val δ1 x = some (.sc (.bl k)) ∧ if k = true then Q (.pu (.sc (.bl true))) δ1 else tb δ1 Q Y) Y
def dNotV (ta : DTE) : DTE := fun δ Q Y => ta δ (fun x δ1 => ∃ k, val δ1 x = some (.sc (.bl k)) ∧ Q (.pu (.sc (.bl (!k)))) δ1) Y
theorem de_one {op} (h : DE X g Wx a ta) : DE X g Wx (.BoolOp op [a] pos) ta := ⟨h.mono, pe_one h.pe⟩
theorem de_and (ha : DE X g Wx a ta) (hb : DE X g Wx (.BoolOp .And (b :: rest) pos) tb) : DE X g Wx (.BoolOp .And (a :: b :: rest) pos) (dAndV ta tb) := by
  refine ⟨fun δ Q Q' Y Y' hQ hY q => ha.mono _ _ _ _ _ (fun x δ1 ⟨k, e, q⟩ => ⟨k, e, (by
    cases k with
    | true => exact hb.mono _ _ _ _ _ hQ hY q
    | false => exact hQ _ _ q)⟩) hY q, peMono (pe_and ha.pe hb.pe) ?_⟩
  rintro σ H Q ⟨F, O, δ, r0, q⟩
  refine ⟨F, O, δ, r0, ha.mono _ _ _ _ _ (fun x δ1 q v1 F1 H1 O1 s1 r1 x1 => ?_) (fun _ _ z => z) q⟩
  obtain ⟨k, e, q⟩ := q
  have ev := r1.cont x1 e
  refine ⟨k, ev, ?_⟩
  cases k with
  | true => exact ⟨F1, O1, δ1, r1, hb.mono _ _ _ _ _ (fun w δ2 q v F2 H2 O2 s2 r2 x2 => q v F2 H2 O2 (s1.trans s2) r2 (x2.back s1)) (fun c δ z => z.step s1) q⟩
  | false => exact q _ F1 H1 O1 s1 r1 (.sc _)
theorem de_or (ha : DE X g Wx a ta) (hb : DE X g Wx (.BoolOp .Or (b :: rest) pos) tb) : DE X g Wx (.BoolOp .Or (a :: b :: rest) pos) (dOrV ta tb) := by
  refine ⟨fun δ Q Q' Y Y' hQ hY q => ha.mono _ _ _ _ _ (fun x δ1 ⟨k, e, q⟩ => ⟨k, e, (by
    cases k with
    | false => exact hb.mono _ _ _ _ _ hQ hY q
    | true => exact hQ _ _ q)⟩) hY q, peMono (pe_or ha.pe hb.pe) ?_⟩
  rintro σ H Q ⟨F, O, δ, r0, q⟩
  refine ⟨F, O, δ, r0, ha.mono _ _ _ _ _ (fun x δ1 q v1 F1 H1 O1 s1 r1 x1 => ?_) (fun _ _ z => z) q⟩
  obtain ⟨k, e, q⟩ := q
  have ev := r1.cont x1 e
  refine ⟨k, ev, ?_⟩
  cases k with
  | false => exact ⟨F1, O1, δ1, r1, hb.mono _ _ _ _ _ (fun w δ2 q v F2 H2 O2 s2 r2 x2 => q v F2 H2 O2 (s1.trans s2) r2 (x2.back s1)) (fun c δ z => z.step s1) q⟩
  | true => exact q _ F1 H1 O1 s1 r1 (.sc _)
theorem de_not (ha : DE X g Wx a ta) : DE X g Wx (.UnaryOp .Not a pos) (dNotV ta) := by
  refine ⟨fun δ Q Q' Y Y' hQ hY q => ha.mono _ _ _ _ _ (fun x δ1 ⟨k, e, q⟩ => ⟨k, e, hQ _ _ q⟩) hY q, peMono (pe_not ha.pe) ?_⟩
  rintro σ H Q ⟨F, O, δ, r0, q⟩
  refine ⟨F, O, δ, r0, ha.mono _ _ _ _ _ (fun x δ1 q v1 F1 H1 O1 s1 r1 x1 => ?_) (fun _ _ z => z) q⟩
  obtain ⟨k, e, q⟩ := q
  have ev := r1.cont x1 e
  exact ⟨k, ev, q _ F1 H1 O1 s1 r1 (.sc _)⟩
def dIf (t : DTT) (ta tb : DTE) : DTE := fun δ Q Y => t δ (fun k δ1 => if k = true then ta δ1 Q Y else tb δ1 Q Y) Y
theorem de_if (h : DT X g Wx c t) (ha : DE X g Wx a ta) (hb : DE X g Wx b tb) : DE X g Wx (.IfExp c a b pos) (dIf t ta tb) := by
  refine ⟨fun δ Q Q' Y Y' hQ hY q => h.mono _ _ _ _ _ (fun k δ1 q => by
    cases k with
    | false => exact hb.mono _ _ _ _ _ hQ hY q
    | true => exact ha.mono _ _ _ _ _ hQ hY q) hY q, peMono (pe_ifExp h.pt ha.pe hb.pe) ?_⟩
  rintro σ H Q ⟨F, O, δ, r0, q⟩
  refine ⟨F, O, δ, r0, h.mono _ _ _ _ _ (fun k δ1 q F1 H1 O1 s1 r1 => ?_) (fun _ _ z => z) q⟩
  cases k with
  | true => exact ⟨F1, O1, δ1, r1, ha.mono _ _ _ _ _ (fun w δ2 q v F2 H2 O2 s2 r2 x2 => q v F2 H2 O2 (s1.trans s2) r2 (x2.back s1)) (fun c δ z => z.step s1) q⟩
  | false => exact ⟨F1, O1, δ1, r1, hb.mono _ _ _ _ _ (fun w δ2 q v F2 H2 O2 s2 r2 x2 => q v F2 H2 O2 (s1.trans s2) r2 (x2.back s1)) (fun c δ z => z.step s1) q⟩

/-! ### freezing -/
def DS.put (δ : DS) (i : Nat) (w : Option Wv) : DS := ⟨δ.sl.set i w, δ.an⟩
def frz1 (δ : DS) : Wv → Option (D × DS)
  | .pu d => some (d, δ)
  | .ow m => some (m.frz, δ)
  | .pl i => match δ.sl[i]? with
    | some (some (.pu d)) => some (d, δ)
    | some (some (.ow m)) => some (m.frz, δ.put i (some (.pu m.frz)))
    | _ => none
  | .io _ => none
theorem froze {F H F0 H0 : Hp} {O O0 : Own} {σ : L2.St} {δ δ' : DS} {v : V} {w : Wv} {d : D} (s : Step F0 H0 O0 F H O) (r : R g F H O σ δ) (x : VR g F H O H0 O0 σ v w) (e : frz1 δ w = some (d, δ')) :
    ∃ F' O', Step F0 H0 O0 F' H O' ∧ R g F' H O' σ δ' ∧ Rep g.K F' v d := by
  cases w with
  | pu d' => cases e; exact ⟨F, O, s, r, x⟩
  | ow m =>
    cases e
    obtain ⟨p, rfl, hF, hO, n, y⟩ := x
    obtain ⟨u, hu, nt⟩ := y.there
    obtain ⟨r', k⟩ := r.froze hu hO nt
    refine ⟨_, O, s.frz k (fun a h => ?_), r', ?_⟩
    · by_cases z : a = p
      · exact .inr (by rw [z]; exact n)
      · rw [upd_ne z] at h; exact .inl h
    · cases m with
      | lst xs => obtain ⟨vs, h, q⟩ := y; rw [hu] at h; cases h; exact .lst upd_same (q.sub k)
      | dic xs => obtain ⟨vs, h, q⟩ := y; rw [hu] at h; cases h; exact .dic (.inl upd_same) (q.sub k)
  | io k => cases e
  | pl i =>
    have x : σ[i]? = some (some v) := x
    unfold frz1 at e
    cases h : δ.sl[i]? with
    | none => simp only [h] at e; cases e
    | some o =>
      cases o with
      | none => simp only [h] at e; cases e
      | some w =>
        obtain ⟨v', hv, y⟩ := r.sl i w h
        rw [x] at hv
        cases hv
        simp only [h] at e
        cases w with
        | pu d' => cases e; exact ⟨F, O, s, r, y⟩
        | io k => cases e
        | pl i => exact y.elim
        | ow m =>
          cases e
          obtain ⟨p, rfl, ho, y⟩ := y
          obtain ⟨u, hu, nt⟩ := y.there
          -- the slot is given up, then its object is frozen
          have r1 : R g F H (fun q => if q = p then none else O q) σ (δ.put i none) := by
            refine ⟨r.sub, fun j w h => ?_, fun j w h => ?_, fun q h => ?_, r.ntb, r.tab, by simp [DS.put, r.len]⟩
            · have hji : j ≠ i := fun z => by
                subst z
                simp only [DS.put] at h
                rw [List.getElem?_set_self (by rw [← r.len]; exact (List.getElem?_eq_some_iff.mp x).1)] at h
                cases h
              simp only [DS.put] at h
              rw [List.getElem?_set_ne (Ne.symm hji)] at h
              obtain ⟨v2, h1, h2⟩ := r.sl j w h
              refine ⟨v2, h1, ?_⟩
              cases w with
              | ow m2 =>
                obtain ⟨q, e1, e2, e3⟩ := h2
                refine ⟨q, e1, ?_, e3⟩
                show (if q = p then none else O q) = _
                rw [if_neg (fun z => by rw [z, ho] at e2; cases e2; exact hji rfl)]
                exact e2
              | _ => exact h2
            · obtain ⟨v2, h1, h2⟩ := r.an j w h
              refine ⟨v2, h1, ?_⟩
              cases w with
              | ow m2 =>
                obtain ⟨q, e1, e2, e3⟩ := h2
                refine ⟨q, e1, ?_, e3⟩
                show (if q = p then none else O q) = _
                rw [if_neg (fun z => by rw [z, ho] at e2; cases e2)]
                exact e2
              | _ => exact h2
            · by_cases z : q = p
              · rw [if_pos z] at h; exact absurd rfl h
              · rw [if_neg z] at h; exact r.inh q h
          obtain ⟨r2, k⟩ := r1.froze hu (if_pos rfl) nt
          have np : New H0 O0 p := s.no p (by rw [ho]; intro z; cases z)
          have s2 : Step F0 H0 O0 (upd F p u) H (fun q => if q = p then none else O q) := (s.own fun q h => s.no q (by
            by_cases z : q = p
            · rw [if_pos z] at h; exact absurd rfl h
            · rw [if_neg z] at h; exact h)).frz k fun q h => by
              by_cases z : q = p
              · exact .inr (by rw [z]; exact np)
              · rw [upd_ne z] at h; exact .inl h
          have rp : Rep g.K (upd F p u) (.ref p) m.frz := by
            cases m with
            | lst xs => obtain ⟨vs, h, q⟩ := y; rw [hu] at h; cases h; exact .lst upd_same (q.sub k)
            | dic xs => obtain ⟨vs, h, q⟩ := y; rw [hu] at h; cases h; exact .dic (.inl upd_same) (q.sub k)
          refine ⟨_, _, s2, ⟨r2.sub, fun j w h => ?_, r2.an, r2.inh, r2.ntb, r2.tab, by simp [DS.put, r.len]⟩, rp⟩
          by_cases hji : j = i
          · subst hji
            simp only [DS.put] at h
            rw [List.getElem?_set_self (by rw [← r.len]; exact (List.getElem?_eq_some_iff.mp x).1)] at h
            cases h
            exact ⟨_, x, rp⟩
          · refine r2.sl j w ?_
            simp only [DS.put] at h ⊢
            rw [List.getElem?_set_ne (Ne.symm hji)] at h ⊢
            exact h
def dFz (ta : DTE) : DTE := fun δ Q Y => ta δ (fun w δ1 => ∃ d δ2, frz1 δ1 w = some (d, δ2) ∧ Q (.pu d) δ2) Y
theorem de_fz (h : DE X g Wx e ta) : DE X g Wx e (dFz ta) := by
  refine ⟨fun δ Q Q' Y Y' hQ hY q => h.mono _ _ _ _ _ (fun w δ1 ⟨d, δ2, e, q⟩ => ⟨d, δ2, e, hQ _ _ q⟩) hY q, peMono h.pe ?_⟩
  rintro σ H Q ⟨F, O, δ, r0, q⟩
  refine ⟨F, O, δ, r0, h.mono _ _ _ _ _ (fun w δ1 q v1 F1 H1 O1 s1 r1 x1 => ?_) (fun _ _ z => z) q⟩
  obtain ⟨d, δ2, e, q⟩ := q
  obtain ⟨F2, O2, s2, r2, rp⟩ := froze s1 r1 x1 e
  exact q v1 F2 H1 O2 s2 r2 rp
/-- what a value holds, all of it frozen data -/
def pures : List Wv → Option (List D)
  | [] => some []
  | .pu d :: ws => (pures ws).map (d :: ·)
  | _ :: _ => none
theorem pures_reps {F H H0 : Hp} {O O0 : Own} {σ : L2.St} : ∀ {vs : List V} {ws : List Wv} {ds : List D}, VRs g F H O H0 O0 σ vs ws → pures ws = some ds → Reps g.K F vs ds
  | _, _, _, .nil, e => by cases e; exact .nil
  | _, _, ds, .cons (b := w) (l₂ := ws) x xs, e => by
    cases w with
    | pu d =>
      simp only [pures] at e
      cases h2 : pures ws with
      | none => rw [h2] at e; cases e
      | some ds' =>
        rw [h2] at e
        cases e
        exact .cons x (pures_reps xs h2)
    | _ => cases e
def dTup (tA : DTA) : DTE := fun δ Q Y => tA δ (fun ws δ1 => ∃ ds, pures ws = some ds ∧ ds.length ≤ sizeLine ∧ Q (.pu (.tup ds)) δ1) Y
def dLst (tA : DTA) : DTE := fun δ Q Y => tA δ (fun ws δ1 => ∃ ds, pures ws = some ds ∧ ds.length ≤ sizeLine ∧ Q (.ow (.lst ds)) δ1) Y
/-- a new list, a new tuple -/
theorem R.newL {F H : Hp} {O : Own} {σ : L2.St} {δ : DS} (r : R g F H O σ δ) {p : Addr} (n : H p = none) {vs : List V} {ds : List D} (q : Reps g.K F vs ds) :
    Step F H O F (upd H p (.lst vs)) O ∧ R g F (upd H p (.lst vs)) O σ δ ∧ VR g F (upd H p (.lst vs)) O H O σ (.ref p) (.ow (.lst ds)) := by
  obtain ⟨r1, s1⟩ := r.laid (o := .lst vs) n
  obtain ⟨f1, f2⟩ := r.free n
  exact ⟨s1, r1, p, rfl, f1, f2, .inr (Live.not n), vs, upd_same, q⟩
theorem R.newT {F H : Hp} {O : Own} {σ : L2.St} {δ : DS} (r : R g F H O σ δ) {p : Addr} (n : H p = none) {vs : List V} {ds : List D} (q : Reps g.K F vs ds) :
    ∃ F', Step F H O F' (upd H p (.tup vs)) O ∧ R g F' (upd H p (.tup vs)) O σ δ ∧ Rep g.K F' (.ref p) (.tup ds) := by
  obtain ⟨r1, s1⟩ := r.laid (o := .tup vs) n
  obtain ⟨f1, f2⟩ := r.free n
  obtain ⟨r2, k⟩ := r1.froze (p := p) (o := .tup vs) upd_same f2 (fun ps z => by cases z)
  refine ⟨_, s1.frz k (fun a h => ?_), r2, .tup (.of upd_same) (q.sub k)⟩
  by_cases z : a = p
  · exact .inr (by rw [z]; exact .inr (Live.not n))
  · rw [upd_ne z] at h; exact .inl h
theorem de_tup {x1} (h : DA X g Wx es tA) : DE X g Wx (.Tuple es x1 pos) (dTup tA) := by
  refine ⟨fun δ Q Q' Y Y' hQ hY q => h.mono _ _ _ _ _ (fun w δ1 ⟨d, e, z, q⟩ => ⟨d, e, z, hQ _ _ q⟩) hY q, peMono (pe_tup h.pa) ?_⟩
  rintro σ H Q ⟨F, O, δ, r0, q⟩
  refine ⟨F, O, δ, r0, h.mono _ _ _ _ _ (fun w δ1 q v1 F1 H1 O1 s1 r1 x1 => ?_) (fun _ _ z => z) q⟩
  obtain ⟨d, e, z, q⟩ := q
  have rp := pures_reps x1 e
  refine ⟨by rw [rp.length]; exact z, fun p n => ?_⟩
  obtain ⟨F2, s2, r2, x2⟩ := r1.newT n rp
  exact q _ F2 _ O1 (s1.trans s2) r2 x2
theorem de_lst (h : DA X g Wx es tA) : DE X g Wx (.List es pos) (dLst tA) := by
  refine ⟨fun δ Q Q' Y Y' hQ hY q => h.mono _ _ _ _ _ (fun w δ1 ⟨d, e, z, q⟩ => ⟨d, e, z, hQ _ _ q⟩) hY q, peMono (pe_lst h.pa) ?_⟩
  rintro σ H Q ⟨F, O, δ, r0, q⟩
  refine ⟨F, O, δ, r0, h.mono _ _ _ _ _ (fun w δ1 q v1 F1 H1 O1 s1 r1 x1 => ?_) (fun _ _ z => z) q⟩
  obtain ⟨d, e, z, q⟩ := q
  have rp := pures_reps x1 e
  refine ⟨by rw [rp.length]; exact z, fun p n => ?_⟩
  obtain ⟨s2, r2, x2⟩ := r1.newL n rp
  exact q _ F1 _ O1 (s1.trans s2) r2 (x2.back s1)
end
end DL

/-! text DLD -/
set_option Elab.async false
set_option linter.all false
set_option maxRecDepth 100000
namespace DL
open PySem PySem.Spec L2

/-! ### what a def promises, over data -/
abbrev DSp := List Wv → (Wv → List Wv → Prop) → (Value → List Wv → Prop) → Prop
def MonoP (sp : DSp) : Prop := ∀ ws Q Q' Y Y', (∀ w as, Q w as → Q' w as) → (∀ c as, Y c as → Y' c as) → sp ws Q Y → sp ws Q' Y'
/-- a result: frozen data, or a new object of one's own -/
def ResOk (g : Gd) (F H : Hp) (O : Own) (H0 : Hp) (O0 : Own) (v : V) : Wv → Prop
  | .pu d => Rep g.K F v d
  | .ow m => ∃ a, v = .ref a ∧ F a = none ∧ O a = none ∧ New H0 O0 a ∧ OwnM g.K F H a m
  | _ => False
theorem ResOk.vr {g : Gd} {F H H0 : Hp} {O O0 : Own} {v : V} {w : Wv} (x : ResOk g F H O H0 O0 v w) (σ : L2.St) : VR g F H O H0 O0 σ v w := by
  cases w with
  | pu d => exact x
  | ow m => exact x
  | _ => exact x.elim
def lift (K : PySem.W.Frag) (T : List (Addr × Str)) (sp : DSp) : Sp := fun vs H Q E => ∃ F O ws, R ⟨K, T, vs⟩ F H O [] ⟨[], ws⟩ ∧ ws.length = vs.length ∧ sp ws
  (fun w ws' => ∀ v F' H' O', Step F H O F' H' O' → R ⟨K, T, vs⟩ F' H' O' [] ⟨[], ws'⟩ → ResOk ⟨K, T, vs⟩ F' H' O' H O v w → Q v H')
  (fun c ws' => ∀ F' H' O', Step F H O F' H' O' → R ⟨K, T, vs⟩ F' H' O' [] ⟨[], ws'⟩ → E c none H')
theorem R.bare {g : Gd} {F H : Hp} {O : Own} {σ : L2.St} {δ : DS} (r : R g F H O σ δ) : R g F H O [] ⟨[], δ.an⟩ :=
  ⟨r.sub, fun i w h => by simp at h, r.an, r.inh, r.ntb, r.tab, rfl⟩

/-! ### the call of a def -/
def dargs (δ : DS) : List Wv → Option (List Wv)
  | .pl i :: ws => match δ.sl[i]?, pures ws with
    | some (some (.ow m)), some _ => some (.ow m :: ws)
    | _, _ => none
  | .io k :: ws => match δ.an[k]?, pures ws with
    | some (.ow m), some _ => some (.ow m :: ws)
    | _, _ => none
  | ws => match pures ws with
    | some _ => some ws
    | none => none
def dback (δ : DS) : List Wv → List Wv → Option DS
  | .pl i :: _, .ow m :: _ => some (δ.put i (some (.ow m)))
  | .io k :: _, .ow m :: _ => some ⟨δ.sl, δ.an.set k (.ow m)⟩
  | .pu _ :: _, _ => some δ
  | [], _ => some δ
  | _, _ => none
def dCall (sp : DSp) (tA : DTA) : DTE := fun δ Q Y => tA δ (fun ws δ1 => ∃ as, dargs δ1 ws = some as ∧
  sp as (fun r as' => ∃ δ2, dback δ1 ws as' = some δ2 ∧ Q r δ2) (fun c as' => ∃ δ2, dback δ1 ws as' = some δ2 ∧ Y c δ2)) Y
theorem dCall_mono {sp : DSp} {tA : DTA} (hp : MonoP sp) (ha : MonoA tA) : MonoE (dCall sp tA) := fun δ Q Q' Y Y' hQ hY q =>
  ha _ _ _ _ _ (fun ws δ1 ⟨as, e, q⟩ => ⟨as, e, hp _ _ _ _ _ (fun r as' ⟨δ2, e2, q⟩ => ⟨δ2, e2, hQ _ _ q⟩) (fun c as' ⟨δ2, e2, q⟩ => ⟨δ2, e2, hY _ _ q⟩) q⟩) hY q
section
variable {g : Gd} {F H F2 H2 : Hp} {O O' O2 : Own} {σ : L2.St} {δ : DS}
theorem R.after (r : R g F H O σ δ) (s : Step F H O' F2 H2 O2) (hO : ∀ a, O' a ≠ none → O a ≠ none) (own : ∀ a, O' a ≠ none → F2 a = none) :
    Step F H O F2 H2 O ∧ (∀ a, O a ≠ none → Live H2 a ∧ F2 a = none) ∧ (∀ a m, O' a = none → OwnM g.K F H a m → OwnM g.K F2 H2 a m) := by
  have nw : ∀ a, New H O' a → New H O a := fun a h => h.imp (hO a) id
  refine ⟨⟨s.ff, fun a o h n t => s.fr a o h (Classical.byContradiction fun z => hO a z n) t, s.th, fun a h => (s.nf a h).imp id (nw a), fun a h => .inl h⟩, fun a h => ?_, fun a m n x => x.sub s.ff fun o h t => s.fr a o h n t⟩
  obtain ⟨h1, h2⟩ := r.inh a h
  refine ⟨s.th a h1, ?_⟩
  by_cases z : O' a = none
  · refine Classical.byContradiction fun q => ?_
    rcases s.nf a q with q | q | q
    · exact q h2
    · exact q z
    · exact q h1
  · exact own a z
theorem pures_len : ∀ {ws : List Wv} {ds : List D}, pures ws = some ds → ws = ds.map .pu
  | [], ds, e => by cases e; rfl
  | .pu d :: ws, ds, e => by
    simp only [pures] at e
    cases h2 : pures ws with
    | none => rw [h2] at e; cases e
    | some ds' =>
      rw [h2] at e
      cases e
      rw [pures_len h2]
      rfl
  | .ow _ :: _, _, e => by cases e
  | .pl _ :: _, _, e => by cases e
  | .io _ :: _, _, e => by cases e
theorem Reps.anOk {K : PySem.W.Frag} {F : Hp} {vs : List V} {ds : List D} (r : Reps K F vs ds) {k : Nat} {w : Wv} (h : (ds.map Wv.pu)[k]? = some w) : ∃ v d, vs[k]? = some v ∧ w = .pu d ∧ Rep K F v d := by
  rw [List.getElem?_map] at h
  cases e : ds[k]? with
  | none => rw [e] at h; cases h
  | some d =>
    rw [e] at h
    cases h
    obtain ⟨v, h1, h2⟩ := r.get e
    exact ⟨v, d, h1, rfl, h2⟩
/-- the callee's state, where all arguments are frozen data -/
theorem R.forCall (r : R g F H O σ δ) {vs : List V} {ds : List D} (q : Reps g.K F vs ds) : R ⟨g.K, g.T, vs⟩ F H (fun _ => none) [] ⟨[], ds.map .pu⟩ :=
  ⟨r.sub, fun i w h => by simp at h, fun k w h => by
    obtain ⟨v, d, h1, rfl, h2⟩ := q.anOk h
    exact ⟨v, h1, h2⟩, fun a h => absurd rfl h, r.ntb, r.tab, rfl⟩
theorem R.keep (r : R g F H O σ δ) (s : Step F H (fun _ => none) F2 H2 O2) (sub : Sub F2 H2) (ntb : ∀ a ps, F2 a ≠ some (.tbl ps)) (tab : LamX.Tabs g.T H2) : Step F H O F2 H2 O ∧ R g F2 H2 O σ δ := by
  obtain ⟨s1, inh, ow⟩ := r.after s (fun a h => absurd rfl h) (fun a h => absurd rfl h)
  refine ⟨s1, sub, fun i w h => ?_, fun i w h => ?_, inh, ntb, tab, r.len⟩
  · obtain ⟨v, h1, h2⟩ := r.sl i w h
    refine ⟨v, h1, ?_⟩
    cases w with
    | pu d => exact Rep.sub s.ff h2
    | ow m => obtain ⟨a, e1, e2, e3⟩ := h2; exact ⟨a, e1, e2, ow a m rfl e3⟩
    | _ => exact h2
  · obtain ⟨v, h1, h2⟩ := r.an i w h
    refine ⟨v, h1, ?_⟩
    cases w with
    | pu d => exact Rep.sub s.ff h2
    | ow m => obtain ⟨a, e1, e2, e3⟩ := h2; exact ⟨a, e1, e2, ow a m rfl e3⟩
    | _ => exact h2
/-- the callee's state, where the first argument is an object of one's own at a -/
theorem R.forCall1 (r : R g F H O σ δ) {a : Addr} {p : Owner} {m : M} (ha : O a = some p) (hm : OwnM g.K F H a m) {vs : List V} {ds : List D} (q : Reps g.K F vs ds) :
    R ⟨g.K, g.T, .ref a :: vs⟩ F H (fun b => if b = a then some (.inr 0) else none) [] ⟨[], .ow m :: ds.map .pu⟩ := by
  refine ⟨r.sub, fun i w h => by simp at h, fun k w h => ?_, fun b h => ?_, r.ntb, r.tab, rfl⟩
  · cases k with
    | zero =>
      cases h
      exact ⟨.ref a, rfl, a, rfl, if_pos rfl, hm⟩
    | succ k =>
      obtain ⟨v, d, h1, rfl, h2⟩ := q.anOk (k := k) h
      exact ⟨v, h1, h2⟩
  · by_cases z : b = a
    · subst z; exact r.inh b (by rw [ha]; intro z; cases z)
    · exact absurd (if_neg z) h
/-- behind it: all but the one at a is as it was -/
theorem R.keep1 (r : R g F H O σ δ) {a : Addr} {p : Owner} (ha : O a = some p) {m2 : M} (s : Step F H (fun b => if b = a then some (.inr 0) else none) F2 H2 O2) (sub : Sub F2 H2) (ntb : ∀ a ps, F2 a ≠ some (.tbl ps)) (tab : LamX.Tabs g.T H2)
    (fa : F2 a = none) (hm : OwnM g.K F2 H2 a m2) : Step F H O F2 H2 O ∧ (∀ δ2 : DS, δ2.sl.length = δ.sl.length →
      (∀ i w, δ2.sl[i]? = some (some w) → δ.sl[i]? = some (some w) ∧ p ≠ .inl i ∨ (p = .inl i ∧ w = .ow m2 ∧ σ[i]? = some (some (.ref a)))) →
      (∀ i w, δ2.an[i]? = some w → δ.an[i]? = some w ∧ p ≠ .inr i ∨ (p = .inr i ∧ w = .ow m2 ∧ g.A[i]? = some (.ref a))) → R g F2 H2 O σ δ2) := by
  obtain ⟨s1, inh, ow⟩ := r.after s (fun b h => by
    by_cases z : b = a
    · rw [z, ha]; intro q; cases q
    · exact absurd (if_neg z) h) (fun b h => by
    by_cases z : b = a
    · rw [z]; exact fa
    · exact absurd (if_neg z) h)
  have hold : ∀ {q : Owner} {v : V} {m : M}, Hold g.K F H O q v m → q ≠ p → Hold g.K F2 H2 O q v m := fun {q v m} ⟨b, e1, e2, e3⟩ n => ⟨b, e1, e2, ow b m (if_neg fun z => by rw [z, ha] at e2; cases e2; exact n rfl) e3⟩
  refine ⟨s1, fun δ2 hl h1 h2 => ⟨sub, fun i w h => ?_, fun i w h => ?_, inh, ntb, tab, r.len.trans hl.symm⟩⟩
  · rcases h1 i w h with ⟨h, n⟩ | ⟨rfl, rfl, hv⟩
    · obtain ⟨v, h1, h2⟩ := r.sl i w h
      refine ⟨v, h1, ?_⟩
      cases w with
      | pu d => exact Rep.sub s.ff h2
      | ow m => exact hold h2 n.symm
      | _ => exact h2
    · exact ⟨.ref a, hv, a, rfl, ha, hm⟩
  · rcases h2 i w h with ⟨h, n⟩ | ⟨rfl, rfl, hv⟩
    · obtain ⟨v, h1, h2⟩ := r.an i w h
      refine ⟨v, h1, ?_⟩
      cases w with
      | pu d => exact Rep.sub s.ff h2
      | ow m => exact hold h2 n.symm
      | _ => exact h2
    · exact ⟨.ref a, hv, a, rfl, ha, hm⟩
end
section
variable {X : Cx} {g : Gd} {Wx : WX} {e a b c : Expr} {es rest : List Expr} {ta tb tc : DTE} {tA : DTA} {t u : DTT} {pos : Pos}
theorem callCanS {sp : DSp} (mp : MonoP sp) (ha : MonoA tA) (σ : L2.St) (H : Hp) (Q : VK) : canE g Wx (dCall sp tA) σ H Q → canA g Wx tA σ H fun vs H1 => lift g.K g.T sp vs H1 Q (WE Wx σ) := by
  rintro ⟨F, O, δ, r0, q⟩
  refine ⟨F, O, δ, r0, ha _ _ _ _ _ (fun ws δ1 q vs F1 H1 O1 s1 r1 x1 => ?_) (fun _ _ z => z) q⟩
  obtain ⟨as, e, q⟩ := q
  have hlen : vs.length = ws.length := Paired.length x1
  -- all frozen
  have pureCase : ∀ ds, pures ws = some ds → as = ws → (∀ as', dback δ1 ws as' = some δ1) → lift g.K g.T sp vs H1 Q (WE Wx σ) := fun ds e1 e2 e3 => by
    have rp := pures_reps x1 e1
    have ew := pures_len e1
    subst e2
    refine ⟨F1, fun _ => none, as, by rw [ew]; exact r1.forCall rp, hlen.symm, mp _ _ _ _ _ (fun w as' q v F2 H2 O2 s2 r2 x2 => ?_) (fun c as' q F2 H2 O2 s2 r2 => ?_) q⟩
    · obtain ⟨δ2, e4, q⟩ := q
      rw [e3] at e4
      cases e4
      obtain ⟨s3, r3⟩ := r1.keep s2 r2.sub r2.ntb r2.tab
      refine q v F2 H2 O1 (s1.trans s3) r3 ?_
      cases w with
      | pu d => exact x2
      | ow m =>
        obtain ⟨p, e5, f, o, n, y⟩ := x2
        have np : ¬ Live H1 p := n.resolve_left fun z => z rfl
        exact ⟨p, e5, f, (r1.dead np).2, s1.new (.inr np), y⟩
      | _ => exact x2.elim
    · obtain ⟨δ2, e4, q⟩ := q
      rw [e3] at e4
      cases e4
      obtain ⟨s3, r3⟩ := r1.keep s2 r2.sub r2.ntb r2.tab
      exact q F2 H2 O1 (s1.trans s3) r3
  -- the first one an object of one's own
  have ownCase : ∀ (p : Addr) (w0 : Owner) (m : M) (v0 : V) (vr : List V) (wr : List Wv) (wp : Wv), vs = v0 :: vr → ws = wp :: wr → v0 = .ref p → O1 p = some w0 → OwnM g.K F1 H1 p m → as = .ow m :: wr → (∃ ds, pures wr = some ds) →
      (∀ as', dback δ1 ws as' = none ∨ ∃ m2 r2, as' = .ow m2 :: r2 ∧ ∃ δ2, dback δ1 ws as' = some δ2 ∧ δ2.sl.length = δ1.sl.length ∧
        (∀ i w, δ2.sl[i]? = some (some w) → δ1.sl[i]? = some (some w) ∧ w0 ≠ .inl i ∨ (w0 = .inl i ∧ w = .ow m2 ∧ σ[i]? = some (some (.ref p)))) ∧
        (∀ i w, δ2.an[i]? = some w → δ1.an[i]? = some w ∧ w0 ≠ .inr i ∨ (w0 = .inr i ∧ w = .ow m2 ∧ g.A[i]? = some (.ref p)))) → lift g.K g.T sp vs H1 Q (WE Wx σ) := by
    rintro p w0 m v0 vr wr wp rfl rfl rfl ho hm rfl ⟨ds, e1⟩ hb
    have rp : Reps g.K F1 vr ds := by
      cases x1 with
      | cons y ys => exact pures_reps ys e1
    have ew := pures_len e1
    have fin : ∀ {as' : List Wv} {δ2 : DS} {F2 H2 : Hp} {O2 : Own}, dback δ1 (wp :: wr) as' = some δ2 → Step F1 H1 (fun b => if b = p then some (.inr 0) else none) F2 H2 O2 → R ⟨g.K, g.T, .ref p :: vr⟩ F2 H2 O2 [] ⟨[], as'⟩ → Step F1 H1 O1 F2 H2 O1 ∧ R g F2 H2 O1 σ δ2 ∧ O2 p ≠ none := by
      intro as' δ2 F2 H2 O2 e4 s2 r2
      rcases hb as' with z | ⟨m2, rr, rfl, δ3, e5, hl, h1, h2⟩
      · rw [z] at e4; cases e4
      · rw [e5] at e4
        cases e4
        obtain ⟨v, hv, hh⟩ := r2.an 0 (.ow m2) rfl
        cases hv
        obtain ⟨p', ep, hO, hm2⟩ := hh
        cases ep
        have nO : O2 p ≠ none := by rw [hO]; intro z; cases z
        obtain ⟨s3, k⟩ := r1.keep1 ho s2 r2.sub r2.ntb r2.tab (r2.inh p nO).2 hm2
        exact ⟨s3, k δ2 hl h1 h2, nO⟩
    refine ⟨F1, _, _, by rw [ew]; exact r1.forCall1 ho hm rp, by simpa using hlen.symm, mp _ _ _ _ _ (fun w as' q v F2 H2 O2 s2 r2 x2 => ?_) (fun c as' q F2 H2 O2 s2 r2 => ?_) q⟩
    · obtain ⟨δ2, e4, q⟩ := q
      obtain ⟨s3, r3, nO⟩ := fin e4 s2 r2
      refine q v F2 H2 O1 (s1.trans s3) r3 ?_
      cases w with
      | pu d => exact x2
      | ow m =>
        obtain ⟨p2, e5, f, o, n, y⟩ := x2
        have np : ¬ Live H1 p2 := n.resolve_left fun z => by
          by_cases zz : p2 = p
          · rw [zz] at o; exact nO o
          · exact z (if_neg zz)
        exact ⟨p2, e5, f, (r1.dead np).2, s1.new (.inr np), y⟩
      | _ => exact x2.elim
    · obtain ⟨δ2, e4, q⟩ := q
      obtain ⟨s3, r3, _⟩ := fin e4 s2 r2
      exact q F2 H2 O1 (s1.trans s3) r3
  cases ws with
  | nil =>
    cases e
    exact pureCase [] rfl rfl fun _ => rfl
  | cons w wr =>
    cases w with
    | pu d =>
      cases h2 : pures (.pu d :: wr) with
      | none => simp only [dargs, h2] at e; cases e
      | some ds =>
        simp only [dargs, h2] at e
        cases e
        exact pureCase ds h2 rfl fun _ => rfl
    | ow m => simp only [dargs, pures] at e; cases e
    | pl i =>
      cases vs with
      | nil => cases hlen
      | cons v0 vr =>
      have hv : σ[i]? = some (some v0) := by
        cases x1 with
        | cons y ys => exact y
      simp only [dargs] at e
      cases hs : δ1.sl[i]? with
      | none => simp only [hs] at e; cases e
      | some o =>
      cases o with
      | none => simp only [hs] at e; cases e
      | some w =>
      cases w with
      | ow m =>
        cases h2 : pures wr with
        | none => simp only [hs, h2] at e; cases e
        | some ds =>
          simp only [hs, h2] at e
          cases e
          obtain ⟨v', hv', p, e1, e2, e3⟩ := r1.sl i _ hs
          rw [hv] at hv'
          cases hv'
          refine ownCase p (.inl i) m _ _ _ _ rfl rfl e1 e2 e3 rfl ⟨ds, h2⟩ fun as' => ?_
          cases as' with
          | nil => exact .inl rfl
          | cons w r2 =>
            cases w with
            | ow m2 =>
              refine .inr ⟨m2, r2, rfl, _, rfl, by simp [DS.put], fun j w h => ?_, fun j w h => .inl ⟨h, fun z => by cases z⟩⟩
              have hi : i < δ1.sl.length := (List.getElem?_eq_some_iff.mp hs).1
              by_cases hj : j = i
              · subst hj
                simp only [DS.put] at h
                rw [List.getElem?_set_self hi] at h
                cases h
                exact .inr ⟨rfl, rfl, by rw [hv, e1]⟩
              · simp only [DS.put] at h
                rw [List.getElem?_set_ne (Ne.symm hj)] at h
                exact .inl ⟨h, fun z => hj (Sum.inl.inj z).symm⟩
            | _ => exact .inl rfl
      | _ => simp only [hs] at e; cases e
    | io k =>
      cases vs with
      | nil => cases hlen
      | cons v0 vr =>
      have hv : g.A[k]? = some v0 := by
        cases x1 with
        | cons y ys => exact y
      simp only [dargs] at e
      cases hs : δ1.an[k]? with
      | none => simp only [hs] at e; cases e
      | some w =>
      cases w with
      | ow m =>
        cases h2 : pures wr with
        | none => simp only [hs, h2] at e; cases e
        | some ds =>
          simp only [hs, h2] at e
          cases e
          obtain ⟨v', hv', p, e1, e2, e3⟩ := r1.an k _ hs
          rw [hv] at hv'
          cases hv'
          refine ownCase p (.inr k) m _ _ _ _ rfl rfl e1 e2 e3 rfl ⟨ds, h2⟩ fun as' => ?_
          cases as' with
          | nil => exact .inl rfl
          | cons w r2 =>
            cases w with
            | ow m2 =>
              refine .inr ⟨m2, r2, rfl, _, rfl, rfl, fun j w h => .inl ⟨h, fun z => by cases z⟩, fun j w h => ?_⟩
              have hi : k < δ1.an.length := (List.getElem?_eq_some_iff.mp hs).1
              by_cases hj : j = k
              · subst hj
                rw [List.getElem?_set_self hi] at h
                cases h
                exact .inr ⟨rfl, rfl, by rw [hv, e1]⟩
              · rw [List.getElem?_set_ne (Ne.symm hj)] at h
                exact .inl ⟨h, fun z => hj (Sum.inr.inj z).symm⟩
            | _ => exact .inl rfl
      | _ => simp only [hs] at e; cases e
theorem de_call {sp : DSp} {k : Nat} {f : Addr} {fd : FuncData} {ps : List Str} {x : Str} {p : Pos} (mp : MonoP sp) (F : FnOk X.prog X.w X.K X.mg X.base (L2.CX X.prog X.w) k f fd ps (lift g.K g.T sp)) (hr : Room k X.A) (hg : Gl X x) (hm : X.mg x = some (.ref f))
    (hk : PySem.W.keepIn X.K (.ref f) = true) (hb : Binds X.K fd ps []) (tk : Takes X Wx) (ha : DA X g Wx (a :: es) tA) (hdb : (x == ("__debug__" : Str)) = false := by decide) (he : starEach (a :: es) X.env = (false, eval a X.env) :: starEach es X.env := by rfl)
    (hpl : (backTo pos (starEach es X.env)).any (·.1) = false := by rfl) : DE X g Wx (.Call (.Name x p) (a :: es) [] pos) (dCall sp tA) :=
  ⟨dCall_mono mp ha.mono, peMono (pe_callS F hr hg hm hk hb (fun σ => passAt tk σ) ha.pa hdb he hpl) (callCanS mp ha.mono)⟩
end
end DL

/-! text DLE -/
set_option Elab.async false
set_option linter.all false
set_option maxRecDepth 100000
namespace DL
open PySem PySem.Spec L2
section
variable {g : Gd} {Wx : WX} {F H F0 H0 F1 H1 : Hp} {O O0 O1 : Own} {σ : L2.St} {δ δ' : DS} {v : V} {w : Wv}
theorem EndsOk.step {D : L2.Ends} {D' : DEnds} (e : EndsOk g Wx F H O D D') (s : Step F H O F1 H1 O1) : EndsOk g Wx F1 H1 O1 D D' :=
  ⟨fun δ' F' H' O' σ' s' => e.nx δ' F' H' O' σ' (s.trans s'), fun w δ' v F' H' O' σ' s' r x => e.rt w δ' v F' H' O' σ' (s.trans s') r (x.back s), fun δ' F' H' O' σ' s' => e.bk δ' F' H' O' σ' (s.trans s'),
    fun δ' F' H' O' σ' s' => e.ct δ' F' H' O' σ' (s.trans s'), fun c δ' F' H' O' σ' s' => e.ex c δ' F' H' O' σ' (s.trans s')⟩
theorem EndsOk.x {D : L2.Ends} {D' : DEnds} (e : EndsOk g Wx F H O D D') (c : Value) (δ : DS) (h : D'.ex c δ) : canX g Wx F H O σ c δ := fun F' H' O' s r => e.ex c δ F' H' O' σ s r h
theorem DEnds.le.nx1 {D D' : DEnds} (l : DEnds.le D D') {n n' : DS → Prop} (h : ∀ δ, n δ → n' δ) : DEnds.le { D with nx := n } { D' with nx := n' } := ⟨h, l.rt, l.bk, l.ct, l.ex⟩

/-! ### a name is stored -/
def put1 (δ : DS) (i : Nat) : Wv → Option DS
  | .pl j => if j = i then some δ else match δ.sl[j]? with
    | some (some (.ow m)) => some ((δ.put j none).put i (some (.ow m)))
    | some (some (.pu d)) => some (δ.put i (some (.pu d)))
    | _ => none
  | w => some (δ.put i (some w))
/-- slot i gets v -/
theorem R.put {O' : Own} (r : R g F H O σ δ) (i : Nat) (sl : List (Option Wv)) (hl : sl.length = δ.sl.length) {wo : Option Wv} (hO : ∀ a, O' a ≠ none → O a ≠ none ∨ (Live H a ∧ F a = none))
    (h1 : ∀ j w, j ≠ i → sl[j]? = some (some w) → δ.sl[j]? = some (some w) ∧ ∀ a, O a = some (.inl j) → O' a = some (.inl j))
    (h2 : ∀ k a, O a = some (.inr k) → O' a = some (.inr k)) (h3 : sl[i]? = some wo ∨ sl[i]? = none) (h4 : ∀ w, wo = some w → SlOk g F H O' i v w) : R g F H O' (σ.set i (some v)) ⟨sl, δ.an⟩ := by
  refine ⟨r.sub, fun j w h => ?_, fun j w h => ?_, fun a h => ?_, r.ntb, r.tab, by simp [hl, r.len]⟩
  · by_cases hj : j = i
    · subst hj
      have h : sl[j]? = some (some w) := h
      rcases h3 with h3 | h3
      · rw [h3] at h
        have hi : j < σ.length := by rw [r.len, ← hl]; exact (List.getElem?_eq_some_iff.mp h3).1
        exact ⟨v, by rw [List.getElem?_set_self hi], h4 w (Option.some.inj h)⟩
      · rw [h3] at h; cases h
    · obtain ⟨e, k⟩ := h1 j w hj h
      obtain ⟨v2, e1, e2⟩ := r.sl j w e
      refine ⟨v2, by rw [List.getElem?_set_ne (Ne.symm hj)]; exact e1, ?_⟩
      cases w with
      | ow m => obtain ⟨a, q1, q2, q3⟩ := e2; exact ⟨a, q1, k a q2, q3⟩
      | _ => exact e2
  · obtain ⟨v2, e1, e2⟩ := r.an j w h
    refine ⟨v2, e1, ?_⟩
    cases w with
    | ow m => obtain ⟨a, q1, q2, q3⟩ := e2; exact ⟨a, q1, h2 j a q2, q3⟩
    | _ => exact e2
  · rcases hO a h with q | q
    · exact r.inh a q
    · exact q
theorem set_at {α : Type} (l : List (Option α)) (i : Nat) (o : Option α) : (l.set i o)[i]? = some o ∨ (l.set i o)[i]? = none := by
  by_cases h : i < l.length
  · exact .inl (List.getElem?_set_self h)
  · exact .inr (List.getElem?_eq_none (by simpa using h))
theorem store1 (s : Step F0 H0 O0 F H O) (r : R g F H O σ δ) (x : VR g F H O H0 O0 σ v w) {i : Nat} (e : put1 δ i w = some δ') : ∃ O', Step F0 H0 O0 F H O' ∧ R g F H O' (σ.set i (some v)) δ' := by
  have other : ∀ {o : Option Wv} {j : Nat} {w : Wv}, j ≠ i → (δ.sl.set i o)[j]? = some (some w) → δ.sl[j]? = some (some w) := fun hj h => by rw [List.getElem?_set_ne (Ne.symm hj)] at h; exact h
  cases w with
  | pu d =>
    cases e
    exact ⟨O, s, r.put i (δ.sl.set i _) (by simp) (fun a h => .inl h) (fun j w hj h => ⟨other hj h, fun a h => h⟩) (fun k a h => h) (set_at _ _ _) (fun w h => by cases h; exact x)⟩
  | io k =>
    cases e
    exact ⟨O, s, r.put i (δ.sl.set i _) (by simp) (fun a h => .inl h) (fun j w hj h => ⟨other hj h, fun a h => h⟩) (fun k a h => h) (set_at _ _ _) (fun w h => by cases h; exact x)⟩
  | ow m =>
    cases e
    obtain ⟨a, rfl, hF, hO, n, y⟩ := x
    obtain ⟨u, hu, nt⟩ := y.there
    have na : ∀ {b : Addr} {q : Owner}, O b = some q → b ≠ a := fun h z => by rw [z, hO] at h; cases h
    refine ⟨fun b => if b = a then some (.inl i) else O b, s.own fun b h => ?_, r.put i (δ.sl.set i _) (by simp) (fun b h => ?_) (fun j w hj h => ⟨other hj h, fun b h => (if_neg (na h)).trans h⟩) (fun k b h => (if_neg (na h)).trans h) (set_at _ _ _) (fun w h => ?_)⟩
    · by_cases z : b = a
      · rw [z]; exact n
      · rw [if_neg z] at h; exact s.no b h
    · by_cases z : b = a
      · rw [z]; exact .inr ⟨⟨u, hu, nt⟩, hF⟩
      · rw [if_neg z] at h; exact .inl h
    · cases h; exact ⟨a, rfl, if_pos rfl, y⟩
  | pl j =>
    have x : σ[j]? = some (some v) := x
    dsimp only [put1] at e
    by_cases hji : j = i
    · rw [if_pos hji] at e
      cases e
      subst hji
      have es : σ.set j (some v) = σ := by
        refine List.ext_getElem? fun k => ?_
        by_cases hk : k = j
        · subst hk
          rw [List.getElem?_set_self (List.getElem?_eq_some_iff.mp x).1, x]
        · rw [List.getElem?_set_ne (Ne.symm hk)]
      rw [es]
      exact ⟨O, s, r⟩
    · rw [if_neg hji] at e
      cases h : δ.sl[j]? with
      | none => simp only [h] at e; cases e
      | some o =>
      cases o with
      | none => simp only [h] at e; cases e
      | some w =>
      obtain ⟨v2, q1, q2⟩ := r.sl j w h
      rw [x] at q1
      cases q1
      simp only [h] at e
      cases w with
      | pu d =>
        cases e
        exact ⟨O, s, r.put i (δ.sl.set i _) (by simp) (fun a h => .inl h) (fun j w hj h => ⟨other hj h, fun a h => h⟩) (fun k a h => h) (set_at _ _ _) (fun w h => by cases h; exact q2)⟩
      | ow m =>
        cases e
        obtain ⟨a, rfl, ho, y⟩ := q2
        obtain ⟨u, hu, nt⟩ := y.there
        refine ⟨fun b => if b = a then some (.inl i) else O b, s.own fun b h => ?_, r.put i ((δ.sl.set j none).set i _) (by simp) (fun b h => ?_) (fun j2 w hj h => ?_) (fun k b h => (if_neg fun z => ?_).trans h) (set_at _ _ _) (fun w h => ?_)⟩
        · by_cases z : b = a
          · rw [z]; exact s.no a (by rw [ho]; intro q; cases q)
          · rw [if_neg z] at h; exact s.no b h
        · by_cases z : b = a
          · rw [z]; exact .inl (by rw [ho]; intro q; cases q)
          · rw [if_neg z] at h; exact .inl h
        · rw [List.getElem?_set_ne (Ne.symm hj)] at h
          by_cases hj2 : j2 = j
          · subst hj2
            rcases set_at δ.sl j2 none with z | z
            · rw [z] at h; cases h
            · rw [z] at h; cases h
          · rw [List.getElem?_set_ne (Ne.symm hj2)] at h
            exact ⟨h, fun b hb => (if_neg fun z => by rw [z, ho] at hb; cases hb; exact hj2 rfl).trans hb⟩
        · rw [z, ho] at h; cases h
        · cases h; exact ⟨a, rfl, if_pos rfl, y⟩
      | io k => cases e
      | pl i => exact q2.elim
/-- a value handed back -/
def out1 (δ : DS) : Wv → Option (Wv × DS)
  | .pl i => match δ.sl[i]? with
    | some (some (.pu d)) => some (.pu d, δ)
    | some (some (.ow m)) => some (.ow m, δ.put i none)
    | _ => none
  | .io _ => none
  | w => some (w, δ)
theorem outs1 {w' : Wv} (s : Step F0 H0 O0 F H O) (r : R g F H O σ δ) (x : VR g F H O H0 O0 σ v w) (e : out1 δ w = some (w', δ')) : ∃ O', Step F0 H0 O0 F H O' ∧ R g F H O' σ δ' ∧ VR g F H O' H0 O0 σ v w' := by
  cases w with
  | pu d => cases e; exact ⟨O, s, r, x⟩
  | ow m => cases e; exact ⟨O, s, r, x⟩
  | io k => cases e
  | pl i =>
    have x : σ[i]? = some (some v) := x
    dsimp only [out1] at e
    cases h : δ.sl[i]? with
    | none => simp only [h] at e; cases e
    | some o =>
    cases o with
    | none => simp only [h] at e; cases e
    | some w =>
    obtain ⟨v2, q1, q2⟩ := r.sl i w h
    rw [x] at q1
    cases q1
    simp only [h] at e
    cases w with
    | pu d => cases e; exact ⟨O, s, r, q2⟩
    | io k => cases e
    | pl i => exact q2.elim
    | ow m =>
      cases e
      obtain ⟨a, rfl, ho, y⟩ := q2
      obtain ⟨u, hu, nt⟩ := y.there
      have hF : F a = none := (r.inh a (by rw [ho]; intro q; cases q)).2
      refine ⟨fun b => if b = a then none else O b, s.own fun b h => ?_, ⟨r.sub, fun j w h => ?_, fun j w h => ?_, fun b h => ?_, r.ntb, r.tab, by simp [DS.put, r.len]⟩, ⟨a, rfl, hF, if_pos rfl, s.no a (by rw [ho]; intro q; cases q), y⟩⟩
      · by_cases z : b = a
        · rw [if_pos z] at h; exact absurd rfl h
        · rw [if_neg z] at h; exact s.no b h
      · have hji : j ≠ i := fun z => by
          subst z
          rcases set_at δ.sl j none with z | z
          · have h : (δ.sl.set j none)[j]? = some (some w) := h
            rw [z] at h; cases h
          · have h : (δ.sl.set j none)[j]? = some (some w) := h
            rw [z] at h; cases h
        have h : (δ.sl.set i none)[j]? = some (some w) := h
        rw [List.getElem?_set_ne (Ne.symm hji)] at h
        obtain ⟨v2, e1, e2⟩ := r.sl j w h
        refine ⟨v2, e1, ?_⟩
        cases w with
        | ow m2 => obtain ⟨b, q1, q2, q3⟩ := e2; exact ⟨b, q1, (if_neg fun z => by rw [z, ho] at q2; cases q2; exact hji rfl).trans q2, q3⟩
        | _ => exact e2
      · obtain ⟨v2, e1, e2⟩ := r.an j w h
        refine ⟨v2, e1, ?_⟩
        cases w with
        | ow m2 => obtain ⟨b, q1, q2, q3⟩ := e2; exact ⟨b, q1, (if_neg fun z => by rw [z, ho] at q2; cases q2).trans q2, q3⟩
        | _ => exact e2
      · by_cases z : b = a
        · rw [if_pos z] at h; exact absurd rfl h
        · rw [if_neg z] at h; exact r.inh b h
end
section
variable {X : Cx} {g : Gd} {Wx : WX} {e a b c : Expr} {es rest : List Expr} {ta tb tc : DTE} {tA : DTA} {t u : DTT} {pos : Pos} {st : Stmt} {sts : List Stmt} {ts us : DTS}

/-! ### blocks -/
def dNext : DTS := fun D δ => D.nx δ
def dNever : DTS := fun _ _ => False
def dSeq (ts us : DTS) : DTS := fun D δ => ts { D with nx := us D } δ
theorem dss_nil : DSs X g Wx [] dNext := by
  refine ⟨fun D D' δ l h => l.nx _ h, pssMono pss_nil ?_⟩
  rintro D σ H ⟨F, O, δ, D', r, e, q⟩
  exact e.nx δ F H O σ (Step.refl _ _ _) r q
theorem dss_one (h : DSt X g Wx st ts) : DSs X g Wx [st] ts := ⟨h.mono, pss_one h.ps⟩
theorem dss_cons (h : DSt X g Wx st ts) (h' : DSs X g Wx sts us) : DSs X g Wx (st :: sts) (dSeq ts us) := by
  refine ⟨fun D D' δ l q => h.mono _ _ _ (l.nx1 fun δ => h'.mono _ _ _ l) q, pssMono (pss_cons h.ps h'.ps) ?_⟩
  rintro D σ H ⟨F, O, δ, D', r, e, q⟩
  exact ⟨F, O, δ, { D' with nx := us D' }, r, ⟨fun δ' F' H' O' σ' s r' q' => ⟨F', O', δ', D', r', e.step s, q'⟩, e.rt, e.bk, e.ct, e.ex⟩, q⟩
theorem ds_never : DSt X g Wx st dNever := ⟨fun D D' δ l q => q, psMono ps_never fun D σ H ⟨F, O, δ, D', r, e, q⟩ => q⟩
theorem dss_never : DSs X g Wx sts dNever := ⟨fun D D' δ l q => q, pssMono pss_never fun D σ H ⟨F, O, δ, D', r, e, q⟩ => q⟩
theorem ds_pass : DSt X g Wx (.Pass pos) dNext := ⟨fun D D' δ l h => l.nx _ h, psMono ps_pass fun D σ H ⟨F, O, δ, D', r, e, q⟩ => e.nx δ F H O σ (Step.refl _ _ _) r q⟩
def dBrk : DTS := fun D δ => D.bk δ
def dCnt : DTS := fun D δ => D.ct δ
theorem ds_break : DSt X g Wx (.Break pos) dBrk := ⟨fun D D' δ l h => l.bk _ h, psMono ps_break fun D σ H ⟨F, O, δ, D', r, e, q⟩ => e.bk δ F H O σ (Step.refl _ _ _) r q⟩
theorem ds_continue : DSt X g Wx (.Continue pos) dCnt := ⟨fun D D' δ l h => l.ct _ h, psMono ps_continue fun D σ H ⟨F, O, δ, D', r, e, q⟩ => e.ct δ F H O σ (Step.refl _ _ _) r q⟩
def dDrop (ta : DTE) : DTS := fun D δ => ta δ (fun _ δ1 => D.nx δ1) D.ex
theorem ds_expr (ha : DE X g Wx e ta) (hs : swapsWith e none pos.line X.env = pure false := by rfl) : DSt X g Wx (.Expr e pos) (dDrop ta) := by
  refine ⟨fun D D' δ l q => ha.mono _ _ _ _ _ (fun _ δ1 q => l.nx _ q) l.ex q, psMono (ps_expr ha.pe hs) ?_⟩
  rintro D σ H ⟨F, O, δ, D', r, e, q⟩
  exact ⟨F, O, δ, r, ha.mono _ _ _ _ _ (fun _ δ1 q v F1 H1 O1 s1 r1 x1 => e.nx δ1 F1 H1 O1 σ s1 r1 q) (fun c δ q => e.x c δ q) q⟩
def dRet (ta : DTE) : DTS := fun D δ => ta δ (fun w δ1 => ∃ w' δ2, out1 δ1 w = some (w', δ2) ∧ D.rt w' δ2) D.ex
theorem ds_ret (ha : DE X g Wx e ta) : DSt X g Wx (.Return (some e) pos) (dRet ta) := by
  refine ⟨fun D D' δ l q => ha.mono _ _ _ _ _ (fun _ δ1 ⟨w', δ2, e, q⟩ => ⟨w', δ2, e, l.rt _ _ q⟩) l.ex q, psMono (ps_ret ha.pe) ?_⟩
  rintro D σ H ⟨F, O, δ, D', r, e, q⟩
  refine ⟨F, O, δ, r, ha.mono _ _ _ _ _ (fun w δ1 q v F1 H1 O1 s1 r1 x1 => ?_) (fun c δ q => e.x c δ q) q⟩
  obtain ⟨w', δ2, eo, q⟩ := q
  obtain ⟨O2, s2, r2, x2⟩ := outs1 s1 r1 x1 eo
  exact e.rt w' δ2 v F1 H1 O2 σ s2 r2 x2 q
def dRetN : DTS := fun D δ => D.rt (.pu (.sc .non)) δ
theorem ds_retN : DSt X g Wx (.Return none pos) dRetN := ⟨fun D D' δ l h => l.rt _ _ h, psMono ps_retN fun D σ H ⟨F, O, δ, D', r, e, q⟩ => e.rt (.pu (.sc .non)) δ .non F H O σ (Step.refl _ _ _) r (Rep.sc _) q⟩
def dIfS (t : DTT) (ts us : DTS) : DTS := fun D δ => t δ (fun k δ1 => if k = true then ts D δ1 else us D δ1) D.ex
theorem ds_if {A B : List Stmt} (h : DT X g Wx c t) (ha : DSs X g Wx A ts) (hb : DSs X g Wx B us) : DSt X g Wx (.If c A B pos) (dIfS t ts us) := by
  refine ⟨fun D D' δ l q => h.mono _ _ _ _ _ (fun k δ1 q => ?_) l.ex q, psMono (ps_if h.pt ha.ps hb.ps) ?_⟩
  · cases k with
    | true => exact ha.mono _ _ _ l q
    | false => exact hb.mono _ _ _ l q
  · rintro D σ H ⟨F, O, δ, D', r, e, q⟩
    refine ⟨F, O, δ, r, h.mono _ _ _ _ _ (fun k δ1 q F1 H1 O1 s1 r1 => ?_) (fun c δ q => e.x c δ q) q⟩
    cases k with
    | true => exact ⟨F1, O1, δ1, D', r1, e.step s1, q⟩
    | false => exact ⟨F1, O1, δ1, D', r1, e.step s1, q⟩
def dSet (i : Nat) (ta : DTE) : DTS := fun D δ => ta δ (fun w δ1 => ∃ δ2, put1 δ1 i w = some δ2 ∧ D.nx δ2) D.ex
theorem setCan {i : Nat} (ha : MonoE ta) (D : L2.Ends) (σ : L2.St) (H : Hp) : canS g Wx (dSet i ta) D σ H → tAsg (canE g Wx ta) (gName i) D σ H := by
  rintro ⟨F, O, δ, D', r, e, q⟩
  refine ⟨F, O, δ, r, ha _ _ _ _ _ (fun w δ1 q v F1 H1 O1 s1 r1 x1 => ?_) (fun c δ q => e.x c δ q) q⟩
  obtain ⟨δ2, eo, q⟩ := q
  obtain ⟨O2, s2, r2⟩ := store1 s1 r1 x1 eo
  exact e.nx δ2 F1 H1 O2 _ s2 r2 q
theorem dSet_mono {i : Nat} (ha : MonoE ta) : MonoS (dSet i ta) := fun D D' δ l q => ha _ _ _ _ _ (fun _ δ1 ⟨δ2, e, q⟩ => ⟨δ2, e, l.nx _ q⟩) l.ex q
theorem ds_set {i : Nat} {x : Str} {pos' : Pos} (hN : X.N.Nodup) (hi : X.N[i]? = some x) (hx : Loc X.env.scope x) (ha : DE X g Wx e ta) (hs : swapsWith e (some (.Name x pos')) pos.line X.env = pure false := by rfl)
    (hf : X.fn x = true ∨ X.env.scope.names.lookup x = some .local := by first | exact .inl rfl | exact .inr rfl | assumption) : DSt X g Wx (.Assign [.Name x pos'] e pos) (dSet i ta) :=
  ⟨dSet_mono ha.mono, psMono (ps_set hN hi hx ha.pe hs hf) (setCan ha.mono)⟩

/-! ### targets -/
abbrev DTG := D → DS → (DS → Prop) → Prop
abbrev DTGs := List D → DS → (DS → Prop) → Prop
def canG (g : Gd) (gt : DTG) (is : List Nat) : TG := fun v σ H Q => ∃ F O δ d, R g F H O σ δ ∧ Rep g.K F v d ∧
  gt d δ (fun δ' => ∀ F' H' O' σ', Step F H O F' H' O' → R g F' H' O' σ' δ' → σ'.length = σ.length → (∀ i, i ∉ is → σ'[i]? = σ[i]?) → Q σ' H')
def canGs (g : Gd) (gt : DTGs) (is : List Nat) : TGs := fun vs σ H Q => ∃ F O δ ds, R g F H O σ δ ∧ Reps g.K F vs ds ∧
  gt ds δ (fun δ' => ∀ F' H' O' σ', Step F H O F' H' O' → R g F' H' O' σ' δ' → σ'.length = σ.length → (∀ i, i ∉ is → σ'[i]? = σ[i]?) → Q σ' H')
structure DG (X : Cx) (g : Gd) (e : Expr) (gt : DTG) (is : List Nat) : Prop where
  mono : ∀ d δ Q Q', (∀ δ', Q δ' → Q' δ') → gt d δ Q → gt d δ Q'
  pg : PG X e (canG g gt is)
structure DGs (X : Cx) (g : Gd) (es : List Expr) (gt : DTGs) (is : List Nat) : Prop where
  mono : ∀ d δ Q Q', (∀ δ', Q δ' → Q' δ') → gt d δ Q → gt d δ Q'
  pg : PGs X es (canGs g gt is)
theorem pgMono {t t' : TG} (h : PG X e t) (i : ∀ v σ H Q, t' v σ H Q → t v σ H Q) : PG X e t' := ⟨fun pins s σ H v u Q I r q => h.run pins s σ H v u Q I r (i v σ H Q q)⟩
theorem pgsMono {t t' : TGs} (h : PGs X es t) (i : ∀ v σ H Q, t' v σ H Q → t v σ H Q) : PGs X es t' := ⟨fun pins s σ H v u Q I r q => h.run pins s σ H v u Q I r (i v σ H Q q)⟩
def dgName (i : Nat) : DTG := fun d δ Q => Q (δ.put i (some (.pu d)))
theorem dg_name {i : Nat} {x : Str} (hN : X.N.Nodup) (hi : X.N[i]? = some x) (hx : Loc X.env.scope x) (hf : X.fn x = true ∨ X.env.scope.names.lookup x = some .local := by first | exact .inl rfl | exact .inr rfl | assumption) : DG X g (.Name x pos) (dgName i) [i] := by
  refine ⟨fun d δ Q Q' h q => h _ q, pgMono (pg_name hN hi hx hf) ?_⟩
  rintro v σ H Q ⟨F, O, δ, d, r, rp, q⟩
  obtain ⟨O2, s2, r2⟩ := store1 (Step.refl F H O) r (w := .pu d) rp (i := i) rfl
  exact q F H O2 _ s2 r2 (by simp) (fun j hj => List.getElem?_set_ne (by intro z; exact hj (by simp [z])))
def dgNil : DTGs := fun ds δ Q => ds = [] ∧ Q δ
def dgCons (gt : DTG) (gs : DTGs) : DTGs := fun ds δ Q => ∃ d r, ds = d :: r ∧ gt d δ fun δ' => gs r δ' Q
theorem dgs_nil : DGs X g [] dgNil [] := by
  refine ⟨fun d δ Q Q' h q => ⟨q.1, h _ q.2⟩, pgsMono pgs_nil ?_⟩
  rintro v σ H Q ⟨F, O, δ, ds, r, rp, e, q⟩
  subst e
  cases rp
  exact ⟨rfl, q F H O σ (Step.refl _ _ _) r rfl fun _ _ => rfl⟩
theorem dgs_cons {gt : DTG} {gs : DTGs} {is js : List Nat} (h : DG X g e gt is) (h' : DGs X g es gs js) (hs : (assignEach (e :: es) X.env).map (·.2) = assign e X.env :: (assignEach es X.env).map (·.2) := by rfl) : DGs X g (e :: es) (dgCons gt gs) (is ++ js) := by
  refine ⟨fun d δ Q Q' i ⟨d0, r, e, q⟩ => ⟨d0, r, e, h.mono _ _ _ _ (fun δ' q => h'.mono _ _ _ _ i q) q⟩, pgsMono (pgs_cons h.pg h'.pg hs) ?_⟩
  rintro v σ H Q ⟨F, O, δ, ds, r, rp, d, rest, e, q⟩
  subst e
  cases rp with
  | cons rp rps =>
    rename_i v0 vs0
    refine ⟨v0, vs0, rfl, F, O, δ, d, r, rp, h.mono _ _ _ _ (fun δ1 q F1 H1 O1 σ1 s1 r1 l1 k1 => ?_) q⟩
    refine ⟨F1, O1, δ1, rest, r1, rps.sub s1.ff, h'.mono _ _ _ _ (fun δ2 q F2 H2 O2 σ2 s2 r2 l2 k2 => ?_) q⟩
    exact q F2 H2 O2 σ2 (s1.trans s2) r2 (l2.trans l1) fun i hi => by
      rw [List.mem_append, not_or] at hi
      rw [k2 i hi.2, k1 i hi.1]
def dgTup (gs : DTGs) : DTG := fun d δ Q => ∃ ds, d = .tup ds ∧ gs ds δ Q
theorem dg_tup {k : Nat} {gs : DTGs} {is : List Nat} {n : Nat} (gK : g.K = X.K) (hc : X.calm = true) (h : DGs X g es gs is) (hl : ∀ ds δ Q, gs ds δ Q → ds.length = n) (hn : (assignEach es X.env).length = n := by rfl) (hst : (assignEach es X.env).findIdx? (·.1) = none := by rfl) :
    DG X g (.Tuple es k pos) (dgTup gs) is := by
  refine ⟨fun d δ Q Q' i ⟨ds, e, q⟩ => ⟨ds, e, h.mono _ _ _ _ i q⟩, pgMono (pg_tup hc h.pg hn hst) ?_⟩
  rintro v σ H Q ⟨F, O, δ, d, r, rp, ds, e, q⟩
  subst e
  cases rp with
  | tup hq rps => exact ⟨_, _, rfl, by rw [← gK]; exact r.sub.sqT hq, by rw [rps.length]; exact hl _ _ _ q, F, O, δ, ds, r, rps, q⟩
def dgLst (gs : DTGs) : DTG := fun d δ Q => ∃ ds, d = .lst ds ∧ gs ds δ Q
theorem dg_lst {k : Nat} {gs : DTGs} {is : List Nat} {n : Nat} (gK : g.K = X.K) (hc : X.calm = true) (h : DGs X g es gs is) (hl : ∀ ds δ Q, gs ds δ Q → ds.length = n) (hn : (assignEach es X.env).length = n := by rfl) (hst : (assignEach es X.env).findIdx? (·.1) = none := by rfl) :
    DG X g (.Tuple es k pos) (dgLst gs) is := by
  refine ⟨fun d δ Q Q' i ⟨ds, e, q⟩ => ⟨ds, e, h.mono _ _ _ _ i q⟩, pgMono (pg_lst hc h.pg hn hst) ?_⟩
  rintro v σ H Q ⟨F, O, δ, d, r, rp, ds, e, q⟩
  subst e
  cases rp with
  | lst hq rps => exact ⟨_, _, rfl, by rw [← gK]; exact .of (r.sub _ _ hq), by rw [rps.length]; exact hl _ _ _ q, F, O, δ, ds, r, rps, q⟩
/-- target = value: the value is frozen -/
def dAsg (ta : DTE) (gt : DTG) : DTS := fun D δ => ta δ (fun w δ1 => ∃ d δ2, frz1 δ1 w = some (d, δ2) ∧ gt d δ2 D.nx) D.ex
theorem ds_asg {tg : Expr} {gt : DTG} {is : List Nat} (ha : DE X g Wx e ta) (hg : DG X g tg gt is) (hs : swapsWithSole [tg] e pos.line X.env = pure false := by rfl) (hw : swappedStores [tg] e X.env = pure none := by rfl)
    (h1 : (assignEach [tg] X.env).map (·.2) = [assign tg X.env] := by rfl) : DSt X g Wx (.Assign [tg] e pos) (dAsg ta gt) := by
  refine ⟨fun D D' δ l q => ha.mono _ _ _ _ _ (fun _ δ1 ⟨d, δ2, e, q⟩ => ⟨d, δ2, e, hg.mono _ _ _ _ (fun δ' => l.nx δ') q⟩) l.ex q, psMono (ps_asg ha.pe hg.pg hs hw h1) ?_⟩
  rintro D σ H ⟨F, O, δ, D', r, e, q⟩
  refine ⟨F, O, δ, r, ha.mono _ _ _ _ _ (fun w δ1 q v F1 H1 O1 s1 r1 x1 => ?_) (fun c δ q => e.x c δ q) q⟩
  obtain ⟨d, δ2, eo, q⟩ := q
  obtain ⟨F2, O2, s2, r2, rp⟩ := froze s1 r1 x1 eo
  exact ⟨F2, O2, δ2, d, r2, rp, hg.mono _ _ _ _ (fun δ3 q F3 H3 O3 σ3 s3 r3 _ _ => e.nx δ3 F3 H3 O3 σ3 (s2.trans s3) r3 q) q⟩
end
end DL

/-! text DLF -/
set_option Elab.async false
set_option linter.all false
set_option maxRecDepth 100000
namespace DL
open PySem PySem.Spec L2

/-! ### what is walked -/
abbrev DTI := DS → (List D → DS → Prop) → DX → Prop
/-- from F0 on the iterator yields ds -/
def Yields (g : Gd) (J : It) (ds : List D) (F0 : Hp) : Prop := ∀ F H, Sub F0 F → Sub F H → ∀ i, (i < ds.length → J.go i H) ∧ (i = ds.length → J.stop i H) ∧
  ∀ x H' d O σ δ, ds[i]? = some d → J.yld i H x H' → R g F H O σ δ → ∃ F', Step F H O F' H' O ∧ R g F' H' O σ δ ∧ Rep g.K F' x d
def canI (g : Gd) (Wx : WX) (t : DTI) : TI := fun σ H P => ∃ F O δ, R g F H O σ δ ∧ t δ (fun ds δ' => ∀ J F' H' O', Step F H O F' H' O' → R g F' H' O' σ δ' → Yields g J ds F' → P J H') (canX g Wx F H O σ)
def MonoI (t : DTI) : Prop := ∀ δ Q Q' X X', (∀ w δ', Q w δ' → Q' w δ') → (∀ c δ', X c δ' → X' c δ') → t δ Q X → t δ Q' X'
structure DI (X : Cx) (g : Gd) (Wx : WX) (tg iter : Expr) (t : DTI) : Prop where
  mono : MonoI t
  pi : PI X tg iter (canI g Wx t)
theorem piMono {X : Cx} {tg e : Expr} {t t' : TI} (h : PI X tg e t) (i : ∀ σ H Q, t' σ H Q → t σ H Q) : PI X tg e t' := ⟨fun pins s σ H Q I q => h.run pins s σ H Q I (i σ H Q q)⟩
/-- one sign's text -/
def sign (c : Nat) : Str := ⟨#[c]⟩
def itemsD : D → Option (List D)
  | .lst ds => some ds
  | .tup ds => some ds
  | .sc (.str z) => some (z.cps.toList.map fun c => .sc (.str (sign c)))
  | .scr ns => some (ns.map fun n => .sc (.int n))
  | _ => none
def iAny (K : PySem.W.Frag) (tl : TE) : TI := fun σ H P => tl σ H fun x H1 => (∃ a, x = .ref a ∧ (∃ xs, SqL K H1 a xs) ∧ P (Itl K a) H1) ∨ (∃ a, x = .ref a ∧ (∃ xs, SqT K H1 a xs) ∧ P (Itt K a) H1) ∨ ∃ z, x = .str z ∧ P (Its z) H1
/-- an iterator object just laid, its turns told -/
theorem it_laid {X : Cx} {tg : Expr} {pins : List (Addr × Obj)} {σ : L2.St} {H : Hp} {s : Shared} {P : It → Hp → Prop} {J : It} {tn : Nat → Heap → Prop} {o : Obj} (I : Inv X pins σ H s) (T : Turn X.prog X.w X.K tg J [s.heap.objs.size] s.heap.objs.size tn) (t0 : tn 0 (s.heap.push o)) (q : P J H) :
    PIE X pins σ tg P (.ref s.heap.objs.size) { s with heap := s.heap.push o } :=
  ⟨_, _, tn, J, H, rfl, I.kept (t' := s.toks) fun b u e => Heap.get?_push_of_some _ e, T, t0, fun b hb => by
    rw [List.mem_singleton.mp hb]
    exact I.fpOk (Nat.le_refl _) (I.hok.fresh (Nat.le_refl _)), q⟩
theorem pi_any {X : Cx} {tg l : Expr} {tl : TE} (hl : PE X l tl) : PI X tg l (iAny X.K tl) := by
  constructor
  intro pins s σ H P I h
  apply thn (hl.run pins s σ H _ I h)
  rintro v s1 ⟨x, H1, I1, r1, ⟨a, rfl, ⟨xs, hq⟩, q⟩ | ⟨a, rfl, ⟨xs, hq⟩, q⟩ | ⟨z, rfl, q⟩⟩
  · obtain rfl : v = .ref a := r1
    obtain ⟨its, _, p, _⟩ := I1.list hq
    exact wpAny_pyIter_list p.isList (it_laid I1 (turn_list a _) ⟨_, Heap.get?_push_size _ rfl, rfl, rfl⟩ q)
  · obtain rfl : v = .ref a := r1
    obtain ⟨its, _, p, _⟩ := I1.tuple hq
    exact wpAny_pyIter_tuple (show s1.heap.IsTuple a its.toArray from p) (it_laid I1 (turn_tuple a _) ⟨_, Heap.get?_push_size _ rfl, rfl, rfl⟩ q)
  · obtain ⟨t, rfl⟩ := r1
    by_cases ha : z.cps.all (· < 128) = true
    · exact wpAny_pyIter_ascii ha (it_laid I1 (turn_str _ z t "str_ascii_iterator" (.inl rfl)) ⟨_, Heap.get?_push_size _ rfl, rfl, rfl⟩ q)
    · exact wpAny_pyIter_wide (Bool.eq_false_iff.mpr ha) (it_laid I1 (turn_str _ z t "str_iterator" (.inr rfl)) ⟨_, Heap.get?_push_size _ rfl, rfl, rfl⟩ q)
theorem yields_list {g : Gd} {F : Hp} {a : Addr} {vs : List V} {ds : List D} (h : SqL g.K F a vs) (r : Reps g.K F vs ds) : Yields g (Itl g.K a) ds F := fun F1 H s1 s2 i => by
  have h' := s2.sqL (s1.sqL h)
  refine ⟨fun hi => ?_, fun hi => ⟨vs, h', by rw [r.length, hi]; exact Nat.le_refl _⟩, fun x H' d O σ δ hd hy rr => ?_⟩
  · obtain ⟨v, hv, _⟩ := r.get (i := i) (d := ds[i]) (by simp [hi])
    exact ⟨vs, v, h', hv⟩
  · obtain ⟨v, hv, rv⟩ := r.get hd
    obtain ⟨rfl, hy⟩ := hy
    have := hy vs h'
    rw [hv] at this
    cases this
    exact ⟨F1, Step.refl _ _ _, rr, rv.sub s1⟩
theorem yields_tup {g : Gd} {F : Hp} {a : Addr} {vs : List V} {ds : List D} (h : SqT g.K F a vs) (r : Reps g.K F vs ds) : Yields g (Itt g.K a) ds F := fun F1 H s1 s2 i => by
  have h' := s2.sqT (s1.sqT h)
  refine ⟨fun hi => ?_, fun hi => ⟨vs, h', by rw [r.length, hi]; exact Nat.le_refl _⟩, fun x H' d O σ δ hd hy rr => ?_⟩
  · obtain ⟨v, hv, _⟩ := r.get (i := i) (d := ds[i]) (by simp [hi])
    exact ⟨vs, v, h', hv⟩
  · obtain ⟨v, hv, rv⟩ := r.get hd
    obtain ⟨rfl, hy⟩ := hy
    have := hy vs h'
    rw [hv] at this
    cases this
    exact ⟨F1, Step.refl _ _ _, rr, rv.sub s1⟩
theorem yields_str {g : Gd} {F : Hp} (z : Str) : Yields g (Its z) (z.cps.toList.map fun c => .sc (.str (sign c))) F := fun F1 H s1 s2 i => by
  refine ⟨fun hi => by (show i < z.cps.size); simpa using hi, fun hi => by (show z.cps.size ≤ i); rw [hi]; simp, fun x H' d O σ δ hd hy rr => ?_⟩
  obtain ⟨rfl, c, hc, rfl⟩ := hy
  rw [List.getElem?_map, Array.getElem?_toList, hc] at hd
  cases hd
  exact ⟨F1, Step.refl _ _ _, rr, .sc _⟩
def dIt (ta : DTE) : DTI := fun δ Q Y => ta δ (fun w δ1 => ∃ d δ2, frz1 δ1 w = some (d, δ2) ∧ ∃ ds, itemsD d = some ds ∧ Q ds δ2) Y
section
variable {X : Cx} {g : Gd} {Wx : WX} {e a b c tg iter elt : Expr} {es rest : List Expr} {ta tb tc : DTE} {tA : DTA} {t u : DTT} {ti : DTI} {pos : Pos} {st : Stmt} {sts : List Stmt} {ts us : DTS}
theorem di_any (gK : g.K = X.K) (ha : DE X g Wx e ta) : DI X g Wx tg e (dIt ta) := by
  refine ⟨fun δ Q Q' Y Y' hQ hY h => ha.mono _ _ _ _ _ (fun w δ1 ⟨d, δ2, e, ds, e2, q⟩ => ⟨d, δ2, e, ds, e2, hQ _ _ q⟩) hY h, piMono (pi_any ha.pe) ?_⟩
  rintro σ H Q ⟨F, O, δ, r, q⟩
  refine ⟨F, O, δ, r, ha.mono _ _ _ _ _ (fun w δ1 q v F1 H1 O1 s1 r1 x1 => ?_) (fun _ _ z => z) q⟩
  obtain ⟨d, δ2, e1, ds, e2, q⟩ := q
  obtain ⟨F2, O2, s2, r2, rp⟩ := froze s1 r1 x1 e1
  rw [← gK]
  cases rp with
  | lst h rs => cases e2; exact .inl ⟨_, rfl, ⟨_, .of (r2.sub _ _ h)⟩, q _ F2 H1 O2 s2 r2 (yields_list (.of h) rs)⟩
  | scr h => cases e2; exact .inl ⟨_, rfl, ⟨_, r2.sub.sqL h⟩, q _ F2 H1 O2 s2 r2 (yields_list h (by rw [show (fun n => D.sc (.int n)) = D.sc ∘ V.int from rfl, ← List.map_map]; exact Reps.scs _))⟩
  | tup h rs => cases e2; exact .inr (.inl ⟨_, rfl, ⟨_, r2.sub.sqT h⟩, q _ F2 H1 O2 s2 r2 (yields_tup h rs)⟩)
  | dic h rs => cases e2
  | sc v =>
    cases v with
    | str z => cases e2; exact .inr (.inr ⟨z, rfl, q _ F2 H1 O2 s2 r2 (yields_str z)⟩)
    | _ => cases e2
/-- lo, lo + 1, .. (n of them) -/
def rngL (lo : Int) (n : Nat) : List D := (List.range n).map fun (i : Nat) => .sc (.int (lo + i))
theorem yields_range {F : Hp} (lo : Int) (n : Nat) : Yields g (Itr lo n) (rngL lo n) F := fun F1 H s1 s2 i => by
  refine ⟨fun hi => by (show i < n); simpa [rngL] using hi, fun hi => by (show n ≤ i); rw [hi]; simp [rngL], fun x H' d O σ δ hd hy rr => ?_⟩
  obtain ⟨rfl, rfl⟩ := hy
  unfold rngL at hd
  rw [List.getElem?_map] at hd
  cases h : (List.range n)[i]? with
  | none => rw [h] at hd; cases hd
  | some j =>
    rw [h] at hd
    cases hd
    have : i = j := by
      rw [List.getElem?_eq_some_iff] at h
      obtain ⟨h1, h2⟩ := h
      rw [List.getElem_range] at h2
      exact h2
    subst this
    exact ⟨F1, Step.refl _ _ _, rr, .sc _⟩
def dRng1 (tA : DTA) : DTI := fun δ Q Y => tA δ (fun ws δ1 => ∃ j : Int, vals δ1 ws = some [.sc (.int j)] ∧ -(2 ^ 62) ≤ j ∧ j < 2 ^ 62 ∧ Q (rngL 0 j.toNat) δ1) Y
def dRng2 (tA : DTA) : DTI := fun δ Q Y => tA δ (fun ws δ1 => ∃ i j : Int, vals δ1 ws = some [.sc (.int i), .sc (.int j)] ∧ (-(2 ^ 62) ≤ i ∧ i < 2 ^ 62 ∧ -(2 ^ 62) ≤ j ∧ j < 2 ^ 62) ∧ Q (rngL i (j - i).toNat) δ1) Y
theorem di_rng1 {p : Pos} (hg : Gl X "range") (hm : X.mg "range" = none) (ha : DA X g Wx [a] tA) (hs : starEach [a] X.env = [(false, eval a X.env)] := by rfl) : DI X g Wx tg (.Call (.Name "range" p) [a] [] pos) (dRng1 tA) := by
  refine ⟨fun δ Q Q' Y Y' hQ hY h => ha.mono _ _ _ _ _ (fun w δ1 ⟨j, e, z1, z2, q⟩ => ⟨j, e, z1, z2, hQ _ _ q⟩) hY h, piMono (pi_range1 hg hm ha.pa hs) ?_⟩
  rintro σ H Q ⟨F, O, δ, r, q⟩
  refine ⟨F, O, δ, r, ha.mono _ _ _ _ _ (fun w δ1 q v F1 H1 O1 s1 r1 x1 => ?_) (fun _ _ z => z) q⟩
  obtain ⟨j, e1, z1, z2, q⟩ := q
  have hc := r1.conts x1 e1
  cases hc with
  | cons h1 h2 =>
    cases h2
    exact ⟨j, by rw [show _ = V.int j from h1], z1, z2, q _ F1 H1 O1 s1 r1 (yields_range 0 _)⟩
theorem di_rng2 {p : Pos} (hg : Gl X "range") (hm : X.mg "range" = none) (ha : DA X g Wx [a, b] tA) (hs : starEach [a, b] X.env = [(false, eval a X.env), (false, eval b X.env)] := by rfl) (hs2 : starEach [b] X.env = [(false, eval b X.env)] := by rfl) :
    DI X g Wx tg (.Call (.Name "range" p) [a, b] [] pos) (dRng2 tA) := by
  refine ⟨fun δ Q Q' Y Y' hQ hY h => ha.mono _ _ _ _ _ (fun w δ1 ⟨i, j, e, z1, q⟩ => ⟨i, j, e, z1, hQ _ _ q⟩) hY h, piMono (pi_range2 hg hm ha.pa hs hs2) ?_⟩
  rintro σ H Q ⟨F, O, δ, r, q⟩
  refine ⟨F, O, δ, r, ha.mono _ _ _ _ _ (fun w δ1 q v F1 H1 O1 s1 r1 x1 => ?_) (fun _ _ z => z) q⟩
  obtain ⟨i, j, e1, z1, q⟩ := q
  have hc := r1.conts x1 e1
  cases hc with
  | cons h1 h2 =>
    cases h2 with
    | cons h2 h3 =>
      cases h3
      exact ⟨i, j, by rw [show _ = V.int i from h1, show _ = V.int j from h2], z1, q _ F1 H1 O1 s1 r1 (yields_range i _)⟩

/-! ### for -/
theorem EndsOk.loop {F H : Hp} {O : Own} {D : L2.Ends} {D' : DEnds} (e : EndsOk g Wx F H O D D') {N : L2.St → Hp → Prop} {n : DS → Prop} (h : ∀ δ' F' H' O' σ', Step F H O F' H' O' → R g F' H' O' σ' δ' → n δ' → N σ' H') :
    EndsOk g Wx F H O { D with nx := N, ct := N, bk := D.nx } { D' with nx := n, ct := n, bk := D'.nx } := ⟨h, e.rt, e.nx, h, e.ex⟩
theorem DEnds.le.loop {D D' : DEnds} (l : DEnds.le D D') {n n' : DS → Prop} (h : ∀ δ, n δ → n' δ) : DEnds.le { D with nx := n, ct := n, bk := D.nx } { D' with nx := n', ct := n', bk := D'.nx } := ⟨h, l.rt, l.nx, h, l.ex⟩
def dForL (gt : DTG) (tb : DTS) (D : DEnds) : List DL.D → DS → Prop
  | [], δ => D.nx δ
  | d :: ds, δ => gt d δ fun δ1 => tb { D with nx := dForL gt tb D ds, ct := dForL gt tb D ds, bk := D.nx } δ1
def dFor (ti : DTI) (gt : DTG) (tb : DTS) : DTS := fun D δ => ti δ (fun ds δ1 => dForL gt tb D ds δ1) D.ex
theorem dForL_mono {gt : DTG} {tb : DTS} (hg : ∀ d δ Q Q', (∀ δ', Q δ' → Q' δ') → gt d δ Q → gt d δ Q') (hb : MonoS tb) {D D' : DEnds} (l : DEnds.le D D') : ∀ ds δ, dForL gt tb D ds δ → dForL gt tb D' ds δ
  | [], δ, h => l.nx _ h
  | d :: ds, δ, h => hg _ _ _ _ (fun δ1 h => hb _ _ _ (l.loop (dForL_mono hg hb l ds)) h) h
theorem ds_for {body : List Stmt} {gt : DTG} {is : List Nat} {tb : DTS} (hp : PassesOwn (model X.prog X.w) X.A X.env X.xe) (hc : X.calm = true) (hi : DI X g Wx tg iter ti) (hg : DG X g tg gt is) (hb : DSs X g Wx body tb)
    (hs : ∀ x, foldedSetIterable iter X.env x = pure x := by intro _; rfl) : DSt X g Wx (.For tg iter body [] pos) (dFor ti gt tb) := by
  refine ⟨fun D D' δ l q => hi.mono _ _ _ _ _ (fun ds δ1 q => dForL_mono hg.mono hb.mono l _ _ q) l.ex q, psMono (ps_for hp hc hi.pi hg.pg hb.ps hs) ?_⟩
  rintro D σ H ⟨F, O, δ, D', r, e, q⟩
  refine ⟨F, O, δ, r, hi.mono _ _ _ _ _ (fun ds δ1 q J F1 H1 O1 s1 r1 y1 => ?_) (fun c δ q => e.x c δ q) q⟩
  refine ⟨fun i m σ' H' => m = ds.length - i ∧ i ≤ ds.length ∧ ∃ F' O' δ', Step F H O F' H' O' ∧ Sub F1 F' ∧ R g F' H' O' σ' δ' ∧ dForL gt tb D' (ds.drop i) δ', ⟨_, rfl, Nat.zero_le _, F1, O1, δ1, s1, Sub.refl _, r1, q⟩, ?_⟩
  rintro i m σ' H' ⟨rfl, hi', F', O', δ', s', k', r', q'⟩
  obtain ⟨y2, y3, y4⟩ := y1 F' H' k' r'.sub i
  by_cases hlt : i < ds.length
  · refine .inr ⟨y2 hlt, fun σ'' H'' => i + 1 ≤ ds.length ∧ ∃ F' O' δ', Step F H O F' H'' O' ∧ Sub F1 F' ∧ R g F' H'' O' σ'' δ' ∧ dForL gt tb D' (ds.drop (i + 1)) δ', fun σ'' H'' ⟨h1, h2⟩ => ⟨ds.length - (i + 1), by omega, rfl, h1, h2⟩, fun x H2 hy => ?_⟩
    rw [List.drop_eq_getElem_cons hlt] at q'
    obtain ⟨F2, s2, r2, rp⟩ := y4 x H2 ds[i] O' σ' δ' (by simp [hlt]) hy r'
    refine ⟨F2, O', δ', ds[i], r2, rp, hg.mono _ _ _ _ (fun δ3 q3 F3 H3 O3 σ3 s3 r3 _ _ => ?_) q'⟩
    have s4 := (s'.trans s2).trans s3
    have k4 := (k'.trans s2.ff).trans s3.ff
    have loop : ∀ δ' F' H' O' σ', Step F3 H3 O3 F' H' O' → R g F' H' O' σ' δ' → dForL gt tb D' (ds.drop (i + 1)) δ' → i + 1 ≤ ds.length ∧ ∃ F'' O' δ', Step F H O F'' H' O' ∧ Sub F1 F'' ∧ R g F'' H' O' σ' δ' ∧ dForL gt tb D' (ds.drop (i + 1)) δ' :=
      fun δ' F' H' O' σ' s r q => ⟨hlt, F', O', δ', s4.trans s, k4.trans s.ff, r, q⟩
    exact ⟨F3, O3, δ3, _, r3, (e.step s4).loop loop, q3⟩
  · have ei : i = ds.length := by omega
    subst ei
    rw [List.drop_length] at q'
    exact .inl ⟨y3 rfl, e.nx δ' F' H' O' σ' s' r' q'⟩

/-! ### while -/
def dWhileN (t : DTT) (tb : DTS) (D : DEnds) : Nat → DS → Prop
  | 0, _ => False
  | n + 1, δ => t δ (fun k δ1 => if k = true then tb { D with nx := dWhileN t tb D n, ct := dWhileN t tb D n, bk := D.nx } δ1 else D.nx δ1) D.ex
def dWhile (t : DTT) (tb : DTS) : DTS := fun D δ => ∃ n, dWhileN t tb D n δ
theorem dWhileN_mono {tb : DTS} (ht : MonoT t) (hb : MonoS tb) {D D' : DEnds} (l : DEnds.le D D') : ∀ n δ, dWhileN t tb D n δ → dWhileN t tb D' n δ
  | 0, δ, h => h
  | n + 1, δ, h => ht _ _ _ _ _ (fun k δ1 h => by
    cases k with
    | true => exact hb _ _ _ (l.loop (dWhileN_mono ht hb l n)) h
    | false => exact l.nx _ h) l.ex h
theorem ds_while {body : List Stmt} {tb : DTS} (hp : PassesOwn (model X.prog X.w) X.A X.env X.xe) (hc : DT X g Wx c t) (hb : DSs X g Wx body tb) : DSt X g Wx (.While c body [] pos) (dWhile t tb) := by
  refine ⟨fun D D' δ l ⟨n, q⟩ => ⟨n, dWhileN_mono hc.mono hb.mono l n δ q⟩, psMono (ps_while hp hc.pt hb.ps) ?_⟩
  rintro D σ H ⟨F, O, δ, D', r, e, n, q⟩
  refine ⟨fun m σ' H' => ∃ F' O' δ', Step F H O F' H' O' ∧ R g F' H' O' σ' δ' ∧ dWhileN t tb D' m δ', ⟨n, F, O, δ, Step.refl _ _ _, r, q⟩, ?_⟩
  rintro m σ1 H1 ⟨F1, O1, δ1, s1, r1, q1⟩
  cases m with
  | zero => exact q1.elim
  | succ m =>
    refine ⟨F1, O1, δ1, r1, hc.mono _ _ _ _ _ (fun k δ2 q2 F2 H2 O2 s2 r2 => ?_) (fun c δ q => (e.step s1).x c δ q) q1⟩
    have s3 := s1.trans s2
    cases k with
    | false => exact e.nx δ2 F2 H2 O2 σ1 s3 r2 q2
    | true =>
      have loop : ∀ δ' F' H' O' σ', Step F2 H2 O2 F' H' O' → R g F' H' O' σ' δ' → dWhileN t tb D' m δ' → ∃ F'' O' δ', Step F H O F'' H' O' ∧ R g F'' H' O' σ' δ' ∧ dWhileN t tb D' m δ' :=
        fun δ' F' H' O' σ' s r q => ⟨F', O', δ', s3.trans s, r, q⟩
      refine ⟨fun σ' H' => ∃ F' O' δ', Step F H O F' H' O' ∧ R g F' H' O' σ' δ' ∧ dWhileN t tb D' m δ', fun σ' H' h => ⟨m, Nat.lt_succ_self _, h⟩, ?_⟩
      exact ⟨F2, O2, δ2, _, r2, (e.step s3).loop loop, q2⟩

/-! ### raise -/
def dRaise (C : Addr) : DTS := fun D δ => D.ex (.ref C) δ
theorem ds_raise {C : Addr} {x m : Str} {j : Nat} {p p2 : Pos} {pos2 : Pos} {B newId initId : String} {bmB : List Value} (hc : X.calm = true) (tk : Takes X Wx) (Fb : ExcBaseFacts B newId initId bmB) (q : PySem.W.excIn X.K C bmB newId = true) (gC : X.mg x = some (.ref C))
    (kC : PySem.W.keepIn X.K (.ref C) = true) (rs : Raises X (.ref C)) (hg : Gl X x) (hdb : (x == ("__debug__" : Str)) = false := by decide) : DSt X g Wx (.Raise (some (.Call (.Name x p) [.Constant (.str m) j p2] [] pos2)) none pos) (dRaise C) := by
  refine ⟨fun D D' δ l h => l.ex _ _ h, psMono (ps_raise hc tk (pmk_own Fb q gC kC rs hg hdb)) ?_⟩
  rintro D σ H ⟨F, O, δ, D', r, e, q⟩
  exact e.ex _ δ F H O σ (Step.refl _ _ _) r q
end
end DL

/-! text DLG -/
set_option Elab.async false
set_option linter.all false
set_option maxRecDepth 100000
namespace DL
open PySem PySem.Spec L2

/-! ### comprehensions -/
def wipeL (l : List (Option Wv)) : List Nat → List (Option Wv)
  | [] => l
  | v :: vs => (wipeL l vs).set v none
def DS.wipe (δ : DS) (vs : List Nat) : DS := ⟨wipeL δ.sl vs, δ.an⟩
def restL (l l1 : List (Option Wv)) : List Nat → List (Option Wv)
  | [] => l
  | v :: vs => (restL l l1 vs).set v (match l1[v]? with
    | some (some (.pu d)) => some (.pu d)
    | _ => none)
def DS.rest (δ δ1 : DS) (vs : List Nat) : DS := ⟨restL δ.sl δ1.sl vs, δ.an⟩
theorem wipe_len (l : List (Option Wv)) : ∀ vs, (wipeL l vs).length = l.length
  | [] => rfl
  | v :: vs => by rw [wipeL, List.length_set, wipe_len l vs]
theorem rest_len (l l1 : List (Option Wv)) : ∀ vs, (restL l l1 vs).length = l.length
  | [] => rfl
  | v :: vs => by rw [restL, List.length_set, rest_len l l1 vs]
theorem wipe_get {l : List (Option Wv)} : ∀ {vs : List Nat} {i : Nat} {w : Wv}, (wipeL l vs)[i]? = some (some w) → i ∉ vs ∧ l[i]? = some (some w)
  | [], i, w, h => ⟨by simp, h⟩
  | v :: vs, i, w, h => by
    rw [wipeL] at h
    by_cases hi : i = v
    · subst hi
      rcases set_at (wipeL l vs) i none with z | z
      · rw [z] at h; cases h
      · rw [z] at h; cases h
    · rw [List.getElem?_set_ne (Ne.symm hi)] at h
      obtain ⟨h1, h2⟩ := wipe_get h
      exact ⟨by simp [hi, h1], h2⟩
theorem wipeV_out {σ : L2.St} {i : Nat} : ∀ {vs : List Nat}, i ∉ vs → (wipe σ vs)[i]? = σ[i]?
  | [], _ => rfl
  | v :: vs, h => by
    simp only [List.mem_cons, not_or] at h
    show ((wipe σ vs).set v none)[i]? = _
    rw [List.getElem?_set_ne (Ne.symm h.1)]
    exact wipeV_out h.2
theorem wipeV_in {σ : L2.St} {i : Nat} : ∀ {vs : List Nat}, i ∈ vs → (wipe σ vs)[i]? = if i < σ.length then some none else none
  | v :: vs, h => by
    show ((wipe σ vs).set v none)[i]? = _
    by_cases hi : i = v
    · subst hi
      by_cases hl : i < σ.length
      · rw [if_pos hl, List.getElem?_set_self (by rw [wipe_length]; exact hl)]
      · rw [if_neg hl]; exact List.getElem?_eq_none (by rw [List.length_set, wipe_length]; omega)
    · rw [List.getElem?_set_ne (Ne.symm hi)]
      exact wipeV_in (by rcases List.mem_cons.mp h with z | z; exact absurd z hi; exact z)
theorem wipeV_congr {σ τ : L2.St} {vs : List Nat} (hl : σ.length = τ.length) (h : ∀ i, i ∉ vs → σ[i]? = τ[i]?) : wipe σ vs = wipe τ vs := by
  refine List.ext_getElem? fun i => ?_
  by_cases hi : i ∈ vs
  · rw [wipeV_in hi, wipeV_in hi, hl]
  · rw [wipeV_out hi, wipeV_out hi, h i hi]
theorem wipeV_idem (σ : L2.St) (vs : List Nat) : wipe (wipe σ vs) vs = wipe σ vs := wipeV_congr (wipe_length σ vs) fun i hi => wipeV_out hi
section
variable {g : Gd} {F H F1 H1 : Hp} {O O1 : Own} {σ : L2.St} {δ δ1 δ2 : DS}
theorem R.wipe (r : R g F H O σ δ) (vs : List Nat) : R g F H O (L2.wipe σ vs) (δ.wipe vs) := by
  refine ⟨r.sub, fun i w h => ?_, r.an, r.inh, r.ntb, r.tab, by simp [DS.wipe, wipe_len, wipe_length, r.len]⟩
  obtain ⟨h1, h2⟩ := wipe_get (show (wipeL δ.sl vs)[i]? = some (some w) from h)
  obtain ⟨v, e1, e2⟩ := r.sl i w h2
  exact ⟨v, by rw [wipeV_out h1]; exact e1, e2⟩
theorem rest_get {l l1 : List (Option Wv)} : ∀ {vs : List Nat} {i : Nat} {w : Wv}, (restL l l1 vs)[i]? = some (some w) → (i ∉ vs ∧ l[i]? = some (some w)) ∨ ∃ d, w = .pu d ∧ l1[i]? = some (some (.pu d))
  | [], i, w, h => .inl ⟨by simp, h⟩
  | v :: vs, i, w, h => by
    rw [restL] at h
    by_cases hi : i = v
    · subst hi
      rcases set_at (restL l l1 vs) i (match l1[i]? with
        | some (some (.pu d)) => some (.pu d)
        | _ => none) with z | z
      · rw [z] at h
        have h := Option.some.inj h
        cases e : l1[i]? with
        | none => simp only [e] at h; cases h
        | some o =>
          cases o with
          | none => simp only [e] at h; cases h
          | some w' =>
            cases w' with
            | pu d => simp only [e] at h; cases h; exact .inr ⟨d, rfl, rfl⟩
            | _ => simp only [e] at h; cases h
      · rw [z] at h; cases h
    · rw [List.getElem?_set_ne (Ne.symm hi)] at h
      rcases rest_get h with ⟨h1, h2⟩ | h
      · exact .inl ⟨by simp [hi, h1], h2⟩
      · exact .inr h
theorem R.rest {vs : List Nat} (r1 : R g F1 H1 O1 σ δ1) (r : R g F H O (L2.wipe σ vs) δ) (s : Step F1 H1 O1 F H O) : R g F H O σ (δ.rest δ1 vs) := by
  refine ⟨r.sub, fun i w h => ?_, r.an, r.inh, r.ntb, r.tab, ?_⟩
  · rcases rest_get (show (restL δ.sl δ1.sl vs)[i]? = some (some w) from h) with ⟨h1, h2⟩ | ⟨d, rfl, h1⟩
    · obtain ⟨v, e1, e2⟩ := r.sl i w h2
      exact ⟨v, by rw [← e1, wipeV_out h1], e2⟩
    · obtain ⟨v, e1, e2⟩ := r1.sl i _ h1
      exact ⟨v, e1, Rep.sub s.ff e2⟩
  · have := r.len
    rw [wipe_length] at this
    show σ.length = (restL δ.sl δ1.sl vs).length
    rw [rest_len]
    exact this
/-- an untouched list of ours changes -/
theorem R.poke (r : R g F H O σ δ) {p : Addr} {xs : List V} {o : HO} (h : H p = some (.lst xs)) (hF : F p = none) (hO : O p = none) : R g F (upd H p o) O σ δ := by
  have k : ∀ a, a ≠ p → upd H p o a = H a := fun a n => upd_ne n
  have hl : ∀ {q : Owner} {v : V} {m : M}, Hold g.K F H O q v m → Hold g.K F (upd H p o) O q v m := fun {q v m} ⟨a, e, h, x⟩ => ⟨a, e, h, x.sub (Sub.refl _) fun o' h' _ => by
    rw [k a fun z => by rw [z, hO] at h; cases h]; exact h'⟩
  refine ⟨fun a u e => ?_, fun i w h => ?_, fun i w h => ?_, fun a n => ?_, r.ntb, fun q hq => ?_, r.len⟩
  · rw [k a fun z => by rw [z, hF] at e; cases e]; exact r.sub _ _ e
  · obtain ⟨v, h1, h2⟩ := r.sl i w h
    refine ⟨v, h1, ?_⟩
    cases w with
    | ow m => exact hl h2
    | _ => exact h2
  · obtain ⟨v, h1, h2⟩ := r.an i w h
    refine ⟨v, h1, ?_⟩
    cases w with
    | ow m => exact hl h2
    | _ => exact h2
  · obtain ⟨⟨u, e, t⟩, f⟩ := r.inh a n
    exact ⟨⟨u, by rw [k a fun z => n (by rw [z]; exact hO)]; exact e, t⟩, f⟩
  · obtain ⟨ps, e1, e2, e3⟩ := r.tab q hq
    refine ⟨ps, ?_, e2, fun pos cv hc => ?_⟩
    · rw [k _ fun z => by rw [z, h] at e1; cases e1]; exact e1
    · obtain ⟨c, ec, hc2⟩ := e3 pos cv hc
      exact ⟨c, ec, by rw [k _ fun z => by rw [z, h] at hc2; cases hc2]; exact hc2⟩
theorem Step.poke (s : Step F H O F1 H1 O1) {p : Addr} {o : HO} (n : H p = none) (nt : ∀ ps, o ≠ .tbl ps := by intro _ z; cases z) : Step F H O F1 (upd H1 p o) O1 :=
  ⟨s.ff, fun a u h no t => by rw [upd_ne fun z => by rw [z, n] at h; cases h]; exact s.fr a u h no t, fun a h => (s.th a h).upd nt, s.nf, s.no⟩
/-- the list that a comprehension fills -/
structure AtD (K : PySem.W.Frag) (F H : Hp) (O : Own) (p : Addr) (acc : List D) : Prop where
  at_ : ∃ vs, H p = some (.lst vs) ∧ Reps K F vs acc
  nF : F p = none
  nO : O p = none
theorem AtD.step {K : PySem.W.Frag} {p : Addr} {acc : List D} (x : AtD K F H O p acc) (s : Step F H O F1 H1 O1) : AtD K F1 H1 O1 p acc := by
  obtain ⟨⟨vs, h, r⟩, nF, nO⟩ := x
  have nn : ¬ New H O p := fun z => by
    rcases z with z | z
    · exact z nO
    · exact z ⟨_, h, fun ps q => by cases q⟩
  exact ⟨⟨vs, s.fr _ _ h nO (fun ps z => by cases z), r.sub s.ff⟩, Classical.byContradiction fun z => by
    rcases s.nf p z with q | q
    · exact q nF
    · exact nn q, Classical.byContradiction fun z => nn (s.no p z)⟩
end
def dComp (gt : DTG) (tt : DTT) (te : DTE) (vs : List Nat) : List D → List D → DS → (List D → DS → Prop) → Prop
  | [], acc, δ, Q => Q acc δ
  | d :: ds, acc, δ, Q => gt d δ fun δ1 => tt δ1 (fun b δ2 => if b = true then te δ2 (fun w δ3 => ∃ y, w = .pu y ∧ acc.length < sizeLine ∧ dComp gt tt te vs ds (acc ++ [y]) (δ3.wipe vs) Q) (fun _ _ => False)
      else dComp gt tt te vs ds acc (δ2.wipe vs) Q) fun _ _ => False
theorem dComp_mono {gt : DTG} {tt : DTT} {te : DTE} {vs : List Nat} (hg : ∀ d δ Q Q', (∀ δ', Q δ' → Q' δ') → gt d δ Q → gt d δ Q') (ht : MonoT tt) (he : MonoE te) {Q Q' : List D → DS → Prop} (hQ : ∀ a δ, Q a δ → Q' a δ) : ∀ ds acc δ, dComp gt tt te vs ds acc δ Q → dComp gt tt te vs ds acc δ Q'
  | [], acc, δ, h => hQ _ _ h
  | d :: ds, acc, δ, h => hg _ _ _ _ (fun δ1 h => ht _ _ _ _ _ (fun b δ2 h => by
    cases b with
    | true => exact he _ _ _ _ _ (fun w δ3 ⟨y, e, z, h⟩ => ⟨y, e, z, dComp_mono hg ht he hQ ds _ _ h⟩) (fun _ _ z => z) h
    | false => exact dComp_mono hg ht he hQ ds _ _ h) (fun _ _ z => z) h) h
/-- no exception leaves a comprehension's block -/
abbrev WxF : WX := fun _ _ _ _ => False
theorem compLoop {g : Gd} {gt : DTG} {is : List Nat} {tt : DTT} {te : DTE} {vs : List Nat} {J : It} {p : Addr} {σ : L2.St} {NxO : Hp → Prop} {Qd : List D → DS → Prop} {F0 H0 : Hp} {O0 : Own}
    (hg : ∀ d δ Q Q', (∀ δ', Q δ' → Q' δ') → gt d δ Q → gt d δ Q') (ht : MonoT tt) (he : MonoE te) (hi : ∀ i ∈ is, i ∈ vs) {F1 H1 : Hp} {O1 : Own} {δ1 : DS} {ds acc0 : List D} (n0 : H0 p = none) (s1 : Step F0 H0 O0 F1 H1 O1) (r1 : R g F1 H1 O1 (wipe σ vs) δ1) (a1 : AtD g.K F1 H1 O1 p acc0)
    (y1 : Yields g J ds F1) (q1 : dComp gt tt te vs ds acc0 δ1 Qd)
    (fin : ∀ F' H' O' δ' acc', Step F0 H0 O0 F' H' O' → R g F' H' O' (wipe σ vs) δ' → AtD g.K F' H' O' p acc' → Qd acc' δ' → NxO H') :
    ∃ W : Nat → Nat → Hp → Prop, (∃ m, W 0 m H1) ∧ ∀ i m H, W i m H → (J.stop i H ∧ NxO H) ∨ (J.go i H ∧ ∃ Nx : Hp → Prop, (∀ H', Nx H' → ∃ m', m' < m ∧ W (i + 1) m' H') ∧
      ∀ x H', J.yld i H x H' → canG g gt is x (wipe σ vs) H' fun σ2 H2 => wipe σ2 vs = wipe σ vs ∧ canT g WxF tt σ2 H2 fun b H3 =>
        if b = true then canE g WxF te σ2 H3 fun y H4 => ∃ acc, H4 p = some (.lst acc) ∧ acc.length < sizeLine ∧ Nx (upd H4 p (.lst (acc ++ [y]))) else Nx H3) := by
  refine ⟨fun i m H' => m = ds.length - i ∧ i ≤ ds.length ∧ ∃ F' O' δ' acc, Step F0 H0 O0 F' H' O' ∧ Sub F1 F' ∧ R g F' H' O' (wipe σ vs) δ' ∧ AtD g.K F' H' O' p acc ∧ dComp gt tt te vs (ds.drop i) acc δ' Qd, ⟨_, rfl, Nat.zero_le _, F1, O1, δ1, acc0, s1, Sub.refl _, r1, a1, q1⟩, ?_⟩
  rintro i m H' ⟨rfl, hi', F', O', δ', acc, s', k', r', a', q'⟩
  obtain ⟨y2, y3, y4⟩ := y1 F' H' k' r'.sub i
  by_cases hlt : i < ds.length
  · refine .inr ⟨y2 hlt, fun H'' => i + 1 ≤ ds.length ∧ ∃ F' O' δ' acc, Step F0 H0 O0 F' H'' O' ∧ Sub F1 F' ∧ R g F' H'' O' (wipe σ vs) δ' ∧ AtD g.K F' H'' O' p acc ∧ dComp gt tt te vs (ds.drop (i + 1)) acc δ' Qd, fun H'' ⟨h1, h2⟩ => ⟨ds.length - (i + 1), by omega, rfl, h1, h2⟩, fun x H2 hy => ?_⟩
    rw [List.drop_eq_getElem_cons hlt] at q'
    obtain ⟨F2, s2, r2, rp⟩ := y4 x H2 ds[i] O' _ δ' (by simp [hlt]) hy r'
    refine ⟨F2, O', δ', ds[i], r2, rp, hg _ _ _ _ (fun δ3 q3 F3 H3 O3 σ3 s3 r3 l3 k3 => ?_) q'⟩
    have ew : wipe σ3 vs = wipe σ vs := by
      rw [← wipeV_idem σ vs]
      exact wipeV_congr l3 fun j hj => k3 j fun z => hj (hi j z)
    refine ⟨ew, F3, O3, δ3, r3, ht _ _ _ _ _ (fun b δ4 q4 F4 H4 O4 s4 r4 => ?_) (fun _ _ z => z.elim) q3⟩
    have s5 := s2.trans (s3.trans s4)
    cases b with
    | false =>
      simp only [Bool.false_eq_true, if_false] at q4 ⊢
      exact ⟨hlt, F4, O4, _, acc, s'.trans s5, k'.trans s5.ff, by rw [← ew]; exact r4.wipe vs, a'.step s5, q4⟩
    | true =>
      simp only [if_true] at q4 ⊢
      refine ⟨F4, O4, δ4, r4, he _ _ _ _ _ (fun w δ5 q5 v F5 H5 O5 s6 r5 x5 => ?_) (fun _ _ z => z.elim) q4⟩
      obtain ⟨y, rfl, hz, q5⟩ := q5
      have s7 := s5.trans s6
      obtain ⟨⟨vacc, hD, rD⟩, nF, nO⟩ := a'.step s7
      refine ⟨vacc, hD, by rw [rD.length]; exact hz, hlt, F5, O5, _, acc ++ [y], (s'.trans s7).poke n0, k'.trans s7.ff, by rw [← ew]; exact (r5.wipe vs).poke hD nF nO, ⟨⟨_, upd_same, rD.append (.one x5)⟩, nF, nO⟩, q5⟩
  · have ei : i = ds.length := by omega
    subst ei
    rw [List.drop_length] at q'
    exact .inl ⟨y3 rfl, fin F' H' O' δ' acc s' r' a' q'⟩
def dLc (ti : DTI) (gt : DTG) (tt : DTT) (te : DTE) (vs : List Nat) : DTE := fun δ Q Y => ti δ (fun ds δ1 => dComp gt tt te vs ds [] (δ1.wipe vs) fun acc δ2 => Q (.ow (.lst acc)) (δ2.rest δ1 vs)) Y
def dYes : DTT := fun δ Q _ => Q true δ
structure DTs (X : Cx) (g : Gd) (Wx : WX) (ifs : List Expr) (t : DTT) : Prop where
  mono : MonoT t
  pts : PTs X ifs (canT g Wx t)
theorem ptsMono {X : Cx} {ifs : List Expr} {t t' : TT} (h : PTs X ifs t) (i : ∀ σ H Q, t' σ H Q → t σ H Q) : PTs X ifs t' := ⟨fun pins s σ H Q I q => h.run pins s σ H Q I (i σ H Q q)⟩
section
variable {X : Cx} {g : Gd} {Wx : WX} {e a b c tg iter elt tg1 iter1 : Expr} {es rest ifs ifs1 : List Expr} {ta tb tc te : DTE} {tA : DTA} {t u tt tt1 : DTT} {ti ti1 : DTI} {gt gt1 : DTG} {is is1 : List Nat} {pos : Pos} {st : Stmt} {sts : List Stmt} {ts us : DTS} {scope : Scope} {own : List (Str × Nat)}
theorem dts_nil : DTs X g Wx [] dYes := ⟨fun δ Q Q' Y Y' hQ hY h => hQ _ _ h, ptsMono pts_nil fun σ H Q ⟨F, O, δ, r, q⟩ => q F H O (Step.refl _ _ _) r⟩
theorem dts_one (h : DT X g Wx c t) : DTs X g Wx [c] t := ⟨h.mono, pts_one h.pt⟩
theorem lcCan (mi : MonoI ti) (mg : ∀ d δ Q Q', (∀ δ', Q δ' → Q' δ') → gt d δ Q → gt d δ Q') (mt : MonoT tt) (me : MonoE te) {vs : List Nat} (hv : ∀ i ∈ is, i ∈ vs) (σ : L2.St) (H : Hp) (Q : VK) :
    canE g Wx (dLc ti gt tt te vs) σ H Q → tLc (canI g Wx ti) (canG g gt is) (canT g WxF tt) (canE g WxF te) vs σ H Q := by
  rintro ⟨F, O, δ, r, q⟩
  refine ⟨F, O, δ, r, mi _ _ _ _ _ (fun ds δ1 q J F1 H1 O1 s1 r1 y1 p n1 => ?_) (fun _ _ z => z) q⟩
  obtain ⟨r2, s2⟩ := r1.laid (o := .lst []) n1
  obtain ⟨nF, nO⟩ := r1.free n1
  refine compLoop mg mt me hv n1 s2 (r2.wipe vs) ⟨⟨[], upd_same, .nil⟩, nF, nO⟩ y1 q fun F' H' O' δ' acc s' r' a' q' => ?_
  obtain ⟨at_, nF', nO'⟩ := a'
  exact q' (.ref p) F' H' O' (s1.trans s') (r1.rest r' s') ⟨p, rfl, nF', nO', s1.new (.inr (Live.not n1)), at_⟩
theorem dLc_mono (mi : MonoI ti) (mg : ∀ d δ Q Q', (∀ δ', Q δ' → Q' δ') → gt d δ Q → gt d δ Q') (mt : MonoT tt) (me : MonoE te) {vs : List Nat} : MonoE (dLc ti gt tt te vs) := fun δ Q Q' Y Y' hQ hY h =>
  mi _ _ _ _ _ (fun ds δ1 h => dComp_mono mg mt me (fun a δ' h => hQ _ _ h) _ _ _ h) hY h
theorem de_lc (hc : X.calm = true) (hN : X.N.Nodup) (hi : DI X g Wx tg iter ti) (ok : BlkOk X.N X.env.scope scope own) (hv : ∀ i ∈ is, i ∈ own.map (·.2))
    (hg : ∀ (s : Shared) (H : Hp) (C : Addr) (cl : List (Str × Addr)) (fp : List Addr), DG (X.blk s H scope (compEnvC scope cl C X.env) fp) g tg gt is) (ht : ∀ (s : Shared) (H : Hp) (C : Addr) (cl : List (Str × Addr)) (fp : List Addr), DTs (X.blk s H scope (compEnvC scope cl C X.env) fp) g WxF ifs tt)
    (he : ∀ (s : Shared) (H : Hp) (C : Addr) (cl : List (Str × Addr)) (fp : List Addr), DE (X.blk s H scope (compEnvC scope cl C X.env) fp) g WxF elt te) (mg : ∀ d δ Q Q', (∀ δ', Q δ' → Q' δ') → gt d δ Q → gt d δ Q') (mt : MonoT tt) (me : MonoE te)
    (hs : ∀ x, foldedSetIterable iter X.env x = pure x := by intro _; rfl) : DE X g Wx (.ListComp elt [⟨tg, iter, ifs, 0⟩] scope pos) (dLc ti gt tt te (own.map (·.2))) :=
  ⟨dLc_mono hi.mono mg mt me, peMono (pe_lc hc hN hi.pi ok (fun s H C cl fp => (hg s H C cl fp).pg) (fun s H C cl fp => (ht s H C cl fp).pts) (fun s H C cl fp => (he s H C cl fp).pe) hs) (lcCan hi.mono mg mt me hv)⟩
theorem ds_setLc {i : Nat} {y : Str} {py spos : Pos} (hc : X.calm = true) (hN : X.N.Nodup) (hy : X.N[i]? = some y) (hyl : X.env.scope.names.lookup y = some .local)
    (hsw : swapsWith (.ListComp elt [⟨tg, iter, ifs, 0⟩] scope pos) (some (.Name y py)) spos.line X.env = pure true) (hi : DI X g Wx tg iter ti) (ok : BlkOk X.N X.env.scope scope own) (hv : ∀ i ∈ is, i ∈ own.map (·.2))
    (hg : ∀ (s : Shared) (H : Hp) (C : Addr) (cl : List (Str × Addr)) (fp : List Addr), DG (X.blk s H scope (compEnvC scope cl C X.env) fp) g tg gt is) (ht : ∀ (s : Shared) (H : Hp) (C : Addr) (cl : List (Str × Addr)) (fp : List Addr), DTs (X.blk s H scope (compEnvC scope cl C X.env) fp) g WxF ifs tt)
    (he : ∀ (s : Shared) (H : Hp) (C : Addr) (cl : List (Str × Addr)) (fp : List Addr), DE (X.blk s H scope (compEnvC scope cl C X.env) fp) g WxF elt te) (mg : ∀ d δ Q Q', (∀ δ', Q δ' → Q' δ') → gt d δ Q → gt d δ Q') (mt : MonoT tt) (me : MonoE te)
    (hs : ∀ x, foldedSetIterable iter X.env x = pure x := by intro _; rfl) : DSt X g Wx (.Assign [.Name y py] (.ListComp elt [⟨tg, iter, ifs, 0⟩] scope pos) spos) (dSet i (dLc ti gt tt te (own.map (·.2)))) := by
  have m := dLc_mono (vs := own.map (·.2)) hi.mono mg mt me
  refine ⟨dSet_mono m, psMono (ps_setLc (i := i) hc hN hy hyl hsw hi.pi ok (fun s H C cl fp => (hg s H C cl fp).pg) (fun s H C cl fp => (ht s H C cl fp).pts) (fun s H C cl fp => (he s H C cl fp).pe) hs) fun D σ H h => ?_⟩
  exact lcCan hi.mono mg mt me hv σ H _ (setCan m D σ H h)

/-! ### two clauses -/
def dComp2 (gt : DTG) (tt : DTT) (ti1 : DTI) (gt1 : DTG) (tt1 : DTT) (te : DTE) (vs vs1 : List Nat) : List DL.D → List DL.D → DS → (List DL.D → DS → Prop) → Prop
  | [], acc, δ, Q => Q acc δ
  | d :: ds, acc, δ, Q => gt d δ fun δ1 => tt δ1 (fun b δ2 => if b = true then ti1 δ2 (fun ds1 δ3 => dComp gt1 tt1 te vs1 ds1 acc (δ3.wipe vs1) fun acc' δ4 => dComp2 gt tt ti1 gt1 tt1 te vs vs1 ds acc' (δ4.wipe vs) Q) (fun _ _ => False)
      else dComp2 gt tt ti1 gt1 tt1 te vs vs1 ds acc (δ2.wipe vs) Q) fun _ _ => False
theorem dComp2_mono {vs vs1 : List Nat} (hg : ∀ d δ Q Q', (∀ δ', Q δ' → Q' δ') → gt d δ Q → gt d δ Q') (ht : MonoT tt) (hi : MonoI ti1) (hg1 : ∀ d δ Q Q', (∀ δ', Q δ' → Q' δ') → gt1 d δ Q → gt1 d δ Q') (ht1 : MonoT tt1) (he : MonoE te) {Q Q' : List DL.D → DS → Prop} (hQ : ∀ a δ, Q a δ → Q' a δ) :
    ∀ ds acc δ, dComp2 gt tt ti1 gt1 tt1 te vs vs1 ds acc δ Q → dComp2 gt tt ti1 gt1 tt1 te vs vs1 ds acc δ Q'
  | [], acc, δ, h => hQ _ _ h
  | d :: ds, acc, δ, h => hg _ _ _ _ (fun δ1 h => ht _ _ _ _ _ (fun b δ2 h => by
    cases b with
    | true => exact hi _ _ _ _ _ (fun ds1 δ3 h => dComp_mono hg1 ht1 he (fun a δ' h => dComp2_mono hg ht hi hg1 ht1 he hQ ds _ _ h) _ _ _ h) (fun _ _ z => z) h
    | false => exact dComp2_mono hg ht hi hg1 ht1 he hQ ds _ _ h) (fun _ _ z => z) h) h
def dLc2 (ti : DTI) (gt : DTG) (tt : DTT) (ti1 : DTI) (gt1 : DTG) (tt1 : DTT) (te : DTE) (vs vs1 : List Nat) : DTE := fun δ Q Y => ti δ (fun ds δ1 => dComp2 gt tt ti1 gt1 tt1 te vs vs1 ds [] (δ1.wipe vs) fun acc δ2 => Q (.ow (.lst acc)) (δ2.rest δ1 vs)) Y
theorem dLc2_mono {vs vs1 : List Nat} (mi : MonoI ti) (hg : ∀ d δ Q Q', (∀ δ', Q δ' → Q' δ') → gt d δ Q → gt d δ Q') (ht : MonoT tt) (hi : MonoI ti1) (hg1 : ∀ d δ Q Q', (∀ δ', Q δ' → Q' δ') → gt1 d δ Q → gt1 d δ Q') (ht1 : MonoT tt1) (he : MonoE te) :
    MonoE (dLc2 ti gt tt ti1 gt1 tt1 te vs vs1) := fun δ Q Q' Y Y' hQ hY h => mi _ _ _ _ _ (fun ds δ1 h => dComp2_mono hg ht hi hg1 ht1 he (fun a δ' h => hQ _ _ h) _ _ _ h) hY h
theorem lc2Can {vs vs1 : List Nat} (mi : MonoI ti) (hg : ∀ d δ Q Q', (∀ δ', Q δ' → Q' δ') → gt d δ Q → gt d δ Q') (ht : MonoT tt) (mi1 : MonoI ti1) (hg1 : ∀ d δ Q Q', (∀ δ', Q δ' → Q' δ') → gt1 d δ Q → gt1 d δ Q') (ht1 : MonoT tt1) (he : MonoE te)
    (hv : ∀ i ∈ is, i ∈ vs) (hv1 : ∀ i ∈ is1, i ∈ vs1) (hvv : ∀ i ∈ vs1, i ∈ vs) (σ : L2.St) (H : Hp) (Q : VK) :
    canE g Wx (dLc2 ti gt tt ti1 gt1 tt1 te vs vs1) σ H Q → tLc2 (canI g Wx ti) (canG g gt is) (canT g WxF tt) (canI g WxF ti1) (canG g gt1 is1) (canT g WxF tt1) (canE g WxF te) vs vs1 σ H Q := by
  rintro ⟨F, O, δ, r, q⟩
  refine ⟨F, O, δ, r, mi _ _ _ _ _ (fun ds δ1 q J F1 H1 O1 s1 r1 y1 p n1 => ?_) (fun _ _ z => z) q⟩
  obtain ⟨r2, s2⟩ := r1.laid (o := .lst []) n1
  obtain ⟨nF, nO⟩ := r1.free n1
  obtain ⟨Qd, hQd, q⟩ : ∃ Qd : List DL.D → DS → Prop, (∀ acc δ2, Qd acc δ2 → ∀ (v : V) (F' H' : Hp) (O' : Own), Step F H O F' H' O' → R g F' H' O' σ (δ2.rest δ1 vs) → VR g F' H' O' H O σ v (.ow (.lst acc)) → Q v H') ∧ dComp2 gt tt ti1 gt1 tt1 te vs vs1 ds [] (δ1.wipe vs) Qd := ⟨_, fun _ _ h => h, q⟩
  refine ⟨fun i m H' => m = ds.length - i ∧ i ≤ ds.length ∧ ∃ F' O' δ' acc, Step F1 H1 O1 F' H' O' ∧ R g F' H' O' (wipe σ vs) δ' ∧ AtD g.K F' H' O' p acc ∧ dComp2 gt tt ti1 gt1 tt1 te vs vs1 (ds.drop i) acc δ' Qd,
    ⟨_, rfl, Nat.zero_le _, F1, O1, _, [], s2, r2.wipe vs, ⟨⟨[], upd_same, .nil⟩, nF, nO⟩, q⟩, ?_⟩
  rintro i m H' ⟨rfl, hi', F', O', δ', acc, s', r', a', q'⟩
  obtain ⟨y2, y3, y4⟩ := y1 F' H' s'.ff r'.sub i
  by_cases hlt : i < ds.length
  · refine .inr ⟨y2 hlt, fun H'' => i + 1 ≤ ds.length ∧ ∃ F' O' δ' acc, Step F1 H1 O1 F' H'' O' ∧ R g F' H'' O' (wipe σ vs) δ' ∧ AtD g.K F' H'' O' p acc ∧ dComp2 gt tt ti1 gt1 tt1 te vs vs1 (ds.drop (i + 1)) acc δ' Qd, fun H'' ⟨h1, h2⟩ => ⟨ds.length - (i + 1), by omega, rfl, h1, h2⟩, fun x H2 hy => ?_⟩
    rw [List.drop_eq_getElem_cons hlt] at q'
    obtain ⟨F2, s2, r2, rp⟩ := y4 x H2 ds[i] O' _ δ' (by simp [hlt]) hy r'
    refine ⟨F2, O', δ', ds[i], r2, rp, hg _ _ _ _ (fun δ3 q3 F3 H3 O3 σ3 s3 r3 l3 k3 => ?_) q'⟩
    have ew : wipe σ3 vs = wipe σ vs := by
      rw [← wipeV_idem σ vs]
      exact wipeV_congr l3 fun j hj => k3 j fun z => hj (hv j z)
    refine ⟨ew, F3, O3, δ3, r3, ht _ _ _ _ _ (fun b δ4 q4 F4 H4 O4 s4 r4 => ?_) (fun _ _ z => z.elim) q3⟩
    have s5 := s2.trans (s3.trans s4)
    cases b with
    | false =>
      simp only [Bool.false_eq_true, if_false] at q4 ⊢
      exact ⟨hlt, F4, O4, _, acc, s'.trans s5, by rw [← ew]; exact r4.wipe vs, a'.step s5, q4⟩
    | true =>
      simp only [if_true] at q4 ⊢
      refine ⟨F4, O4, δ4, r4, mi1 _ _ _ _ _ (fun ds1 δ5 q5 J1 F5 H5 O5 s6 r5 y5 => ?_) (fun _ _ z => z.elim) q4⟩
      have s7 := s'.trans (s5.trans s6)
      refine compLoop hg1 ht1 he hv1 n1 s7 (r5.wipe vs1) (a'.step (s5.trans s6)) y5 q5 fun F6 H6 O6 δ6 acc6 s8 r6 a6 q6 => ?_
      refine ⟨hlt, F6, O6, _, acc6, s8, ?_, a6, q6⟩
      have ew2 : wipe (wipe σ3 vs1) vs = wipe σ vs := by
        rw [← ew]
        exact wipeV_congr (wipe_length _ _) fun j hj => wipeV_out fun z => hj (hvv j z)
      rw [← ew2]
      exact r6.wipe vs
  · have ei : i = ds.length := by omega
    subst ei
    rw [List.drop_length] at q'
    obtain ⟨at_, nF', nO'⟩ := a'
    exact .inl ⟨y3 rfl, hQd _ _ q' (.ref p) F' H' O' (s1.trans s') (r1.rest r' s') ⟨p, rfl, nF', nO', s1.new (.inr (Live.not n1)), at_⟩⟩
end
end DL

/-! text DLH -/
set_option Elab.async false
set_option linter.all false
set_option maxRecDepth 100000
namespace DL
open PySem PySem.Spec L2
abbrev MoG (gt : DTG) : Prop := ∀ d δ Q Q', (∀ δ', Q δ' → Q' δ') → gt d δ Q → gt d δ Q'
section
variable {X : Cx} {g : Gd} {Wx : WX} {e a b c tg iter elt tg1 iter1 : Expr} {es rest ifs ifs1 : List Expr} {ta tb tc te : DTE} {tA : DTA} {t u tt tt1 : DTT} {ti ti1 : DTI} {gt gt1 : DTG} {is is1 : List Nat} {pos : Pos} {st : Stmt} {sts : List Stmt} {ts us : DTS} {scope : Scope} {own : List (Str × Nat)}
theorem de_lc2 {vs1 : List Nat} (hc : X.calm = true) (hN : X.N.Nodup) (hi : DI X g Wx tg iter ti) (ok : BlkOk X.N X.env.scope scope own) (hv : ∀ i ∈ is, i ∈ own.map (·.2)) (hv1 : ∀ i ∈ is1, i ∈ vs1) (hvv : ∀ i ∈ vs1, i ∈ own.map (·.2))
    (hg : ∀ (s : Shared) (H : Hp) (C : Addr) (cl : List (Str × Addr)) (fp : List Addr), DG (X.blk s H scope (compEnvC scope cl C X.env) fp) g tg gt is) (ht : ∀ (s : Shared) (H : Hp) (C : Addr) (cl : List (Str × Addr)) (fp : List Addr), DTs (X.blk s H scope (compEnvC scope cl C X.env) fp) g WxF ifs tt)
    (hi1 : ∀ (s : Shared) (H : Hp) (C : Addr) (cl : List (Str × Addr)) (fp : List Addr), DI (X.blk s H scope (compEnvC scope cl C X.env) fp) g WxF tg1 iter1 ti1)
    (hg1 : ∀ (s : Shared) (H : Hp) (C : Addr) (cl : List (Str × Addr)) (fp : List Addr), DG (X.blk s H scope (compEnvC scope cl C X.env) fp) g tg1 gt1 is1) (ht1 : ∀ (s : Shared) (H : Hp) (C : Addr) (cl : List (Str × Addr)) (fp : List Addr), DTs (X.blk s H scope (compEnvC scope cl C X.env) fp) g WxF ifs1 tt1)
    (he : ∀ (s : Shared) (H : Hp) (C : Addr) (cl : List (Str × Addr)) (fp : List Addr), DE (X.blk s H scope (compEnvC scope cl C X.env) fp) g WxF elt te) (mg : MoG gt) (mt : MonoT tt) (mi1 : MonoI ti1) (mg1 : MoG gt1) (mt1 : MonoT tt1) (me : MonoE te)
    (hs : ∀ x, foldedSetIterable iter X.env x = pure x := by intro _; rfl) (hs1 : ∀ env x, foldedSetIterable iter1 env x = pure x := by intro _ _; rfl) : DE X g Wx (.ListComp elt [⟨tg, iter, ifs, 0⟩, ⟨tg1, iter1, ifs1, 0⟩] scope pos) (dLc2 ti gt tt ti1 gt1 tt1 te (own.map (·.2)) vs1) :=
  ⟨dLc2_mono hi.mono mg mt mi1 mg1 mt1 me, peMono (pe_lc2 hc hN hi.pi ok hvv (fun s H C cl fp => (hg s H C cl fp).pg) (fun s H C cl fp => (ht s H C cl fp).pts) (fun s H C cl fp => (hi1 s H C cl fp).pi) (fun s H C cl fp => (hg1 s H C cl fp).pg) (fun s H C cl fp => (ht1 s H C cl fp).pts) (fun s H C cl fp => (he s H C cl fp).pe) hs hs1)
    (lc2Can hi.mono mg mt mi1 mg1 mt1 me hv hv1 hvv)⟩
theorem ds_setLc2 {i : Nat} {y : Str} {py spos : Pos} {vs1 : List Nat} (hc : X.calm = true) (hN : X.N.Nodup) (hy : X.N[i]? = some y) (hyl : X.env.scope.names.lookup y = some .local)
    (hsw : swapsWith (.ListComp elt [⟨tg, iter, ifs, 0⟩, ⟨tg1, iter1, ifs1, 0⟩] scope pos) (some (.Name y py)) spos.line X.env = pure true)
    (hi : DI X g Wx tg iter ti) (ok : BlkOk X.N X.env.scope scope own) (hv : ∀ i ∈ is, i ∈ own.map (·.2)) (hv1 : ∀ i ∈ is1, i ∈ vs1) (hvv : ∀ i ∈ vs1, i ∈ own.map (·.2))
    (hg : ∀ (s : Shared) (H : Hp) (C : Addr) (cl : List (Str × Addr)) (fp : List Addr), DG (X.blk s H scope (compEnvC scope cl C X.env) fp) g tg gt is) (ht : ∀ (s : Shared) (H : Hp) (C : Addr) (cl : List (Str × Addr)) (fp : List Addr), DTs (X.blk s H scope (compEnvC scope cl C X.env) fp) g WxF ifs tt)
    (hi1 : ∀ (s : Shared) (H : Hp) (C : Addr) (cl : List (Str × Addr)) (fp : List Addr), DI (X.blk s H scope (compEnvC scope cl C X.env) fp) g WxF tg1 iter1 ti1)
    (hg1 : ∀ (s : Shared) (H : Hp) (C : Addr) (cl : List (Str × Addr)) (fp : List Addr), DG (X.blk s H scope (compEnvC scope cl C X.env) fp) g tg1 gt1 is1) (ht1 : ∀ (s : Shared) (H : Hp) (C : Addr) (cl : List (Str × Addr)) (fp : List Addr), DTs (X.blk s H scope (compEnvC scope cl C X.env) fp) g WxF ifs1 tt1)
    (he : ∀ (s : Shared) (H : Hp) (C : Addr) (cl : List (Str × Addr)) (fp : List Addr), DE (X.blk s H scope (compEnvC scope cl C X.env) fp) g WxF elt te) (mg : MoG gt) (mt : MonoT tt) (mi1 : MonoI ti1) (mg1 : MoG gt1) (mt1 : MonoT tt1) (me : MonoE te)
    (hs : ∀ x, foldedSetIterable iter X.env x = pure x := by intro _; rfl) (hs1 : ∀ env x, foldedSetIterable iter1 env x = pure x := by intro _ _; rfl) :
    DSt X g Wx (.Assign [.Name y py] (.ListComp elt [⟨tg, iter, ifs, 0⟩, ⟨tg1, iter1, ifs1, 0⟩] scope pos) spos) (dSet i (dLc2 ti gt tt ti1 gt1 tt1 te (own.map (·.2)) vs1)) := by
  have m := dLc2_mono (vs := own.map (·.2)) (vs1 := vs1) hi.mono mg mt mi1 mg1 mt1 me
  refine ⟨dSet_mono m, psMono (ps_setLc2 (i := i) hc hN hy hyl hsw hi.pi ok hvv (fun s H C cl fp => (hg s H C cl fp).pg) (fun s H C cl fp => (ht s H C cl fp).pts) (fun s H C cl fp => (hi1 s H C cl fp).pi) (fun s H C cl fp => (hg1 s H C cl fp).pg) (fun s H C cl fp => (ht1 s H C cl fp).pts) (fun s H C cl fp => (he s H C cl fp).pe) hs hs1) fun D σ H h => ?_⟩
  exact lc2Can hi.mono mg mt mi1 mg1 mt1 me hv hv1 hvv σ H _ (setCan m D σ H h)
end

/-! ### a def keeps its promise -/
def isRes : Wv → Prop
  | .pu _ => True
  | .ow _ => True
  | _ => False
def dEnds (Q : Wv → List Wv → Prop) (Y : Value → List Wv → Prop) : DEnds := { nx := fun δ => Q (.pu (.sc .non)) δ.an, rt := fun w δ => isRes w ∧ Q w δ.an, ex := fun c δ => Y c δ.an }
def par : Nat → List Wv → List (Option Wv)
  | _, [] => []
  | k, .ow _ :: ws => some (.io k) :: par (k + 1) ws
  | k, w :: ws => some w :: par (k + 1) ws
theorem par_len : ∀ k ws, (par k ws).length = ws.length
  | _, [] => rfl
  | k, w :: ws => by cases w <;> simp [par, par_len (k + 1) ws]
def start0 (N : List Str) (ws : List Wv) : DS := ⟨par 0 ws ++ List.replicate (N.length - ws.length) none, ws⟩
theorem par_get : ∀ {k : Nat} {ws : List Wv} {i : Nat} {w : Wv}, (par k ws)[i]? = some (some w) → ∃ w0, ws[i]? = some w0 ∧ ((∃ m, w0 = .ow m ∧ w = .io (k + i)) ∨ (w0 = w ∧ ∀ m, w ≠ .ow m))
  | _, [], _, _, h => by simp [par] at h
  | k, w0 :: ws, 0, w, h => by
    cases w0 with
    | ow m => simp [par] at h; exact ⟨_, rfl, .inl ⟨m, rfl, h.symm⟩⟩
    | pu d => simp [par] at h; exact ⟨_, rfl, .inr ⟨h, fun m z => by rw [← h] at z; cases z⟩⟩
    | pl j => simp [par] at h; exact ⟨_, rfl, .inr ⟨h, fun m z => by rw [← h] at z; cases z⟩⟩
    | io j => simp [par] at h; exact ⟨_, rfl, .inr ⟨h, fun m z => by rw [← h] at z; cases z⟩⟩
  | k, w0 :: ws, i + 1, w, h => by
    have h' : (par (k + 1) ws)[i]? = some (some w) := by
      cases w0 <;> simpa [par] using h
    obtain ⟨w1, h1, h2⟩ := par_get h'
    refine ⟨w1, by simpa using h1, ?_⟩
    rw [show k + (i + 1) = k + 1 + i by omega]
    exact h2
theorem R.start {K : PySem.W.Frag} {T : List (Addr × Str)} {vs : List V} {F H : Hp} {O : Own} {ws : List Wv} (r : R ⟨K, T, vs⟩ F H O [] ⟨[], ws⟩) (hl : ws.length = vs.length) {N : List Str} : R ⟨K, T, vs⟩ F H O (L2.start N vs) (start0 N ws) := by
  refine ⟨r.sub, fun i w h => ?_, r.an, r.inh, r.ntb, r.tab, by simp [L2.start, start0, par_len, hl]⟩
  have h : (par 0 ws ++ List.replicate (N.length - ws.length) none)[i]? = some (some w) := h
  by_cases hi : i < ws.length
  · rw [List.getElem?_append_left (by rw [par_len]; exact hi)] at h
    obtain ⟨w0, h1, h2⟩ := par_get h
    obtain ⟨v, e1, e2⟩ := r.an i w0 h1
    have e1 : vs[i]? = some v := e1
    refine ⟨v, ?_, ?_⟩
    · unfold L2.start
      rw [List.getElem?_append_left (by rw [List.length_map, ← hl]; exact hi), List.getElem?_map, e1]
      rfl
    · rcases h2 with ⟨m, rfl, rfl⟩ | ⟨rfl, hn⟩
      · show vs[0 + i]? = some v
        rw [Nat.zero_add]; exact e1
      · cases w0 with
        | pu d => exact e2
        | ow m => exact absurd rfl (hn m)
        | pl j => exact e2.elim
        | io j => exact e2.elim
  · rw [List.getElem?_append_right (by rw [par_len]; omega), List.getElem?_replicate] at h
    split at h <;> cases h
section
variable {P : Program} {w : World} {K : PySem.W.Frag} {mg : Str → Option Value} {base : Heap}
/-- THE RULE for a def -/
theorem dfn {x qual : Str} {st : Stmt} {f : Addr} {fd : FuncData} {N ps : List Str} {k : Nat} {T : List (Addr × Str)} {sp : DSp} (F : Fun K x qual st f fd) (S : FnScope N ps (defScope st)) (hlen : ∀ ws Q Y, sp ws Q Y → ws.length = ps.length)
    (body : ∀ (cdv : Value) (A : Around) (outer : List Env) (s : Shared) (H : Hp) (vs : List V) (E : XK), Room k (A.deeper (PyProof.Rows.envOfC qual (defScope st) s.heap.objs.size f cdv)) → vs.length = ps.length →
      ∃ t, DSs (cxOf (L2.CX P w) P w K mg base N qual (defScope st) f cdv A outer s H E) ⟨K, T, vs⟩ (fun c d _ H' => E c d H') (defBody st) t ∧ ∀ ws Q Y, sp ws Q Y → t (dEnds Q Y) (start0 N ws)) :
    FnOk P w K mg base (L2.CX P w) (k + 1) f fd ps (lift K T sp) := by
  refine F.okX S (fun vs H Q E h => ?_) (fun cdv A outer s H vs Q E hr h => ?_)
  · obtain ⟨F, O, ws, r, hl, h⟩ := h
    rw [← hl]; exact hlen _ _ _ h
  · obtain ⟨F, O, ws, r, hl, h⟩ := h
    obtain ⟨t, ht, hb⟩ := body cdv A outer s H vs E hr (by rw [← hl]; exact hlen _ _ _ h)
    refine ⟨_, ht.ps, F, O, start0 N ws, _, r.start hl, ?_, hb ws _ _ h⟩
    refine ⟨fun δ' F' H' O' σ' s' r' q => ?_, fun w δ' v F' H' O' σ' s' r' x q => ?_, fun δ' F' H' O' σ' s' r' q => q.elim, fun δ' F' H' O' σ' s' r' q => q.elim, fun c δ' F' H' O' σ' s' r' q => ?_⟩
    · exact q .non F' H' O' s' r'.bare (Rep.sc _)
    · obtain ⟨hr, q⟩ := q
      refine q v F' H' O' s' r'.bare ?_
      cases w with
      | pu d => exact x
      | ow m => exact x
      | _ => exact hr.elim
    · exact q F' H' O' s' r'.bare
theorem takesF {X : Cx} : Takes X WxF := L2.takes0
end
end DL

/-! text DLP -/
set_option Elab.async false
set_option linter.all false
set_option maxRecDepth 100000
namespace DL
open PySem PySem.Spec L2

/-! ### primitives: what the operators do, over data -/
section
variable {g : Gd}
theorem VR.rep {F H H0 : Hp} {O O0 : Own} {σ : L2.St} {v : V} {d : D} (h : Rep g.K F v d) : VR g F H O H0 O0 σ v (.pu d) := h
theorem VR.sc {F H H0 : Hp} {O O0 : Own} {σ : L2.St} (v : V) : VR g F H O H0 O0 σ v (.pu (.sc v)) := Rep.sc v
/-- a scalar comes out -/
theorem Pr2.sc {r : R2} {p : P2} (m : Mo2 p) (h : ∀ {F H x y dx dy} {Q : VK} {Qd : Wv → Prop}, Sub F H → Cont g.K F H x dx → Cont g.K F H y dy → p dx dy Qd → (∀ v, Qd (.pu (.sc v)) → Q v H) → r x y H Q) : Pr2 g r p :=
  ⟨m, fun {F H O σ δ x y dx dy Q Qd} r0 hx hy hp k => h r0.sub hx hy hp fun v q => k v H F _ (Step.refl _ _ _) r0 (VR.sc v) q⟩
theorem PrN.sc {r : List V → Hp → VK → Prop} {p : PN} (m : MoN p) (h : ∀ {F H xs ds} {Q : VK} {Qd : Wv → Prop}, Sub F H → Paired (Cont g.K F H) xs ds → p ds Qd → (∀ v, Qd (.pu (.sc v)) → Q v H) → r xs H Q) : PrN g r p :=
  ⟨m, fun {F H O σ δ xs ds Q Qd} r0 hx hp k => h r0.sub hx hp fun v q => k v H F _ (Step.refl _ _ _) r0 (VR.sc v) q⟩
theorem Pr1.sc {r : V → Hp → VK → Prop} {p : P1} (m : Mo1 p) (h : ∀ {F H x dx} {Q : VK} {Qd : Wv → Prop}, Sub F H → Cont g.K F H x dx → p dx Qd → (∀ v, Qd (.pu (.sc v)) → Q v H) → r x H Q) : Pr1 g r p :=
  ⟨m, fun {F H O σ δ x dx Q Qd} r0 hx hp k => h r0.sub hx hp fun v q => k v H F _ (Step.refl _ _ _) r0 (VR.sc v) q⟩
theorem Reps.scI {K : PySem.W.Frag} {F : Hp} {α : Type} {f : α → V} : ∀ {vs : List V} {us : List α}, Reps K F vs (us.map fun u => .sc (f u)) → vs = us.map f
  | [], [], _ => rfl
  | v :: vs, u :: us, .cons h r => by
    cases h
    rw [Reps.scI r]
    rfl

/-! ints -/
def p2i (f : Int → Int → (V → Prop) → Prop) : P2 := fun dx dy Q => match dx, dy with
  | .sc (.int i), .sc (.int j) => f i j fun v => Q (.pu (.sc v))
  | _, _ => False
theorem p2i_inv {f : Int → Int → (V → Prop) → Prop} {dx dy : D} {Q : Wv → Prop} (h : p2i f dx dy Q) : ∃ i j, dx = .sc (.int i) ∧ dy = .sc (.int j) ∧ f i j fun v => Q (.pu (.sc v)) := by
  unfold p2i at h
  split at h
  · exact ⟨_, _, rfl, rfl, h⟩
  · exact h.elim
theorem p2i_mono {f : Int → Int → (V → Prop) → Prop} (hf : ∀ i j Q Q', (∀ v, Q v → Q' v) → f i j Q → f i j Q') : Mo2 (p2i f) := fun dx dy Q Q' h q => by
  obtain ⟨i, j, rfl, rfl, q⟩ := p2i_inv q
  exact hf _ _ _ _ (fun v => h _) q
theorem pr_i {f : Int → Int → (V → Prop) → Prop} {r : R2} (hf : ∀ i j Q Q', (∀ v, Q v → Q' v) → f i j Q → f i j Q') (h : ∀ i j H Q, f i j (fun v => Q v H) → r (.int i) (.int j) H Q) : Pr2 g r (p2i f) := by
  refine Pr2.sc (p2i_mono hf) fun {F H x y dx dy Q Qd} sb hx hy hp k => ?_
  obtain ⟨i, j, rfl, rfl, q⟩ := p2i_inv hp
  have hx : x = .int i := hx
  have hy : y = .int j := hy
  rw [hx, hy]
  exact h i j H Q (hf _ _ _ _ (fun v => k v) q)
def subP : P2 := p2i fun i j Q => Q (.int (i - j))
theorem pr_sub : Pr2 g (rI0 fun i j => .int (i - j)) subP := pr_i (fun _ _ _ _ h => h _) fun i j H Q q => ⟨i, j, rfl, rfl, q⟩
def divP : P2 := p2i fun i j Q => (0 < j ∧ j.natAbs.log2 < 9000) ∧ Q (.int (i / j))
theorem pr_div : Pr2 g (rI CDivW fun i j => .int (i / j)) divP := pr_i (fun _ _ _ _ h ⟨a, c⟩ => ⟨a, h _ c⟩) fun i j H Q ⟨a, q⟩ => ⟨i, j, rfl, rfl, a, q⟩
def modP : P2 := p2i fun i j Q => 0 < j ∧ Q (.int (i % j))
theorem pr_mod : Pr2 g (rI (fun _ j => 0 < j) fun i j => .int (i % j)) modP := pr_i (fun _ _ _ _ h ⟨a, c⟩ => ⟨a, h _ c⟩) fun i j H Q ⟨a, q⟩ => ⟨i, j, rfl, rfl, a, q⟩
def powP : P2 := p2i fun i j Q => (0 ≤ j ∧ j ≤ 1000000 ∧ i.natAbs < 2 ^ 64) ∧ Q (.int (i ^ j.toNat))
theorem pr_pow : Pr2 g (rI CPow fun i j => .int (i ^ j.toNat)) powP := pr_i (fun _ _ _ _ h ⟨a, c⟩ => ⟨a, h _ c⟩) fun i j H Q ⟨a, q⟩ => ⟨i, j, rfl, rfl, a, q⟩
def ltP : P2 := p2i fun i j Q => Q (.bl (decide (i < j)))
def leP : P2 := p2i fun i j Q => Q (.bl (decide (i ≤ j)))
def gtP : P2 := p2i fun i j Q => Q (.bl (decide (j < i)))
def geP : P2 := p2i fun i j Q => Q (.bl (decide (j ≤ i)))
theorem pr_lt : Pr2 g (rI0 fun i j => .bl (decide (i < j))) ltP := pr_i (fun _ _ _ _ h => h _) fun i j H Q q => ⟨i, j, rfl, rfl, q⟩
theorem pr_le : Pr2 g (rI0 fun i j => .bl (decide (i ≤ j))) leP := pr_i (fun _ _ _ _ h => h _) fun i j H Q q => ⟨i, j, rfl, rfl, q⟩
theorem pr_gt : Pr2 g (rI0 fun i j => .bl (decide (j < i))) gtP := pr_i (fun _ _ _ _ h => h _) fun i j H Q q => ⟨i, j, rfl, rfl, q⟩
theorem pr_ge : Pr2 g (rI0 fun i j => .bl (decide (j ≤ i))) geP := pr_i (fun _ _ _ _ h => h _) fun i j H Q q => ⟨i, j, rfl, rfl, q⟩

/-! + -/
def addP : P2 := fun dx dy Q => match dx, dy with
  | .sc (.int i), .sc (.int j) => Q (.pu (.sc (.int (i + j))))
  | .sc (.str a), .sc (.str b) => a.length + b.length ≤ sizeLine ∧ Q (.pu (.sc (.str (a ++ b))))
  | .lst xs, .lst ys => xs.length + ys.length ≤ sizeLine ∧ Q (.ow (.lst (xs ++ ys)))
  | .tup xs, .tup ys => xs.length + ys.length ≤ sizeLine ∧ Q (.pu (.tup (xs ++ ys)))
  | _, _ => False
theorem addP_inv {dx dy : D} {Q : Wv → Prop} (h : addP dx dy Q) : (∃ i j, dx = .sc (.int i) ∧ dy = .sc (.int j) ∧ Q (.pu (.sc (.int (i + j))))) ∨ (∃ a b, dx = .sc (.str a) ∧ dy = .sc (.str b) ∧ a.length + b.length ≤ sizeLine ∧ Q (.pu (.sc (.str (a ++ b))))) ∨
    (∃ xs ys, dx = .lst xs ∧ dy = .lst ys ∧ xs.length + ys.length ≤ sizeLine ∧ Q (.ow (.lst (xs ++ ys)))) ∨ ∃ xs ys, dx = .tup xs ∧ dy = .tup ys ∧ xs.length + ys.length ≤ sizeLine ∧ Q (.pu (.tup (xs ++ ys))) := by
  unfold addP at h
  split at h
  · exact .inl ⟨_, _, rfl, rfl, h⟩
  · exact .inr (.inl ⟨_, _, rfl, rfl, h⟩)
  · exact .inr (.inr (.inl ⟨_, _, rfl, rfl, h⟩))
  · exact .inr (.inr (.inr ⟨_, _, rfl, rfl, h⟩))
  · exact h.elim
end
def rAddD (K : PySem.W.Frag) : R2 := fun x y H Q => rI0 (fun i j => .int (i + j)) x y H Q ∨ (∃ i j, x = .str i ∧ y = .str j ∧ i.length + j.length ≤ sizeLine ∧ Q (.str (i ++ j)) H) ∨ rCat x y H Q ∨ rCatA K x y H Q
theorem op_addD {X : Cx} : OpR X (binaryOp .Add) (rAddD X.K) := op_add.or (op_add_str.or (op_cat.or op_catA))
theorem pr_add {g : Gd} : Pr2 g (rAddD g.K) addP := by
  refine ⟨fun dx dy Q Q' h q => ?_, fun {F H O σ δ x y dx dy Q Qd} r0 hx hy hp k => ?_⟩
  · rcases addP_inv q with ⟨i, j, rfl, rfl, q⟩ | ⟨a, b, rfl, rfl, z, q⟩ | ⟨a, b, rfl, rfl, z, q⟩ | ⟨a, b, rfl, rfl, z, q⟩
    · exact h _ q
    · exact ⟨z, h _ q⟩
    · exact ⟨z, h _ q⟩
    · exact ⟨z, h _ q⟩
  · rcases addP_inv hp with ⟨i, j, rfl, rfl, q⟩ | ⟨a, b, rfl, rfl, z, q⟩ | ⟨xs, ys, rfl, rfl, z, q⟩ | ⟨xs, ys, rfl, rfl, z, q⟩
    · exact .inl ⟨i, j, hx, hy, k _ H F _ (Step.refl _ _ _) r0 (VR.sc _) q⟩
    · exact .inr (.inl ⟨a, b, hx, hy, z, k _ H F _ (Step.refl _ _ _) r0 (VR.sc _) q⟩)
    · obtain ⟨a, vs, rfl, h1, h2⟩ := hx
      obtain ⟨b, ws, rfl, h3, h4⟩ := hy
      refine .inr (.inr (.inl ⟨a, b, vs, ws, rfl, rfl, h1, h3, by rw [h2.length, h4.length]; exact z, fun p n => ?_⟩))
      obtain ⟨s, r1, x1⟩ := r0.newL n (h2.append h4)
      exact k _ _ F _ s r1 x1 q
    · obtain ⟨a, vs, rfl, h1, h2⟩ := hx
      obtain ⟨b, ws, rfl, h3, h4⟩ := hy
      refine .inr (.inr (.inr ⟨a, b, vs, ws, rfl, rfl, r0.sub.sqT h1, r0.sub.sqT h3, by rw [h2.length, h4.length]; exact z, fun e => ?_, fun e0 e => ?_, fun e0 e p n => ?_⟩))
      · subst e
        cases h2
        exact k _ H F _ (Step.refl _ _ _) r0 (VR.rep (.tup h3 h4)) q
      · subst e
        cases h4
        rw [List.append_nil] at q
        exact k _ H F _ (Step.refl _ _ _) r0 (VR.rep (.tup h1 h2)) q
      · obtain ⟨F', s, r1, x1⟩ := r0.newT n (h2.append h4)
        exact k _ _ F' _ s r1 (VR.rep x1) q

/-! * -/
def repS (z : Str) (n : Int) : Str := ⟨(List.replicate n.toNat z.cps.toList).flatten.toArray⟩
theorem foldl_repS (a : Array Nat) : ∀ (n : Nat) (acc : Array Nat), (List.replicate n a).foldl (· ++ ·) acc = acc ++ (List.replicate n a.toList).flatten.toArray
  | 0, acc => by simp
  | n + 1, acc => by
    rw [List.replicate_succ, List.foldl_cons, foldl_repS a n, List.replicate_succ, List.flatten_cons]
    apply Array.ext'
    simp
def rRepS : R2 := fun x y H Q => ∃ z n, x = .str z ∧ y = .int n ∧ (-(2 ^ 63) ≤ n ∧ n < 2 ^ 63 ∧ z.length * n.toNat ≤ 16777216) ∧ Q (.str (repS z n)) H
theorem repS_len (z : Str) (n : Int) : (repS z n).length = z.length * n.toNat := by
  unfold repS Str.length
  simp [Nat.mul_comm]
theorem op_repS {X : Cx} : OpR X (binaryOp .Mult) rRepS := by
  intro pins s σ H x y v u Q I rx ry h
  obtain ⟨z, n, rfl, rfl, ⟨h1, h2, h3⟩, q⟩ := h
  obtain ⟨t, rfl⟩ := rx
  obtain ⟨t', rfl⟩ := ry
  have fin : ∀ (w : Str) (k : Tok) (s' : Shared), w = repS z n → Inv X pins σ H s' → EP X pins σ Q (.str w k) s' := fun w k s' e I' => by
    subst e
    exact ⟨.str _, H, I', ⟨_, rfl⟩, q⟩
  have hz : ((z.length * n.toNat : Nat) : Int) ≤ 16777216 := by
    generalize z.length * n.toNat = m at h3 ⊢
    omega
  refine PySem.P.mul_str (by rw [decide_eq_false (show ¬ n < -(2 ^ 63 : Int) from Int.not_lt.mpr h1), decide_eq_false (show ¬ n ≥ (2 ^ 63 : Int) from Int.not_le.mpr h2)]; rfl) (fun a b => ?_) (fun a b => ?_) ?_
  · have e : (n.toNat : Int) = n := by omega
    rw [Int.natCast_mul, e] at hz
    have : (z.length : Int) ≤ (2 ^ 63 - 1) / n := Int.le_ediv_of_mul_le (by omega) (by omega)
    omega
  · unfold Builtin.Str.tooLong
    exact decide_eq_false (by rw [sizeLine_eq]; omega)
  · have he : (repS z n).length ≤ sizeLine := by rw [repS_len, sizeLine_eq]; exact h3
    split
    · rename_i hn
      have e : n.toNat = 0 := by omega
      exact ⟨by decide, fin _ _ _ (by unfold repS; rw [e]; rfl) (I.tok _)⟩
    · rename_i hn
      split
      · rename_i hb
        refine fin _ _ _ ?_ I
        rcases Bool.or_eq_true _ _ ▸ hb with hb | hb
        · have : n = 1 := by simpa using hb
          subst this
          unfold repS
          simp
        · have : z.cps.size = 0 := by simpa [Str.length] using hb
          have e0 : z.cps = #[] := Array.eq_empty_of_size_eq_zero this
          unfold repS
          cases z
          simp only at e0
          subst e0
          simp
      · have e : (⟨(List.replicate n.toNat z.cps).foldl (· ++ ·) #[]⟩ : Str) = repS z n := by
          unfold repS
          rw [foldl_repS]
          simp
        rw [e]
        exact ⟨he, fin _ _ _ rfl (I.tok _)⟩
end DL

/-! text DLQ -/
set_option Elab.async false
set_option linter.all false
set_option maxRecDepth 100000
namespace DL
open PySem PySem.Spec L2

theorem Reps.rep {K : PySem.W.Frag} {F : Hp} {vs : List V} {ds : List D} (r : Reps K F vs ds) : ∀ n, Reps K F (List.replicate n vs).flatten (List.replicate n ds).flatten
  | 0 => .nil
  | n + 1 => by
    rw [List.replicate_succ, List.replicate_succ, List.flatten_cons, List.flatten_cons]
    exact r.append (Reps.rep r n)
def mulP : P2 := fun dx dy Q => match dx, dy with
  | .sc (.int i), .sc (.int j) => i.natAbs.log2 + j.natAbs.log2 < 1000000 ∧ Q (.pu (.sc (.int (i * j))))
  | .sc (.str z), .sc (.int n) => (-(2 ^ 63) ≤ n ∧ n < 2 ^ 63 ∧ z.length * n.toNat ≤ 16777216) ∧ Q (.pu (.sc (.str (repS z n))))
  | .lst xs, .sc (.int n) => (-(2 ^ 63) ≤ n ∧ n < 2 ^ 63 ∧ xs.length * n.toNat ≤ sizeLine) ∧ Q (.ow (.lst (List.replicate n.toNat xs).flatten))
  | .tup xs, .sc (.int n) => (xs ≠ [] ∧ 2 ≤ n ∧ n ≤ 1000 ∧ xs.length ≤ 1000) ∧ Q (.pu (.tup (List.replicate n.toNat xs).flatten))
  | _, _ => False
def rMulD (K : PySem.W.Frag) : R2 := fun x y H Q => rI CMulW (fun i j => .int (i * j)) x y H Q ∨ rRepS x y H Q ∨ rRep x y H Q ∨ rRepT K x y H Q
theorem op_mulD {X : Cx} : OpR X (binaryOp .Mult) (rMulD X.K) := op_mulW.or (op_repS.or (op_rep.or op_repT))
theorem mulP_inv {dx dy : D} {Q : Wv → Prop} (h : mulP dx dy Q) : (∃ i j, dx = .sc (.int i) ∧ dy = .sc (.int j) ∧ i.natAbs.log2 + j.natAbs.log2 < 1000000 ∧ Q (.pu (.sc (.int (i * j))))) ∨
    (∃ z n, dx = .sc (.str z) ∧ dy = .sc (.int n) ∧ (-(2 ^ 63) ≤ n ∧ n < 2 ^ 63 ∧ z.length * n.toNat ≤ 16777216) ∧ Q (.pu (.sc (.str (repS z n))))) ∨
    (∃ xs n, dx = .lst xs ∧ dy = .sc (.int n) ∧ (-(2 ^ 63) ≤ n ∧ n < 2 ^ 63 ∧ xs.length * n.toNat ≤ sizeLine) ∧ Q (.ow (.lst (List.replicate n.toNat xs).flatten))) ∨
    ∃ xs n, dx = .tup xs ∧ dy = .sc (.int n) ∧ (xs ≠ [] ∧ 2 ≤ n ∧ n ≤ 1000 ∧ xs.length ≤ 1000) ∧ Q (.pu (.tup (List.replicate n.toNat xs).flatten)) := by
  unfold mulP at h
  split at h
  · exact .inl ⟨_, _, rfl, rfl, h⟩
  · exact .inr (.inl ⟨_, _, rfl, rfl, h⟩)
  · exact .inr (.inr (.inl ⟨_, _, rfl, rfl, h⟩))
  · exact .inr (.inr (.inr ⟨_, _, rfl, rfl, h⟩))
  · exact h.elim
section
variable {g : Gd}
theorem pr_mul : Pr2 g (rMulD g.K) mulP := by
  refine ⟨fun dx dy Q Q' h q => ?_, fun {F H O σ δ x y dx dy Q Qd} r0 hx hy hp k => ?_⟩
  · rcases mulP_inv q with ⟨i, j, rfl, rfl, z, q⟩ | ⟨a, b, rfl, rfl, z, q⟩ | ⟨a, b, rfl, rfl, z, q⟩ | ⟨a, b, rfl, rfl, z, q⟩
    · exact ⟨z, h _ q⟩
    · exact ⟨z, h _ q⟩
    · exact ⟨z, h _ q⟩
    · exact ⟨z, h _ q⟩
  · rcases mulP_inv hp with ⟨i, j, rfl, rfl, z, q⟩ | ⟨a, n, rfl, rfl, z, q⟩ | ⟨xs, n, rfl, rfl, z, q⟩ | ⟨xs, n, rfl, rfl, z, q⟩
    · exact .inl ⟨i, j, hx, hy, z, k _ H F _ (Step.refl _ _ _) r0 (VR.sc _) q⟩
    · exact .inr (.inl ⟨a, n, hx, hy, z, k _ H F _ (Step.refl _ _ _) r0 (VR.sc _) q⟩)
    · obtain ⟨a, vs, rfl, h1, h2⟩ := hx
      refine .inr (.inr (.inl ⟨a, n, vs, rfl, hy, h1, z.1, z.2.1, by rw [h2.length]; exact z.2.2, fun p np => ?_⟩))
      obtain ⟨s, r1, x1⟩ := r0.newL np (h2.rep n.toNat)
      exact k _ _ F _ s r1 x1 q
    · obtain ⟨a, vs, rfl, h1, h2⟩ := hx
      refine .inr (.inr (.inr ⟨a, n, vs, rfl, hy, r0.sub.sqT h1, fun e => z.1 (by subst e; cases h2; rfl), z.2.1, z.2.2.1, by rw [h2.length]; exact z.2.2.2, fun p np => ?_⟩))
      obtain ⟨F', s, r1, x1⟩ := r0.newT np (h2.rep n.toNat)
      exact k _ _ F' _ s r1 (VR.rep x1) q

/-! == -/
mutual
def toPD : D → Option PyData
  | .sc .non => some .none
  | .sc (.bl b) => some (.bool b)
  | .sc (.int i) => some (.int i)
  | .sc (.str z) => some (.str z)
  | .sc _ => none
  | .tup xs => (toPDs xs).map .tuple
  | .lst xs => (toPDs xs).map .list
  | .dic _ => none
  | .scr _ => none
def toPDs : List D → Option (List PyData)
  | [] => some []
  | x :: xs => match toPD x, toPDs xs with
    | some a, some as => some (a :: as)
    | _, _ => none
end
mutual
theorem Rep.dp {K : PySem.W.Frag} {H : Hp} : ∀ {v : V} {d : D} {p : PyData}, Rep K H v d → toPD d = some p → Dp K H v p
  | _, _, p, .sc v, e => by
    cases v <;> simp only [toPD] at e <;> first
      | (cases e; done)
      | (cases e; constructor)
  | _, _, p, .tup h r, e => by
    simp only [toPD, Option.map_eq_some_iff] at e
    obtain ⟨ps, e, rfl⟩ := e
    exact .tup h (Reps.dps r e)
  | _, _, p, .lst h r, e => by
    simp only [toPD, Option.map_eq_some_iff] at e
    obtain ⟨ps, e, rfl⟩ := e
    exact .lst (.of h) (Reps.dps r e)
  | _, _, p, .dic h r, e => by simp [toPD] at e
  | _, _, p, .scr h, e => by simp [toPD] at e
theorem Reps.dps {K : PySem.W.Frag} {H : Hp} : ∀ {vs : List V} {ds : List D} {ps : List PyData}, Reps K H vs ds → toPDs ds = some ps → DpAll K H vs ps
  | _, _, ps, .nil, e => by
    simp only [toPDs] at e
    cases e
    exact .nil
  | _, _, ps, .cons (d := d) (ds := ds) h r, e => by
    simp only [toPDs] at e
    cases e1 : toPD d with
    | none => simp only [e1] at e; cases e
    | some a =>
      cases e2 : toPDs ds with
      | none => simp only [e1, e2] at e; cases e
      | some as =>
        simp only [e1, e2] at e
        cases e
        exact .cons (Rep.dp h e1) (Reps.dps r e2)
end
/-- two values that == tells apart as data -/
def eqP (neg : Bool) : P2 := fun dx dy Q => match dx, dy with
  | .sc x, .sc y => scal x y = true ∧ Q (.pu (.sc (.bl (neg ^^ decide (x = y)))))
  | dx, dy => ∃ a, toPD dx = some a ∧ ∃ b, toPD dy = some b ∧ (SeqAt.shaped a = true ∧ SeqAt.shaped b = true) ∧ Q (.pu (.sc (.bl (neg ^^ PyData.eqv a b))))
theorem eqP_inv {neg : Bool} {dx dy : D} {Q : Wv → Prop} (h : eqP neg dx dy Q) : (∃ x y, dx = .sc x ∧ dy = .sc y ∧ scal x y = true ∧ Q (.pu (.sc (.bl (neg ^^ decide (x = y)))))) ∨
    ∃ a, toPD dx = some a ∧ ∃ b, toPD dy = some b ∧ (SeqAt.shaped a = true ∧ SeqAt.shaped b = true) ∧ Q (.pu (.sc (.bl (neg ^^ PyData.eqv a b)))) := by
  unfold eqP at h
  split at h
  · exact .inl ⟨_, _, rfl, rfl, h⟩
  · exact .inr h
theorem eqP_mono (neg : Bool) : Mo2 (eqP neg) := fun dx dy Q Q' h q => by
  unfold eqP at q ⊢
  split at q
  · exact ⟨q.1, h _ q.2⟩
  · obtain ⟨a, e1, b, e2, z, q⟩ := q
    exact ⟨a, e1, b, e2, z, h _ q⟩
def rEqA (K : PySem.W.Frag) : R2 := fun x y H Q => rEq x y H Q ∨ rEqD K x y H Q
def rNeA (K : PySem.W.Frag) : R2 := fun x y H Q => rNe x y H Q ∨ rNeD K x y H Q
theorem op_eqA {X : Cx} (hu : X.A.units + 64 < cLine) : OpR X (compareOp .Eq) (rEqA X.K) := op_eq.or (op_eqD hu)
theorem op_neA {X : Cx} (hu : X.A.units + 64 < cLine) : OpR X (compareOp .NotEq) (rNeA X.K) := op_ne.or (op_neD hu)
theorem pr_eq : Pr2 g (rEqA g.K) (eqP false) := by
  refine Pr2.sc (eqP_mono _) fun {F H x y dx dy Q Qd} sb hx hy hp k => ?_
  rcases eqP_inv hp with ⟨u, v, rfl, rfl, z, q⟩ | ⟨a, e1, b, e2, z, q⟩
  · cases hx
    cases hy
    exact .inl ⟨z, k _ (by simpa using q)⟩
  · exact .inr ⟨a, b, (hx.rep sb).dp e1, (hy.rep sb).dp e2, z.1, z.2, k _ (by simpa using q)⟩
theorem pr_ne : Pr2 g (rNeA g.K) (eqP true) := by
  refine Pr2.sc (eqP_mono _) fun {F H x y dx dy Q Qd} sb hx hy hp k => ?_
  rcases eqP_inv hp with ⟨u, v, rfl, rfl, z, q⟩ | ⟨a, e1, b, e2, z, q⟩
  · cases hx
    cases hy
    exact .inl ⟨z, k _ (by simpa using q)⟩
  · exact .inr ⟨a, b, (hx.rep sb).dp e1, (hy.rep sb).dp e2, z.1, z.2, k _ (by simpa using q)⟩
/-- is None -/
def isNP (neg : Bool) : P2 := fun dx dy Q => match dx, dy with
  | .sc x, .sc .non => Q (.pu (.sc (.bl (neg ^^ decide (x = .non)))))
  | .tup _, .sc .non => Q (.pu (.sc (.bl neg)))
  | .lst _, .sc .non => Q (.pu (.sc (.bl neg)))
  | .dic _, .sc .non => Q (.pu (.sc (.bl neg)))
  | _, _ => False
theorem isNP_mono (neg : Bool) : Mo2 (isNP neg) := fun dx dy Q Q' h q => by
  unfold isNP at q ⊢
  split at q <;> first
    | exact h _ q
    | exact q.elim
theorem pr_isN : Pr2 g (fun x y H Q => y = .non ∧ Q (.bl (decide (x = .non))) H) (isNP false) := by
  refine Pr2.sc (isNP_mono _) fun {F H x y dx dy Q Qd} sb hx hy hp k => ?_
  unfold isNP at hp
  split at hp
  · cases hx; cases hy; exact ⟨rfl, k _ (by simpa using hp)⟩
  · obtain ⟨a, vs, rfl, _⟩ := hx; cases hy; exact ⟨rfl, k _ (by simpa using hp)⟩
  · obtain ⟨a, vs, rfl, _⟩ := hx; cases hy; exact ⟨rfl, k _ (by simpa using hp)⟩
  · obtain ⟨a, vs, rfl, _⟩ := hx; cases hy; exact ⟨rfl, k _ (by simpa using hp)⟩
  · exact hp.elim
theorem pr_notN : Pr2 g (fun x y H Q => y = .non ∧ Q (.bl (!decide (x = .non))) H) (isNP true) := by
  refine Pr2.sc (isNP_mono _) fun {F H x y dx dy Q Qd} sb hx hy hp k => ?_
  unfold isNP at hp
  split at hp
  · cases hx; cases hy; exact ⟨rfl, k _ (by simpa using hp)⟩
  · obtain ⟨a, vs, rfl, _⟩ := hx; cases hy; exact ⟨rfl, k _ (by simpa using hp)⟩
  · obtain ⟨a, vs, rfl, _⟩ := hx; cases hy; exact ⟨rfl, k _ (by simpa using hp)⟩
  · obtain ⟨a, vs, rfl, _⟩ := hx; cases hy; exact ⟨rfl, k _ (by simpa using hp)⟩
  · exact hp.elim
end
end DL

/-! text DLR -/
set_option Elab.async false
set_option linter.all false
set_option maxRecDepth 100000
namespace DL
open PySem PySem.Spec L2
section
variable {g : Gd}

/-! in, not in -/
theorem op_notIn_signE {X : Cx} : OpR X (compareOp .NotIn) (fun x y H Q => ∃ (c : Nat) (z : Str), x = .str ⟨#[c]⟩ ∧ y = .str z ∧ Q (.bl (!decide (c ∈ z.cps.toList))) H) := op_notIn_sign
/-- flat values -/
def flats : List D → Option (List V)
  | [] => some []
  | .sc u :: ds => if flatV u = true then (flats ds).map (u :: ·) else none
  | _ :: _ => none
theorem flats_reps {K : PySem.W.Frag} {F : Hp} : ∀ {vs : List V} {ds : List D} {us : List V}, Reps K F vs ds → flats ds = some us → vs = us ∧ us.all flatV = true
  | _, _, us, .nil, e => by cases e; exact ⟨rfl, rfl⟩
  | _, _, us, .cons (ds := ds) (.sc v) r, e => by
    simp only [flats] at e
    by_cases hf : flatV v = true
    · rw [if_pos hf] at e
      cases e2 : flats ds with
      | none => rw [e2] at e; cases e
      | some us' =>
        rw [e2] at e
        cases e
        obtain ⟨h1, h2⟩ := flats_reps r e2
        exact ⟨by rw [h1], by simp [hf, h2]⟩
    · rw [if_neg hf] at e; cases e
  | _, _, us, .cons (.tup _ _) r, e => by cases e
  | _, _, us, .cons (.lst _ _) r, e => by cases e
  | _, _, us, .cons (.dic _ _) r, e => by cases e
  | _, _, us, .cons (.scr _) r, e => by cases e
/-- a text of one sign -/
def one? (s : Str) : Option Nat := match s.cps.toList with
  | [c] => some c
  | _ => none
theorem one_sign (c : Nat) : one? (sign c) = some c := rfl
theorem one_eq {s : Str} {c : Nat} (h : one? s = some c) : s = ⟨#[c]⟩ := by
  cases s with
  | mk a =>
    cases a with
    | mk l =>
      unfold one? at h
      simp only at h
      match l, h with
      | [c'], h => cases h; rfl
def inP (neg : Bool) : P2 := fun dx dy Q => match dx, dy with
  | .sc (.str s), .sc (.str z) => ∃ c, one? s = some c ∧ Q (.pu (.sc (.bl (neg ^^ decide (c ∈ z.cps.toList)))))
  | .sc x, .tup ys => ∃ us, flats ys = some us ∧ flatV x = true ∧ Q (.pu (.sc (.bl (neg ^^ inV x us))))
  | .sc x, .lst ys => ∃ us, flats ys = some us ∧ flatV x = true ∧ Q (.pu (.sc (.bl (neg ^^ inV x us))))
  | _, _ => False
theorem inP_inv {neg : Bool} {dx dy : D} {Q : Wv → Prop} (h : inP neg dx dy Q) : (∃ c z, dx = .sc (.str ⟨#[c]⟩) ∧ dy = .sc (.str z) ∧ Q (.pu (.sc (.bl (neg ^^ decide (c ∈ z.cps.toList)))))) ∨
    (∃ x ys us, dx = .sc x ∧ (dy = .tup ys ∨ dy = .lst ys) ∧ flats ys = some us ∧ flatV x = true ∧ Q (.pu (.sc (.bl (neg ^^ inV x us))))) := by
  unfold inP at h
  split at h
  · obtain ⟨c, e, h⟩ := h
    have e := one_eq e
    subst e
    exact .inl ⟨_, _, rfl, rfl, h⟩
  · obtain ⟨us, h⟩ := h
    exact .inr ⟨_, _, us, rfl, .inl rfl, h⟩
  · obtain ⟨us, h⟩ := h
    exact .inr ⟨_, _, us, rfl, .inr rfl, h⟩
  · exact h.elim
theorem inP_mono (neg : Bool) : Mo2 (inP neg) := fun dx dy Q Q' h q => by
  unfold inP at q ⊢
  split at q
  · obtain ⟨c, e, q⟩ := q; exact ⟨c, e, h _ q⟩
  · obtain ⟨us, a, b, q⟩ := q; exact ⟨us, a, b, h _ q⟩
  · obtain ⟨us, a, b, q⟩ := q; exact ⟨us, a, b, h _ q⟩
  · exact q.elim
def rInA (K : PySem.W.Frag) : R2 := fun x y H Q => (∃ (c : Nat) (z : Str), x = .str ⟨#[c]⟩ ∧ y = .str z ∧ Q (.bl (decide (c ∈ z.cps.toList))) H) ∨ rIn K false x y H Q
def rNotInA (K : PySem.W.Frag) : R2 := fun x y H Q => (∃ (c : Nat) (z : Str), x = .str ⟨#[c]⟩ ∧ y = .str z ∧ Q (.bl (!decide (c ∈ z.cps.toList))) H) ∨ rIn K true x y H Q
theorem op_inA {X : Cx} : OpR X (compareOp .In) (rInA X.K) := op_in_sign.or op_in_seq
theorem op_notInA {X : Cx} : OpR X (compareOp .NotIn) (rNotInA X.K) := op_notIn_sign.or op_notIn_seq
theorem inSeq {F H : Hp} (sb : Sub F H) {y : V} {dy : D} {ys : List D} {us : List V} (hy : Cont g.K F H y dy) (e : dy = .tup ys ∨ dy = .lst ys) (ef : flats ys = some us) : ∃ p, y = .ref p ∧ (SqL g.K H p us ∨ SqT g.K H p us) ∧ us.all flatV = true := by
  rcases e with rfl | rfl
  · obtain ⟨a, vs, rfl, h1, h2⟩ := hy
    obtain ⟨rfl, h3⟩ := flats_reps h2 ef
    exact ⟨a, rfl, .inr (sb.sqT h1), h3⟩
  · obtain ⟨a, vs, rfl, h1, h2⟩ := hy
    obtain ⟨rfl, h3⟩ := flats_reps h2 ef
    exact ⟨a, rfl, .inl (.of h1), h3⟩
theorem pr_in : Pr2 g (rInA g.K) (inP false) := by
  refine Pr2.sc (inP_mono _) fun {F H x y dx dy Q Qd} sb hx hy hp k => ?_
  rcases inP_inv hp with ⟨c, z, rfl, rfl, q⟩ | ⟨u, ys, us, rfl, e, ef, hf, q⟩
  · cases hx; cases hy
    exact .inl ⟨c, z, rfl, rfl, k _ (by simpa using q)⟩
  · cases hx
    obtain ⟨p, rfl, h1, h2⟩ := inSeq sb hy e ef
    exact .inr ⟨p, us, rfl, h1, hf, h2, k _ (by simpa using q)⟩
theorem pr_notIn : Pr2 g (rNotInA g.K) (inP true) := by
  refine Pr2.sc (inP_mono _) fun {F H x y dx dy Q Qd} sb hx hy hp k => ?_
  rcases inP_inv hp with ⟨c, z, rfl, rfl, q⟩ | ⟨u, ys, us, rfl, e, ef, hf, q⟩
  · cases hx; cases hy
    exact .inl ⟨c, z, rfl, rfl, k _ (by simpa using q)⟩
  · cases hx
    obtain ⟨p, rfl, h1, h2⟩ := inSeq sb hy e ef
    exact .inr ⟨p, us, rfl, h1, hf, h2, k _ (by simpa using q)⟩

/-! places -/
theorem Reps.atI {K : PySem.W.Frag} {F : Hp} {vs : List V} {ds : List D} (r : Reps K F vs ds) {i : Int} {d : D} (h : L2.atI ds i = some d) : ∃ v, L2.atI vs i = some v ∧ Rep K F v d := by
  unfold L2.atI at h ⊢
  rw [r.length]
  cases e : ixN ds.length i with
  | none => rw [e] at h; cases h
  | some j =>
    rw [e] at h
    exact r.get h
def ixP : P2 := fun dx dy Q => match dx, dy with
  | .lst xs, .sc (.int i) => ∃ d, L2.atI xs i = some d ∧ Q (.pu d)
  | .tup xs, .sc (.int i) => ∃ d, L2.atI xs i = some d ∧ Q (.pu d)
  | .sc (.str z), .sc (.int i) => z.length ≤ sizeLine ∧ ∃ c, L2.atI z.cps.toList i = some c ∧ Q (.pu (.sc (.str (sign c))))
  | _, _ => False
theorem pr_ix : Pr2 g (rIx g.K) ixP := by
  refine ⟨fun dx dy Q Q' h q => ?_, fun {F H O σ δ x y dx dy Q Qd} r0 hx hy hp k => ?_⟩
  · unfold ixP at q ⊢
    split at q
    · obtain ⟨d, e, q⟩ := q; exact ⟨d, e, h _ q⟩
    · obtain ⟨d, e, q⟩ := q; exact ⟨d, e, h _ q⟩
    · obtain ⟨z, d, e, q⟩ := q; exact ⟨z, d, e, h _ q⟩
    · exact q.elim
  · unfold ixP at hp
    split at hp
    · obtain ⟨d, e, q⟩ := hp
      obtain ⟨a, vs, rfl, h1, h2⟩ := hx
      cases hy
      obtain ⟨v, e1, e2⟩ := h2.atI e
      exact .inl ⟨a, vs, _, v, rfl, rfl, .of h1, e1, k v H F _ (Step.refl _ _ _) r0 (VR.rep e2) q⟩
    · obtain ⟨d, e, q⟩ := hp
      obtain ⟨a, vs, rfl, h1, h2⟩ := hx
      cases hy
      obtain ⟨v, e1, e2⟩ := h2.atI e
      exact .inr (.inl ⟨a, vs, _, v, rfl, rfl, r0.sub.sqT h1, e1, k v H F _ (Step.refl _ _ _) r0 (VR.rep e2) q⟩)
    · obtain ⟨z, c, e, q⟩ := hp
      cases hx; cases hy
      exact .inr (.inr ⟨_, _, c, rfl, rfl, z, e, k _ H F _ (Step.refl _ _ _) r0 (VR.sc _) q⟩)
    · exact hp.elim

/-! calls -/
theorem Paired.c1 {α β : Type} {R : α → β → Prop} {xs : List α} {y : β} (h : Paired R xs [y]) : ∃ x, xs = [x] ∧ R x y := by
  cases h with
  | cons a b => cases b; exact ⟨_, rfl, a⟩
theorem Paired.c2 {α β : Type} {R : α → β → Prop} {xs : List α} {y z : β} (h : Paired R xs [y, z]) : ∃ x x', xs = [x, x'] ∧ R x y ∧ R x' z := by
  cases h with
  | cons a b =>
    cases b with
    | cons a' b => cases b; exact ⟨_, _, rfl, a, a'⟩
def lenD : D → Option Nat
  | .lst xs => some xs.length
  | .tup xs => some xs.length
  | .sc (.str z) => if z.length ≤ sizeLine then some z.length else none
  | .scr ns => some ns.length
  | _ => none
def lenP : PN := fun ds Q => match ds with
  | [d] => ∃ n, lenD d = some n ∧ Q (.pu (.sc (.int n)))
  | _ => False
theorem pr_len : PrN g (fun xs H Q => ∃ x n, xs = [x] ∧ LenV g.K x H n ∧ Q (.int n) H) lenP := by
  refine PrN.sc (fun ds Q Q' h q => ?_) fun {F H xs ds Q Qd} sb hx hp k => ?_
  · unfold lenP at q ⊢
    split at q
    · obtain ⟨n, e, q⟩ := q; exact ⟨n, e, h _ q⟩
    · exact q.elim
  · unfold lenP at hp
    split at hp
    · obtain ⟨n, e, q⟩ := hp
      obtain ⟨x, rfl, hx1⟩ := Paired.c1 hx
      rename_i d
      refine ⟨x, n, rfl, ?_, k _ q⟩
      clear hx
      cases d with
      | lst ys => obtain ⟨a, vs, rfl, h1, h2⟩ := hx1; cases e; exact .inl ⟨vs, .of h1, h2.length.symm⟩
      | tup ys => obtain ⟨a, vs, rfl, h1, h2⟩ := hx1; cases e; exact .inr ⟨vs, sb.sqT h1, h2.length.symm⟩
      | scr ns => obtain ⟨a, rfl, h1⟩ := hx1; cases e; exact .inl ⟨_, h1, by simp⟩
      | dic ys => cases e
      | sc v =>
        have hx1 : x = v := hx1
        subst hx1
        cases x with
        | str z =>
          simp only [lenD] at e
          by_cases hz : z.length ≤ sizeLine
          · rw [if_pos hz] at e; cases e; exact ⟨hz, rfl⟩
          · rw [if_neg hz] at e; cases e
        | _ => cases e
    · exact hp.elim
/-- the type's name -/
def tyD : D → Option String
  | .sc .non => some "NoneType"
  | .sc (.bl _) => some "bool"
  | .sc (.int _) => some "int"
  | .sc (.str _) => some "str"
  | .sc _ => none
  | .tup _ => some "tuple"
  | .lst _ => some "list"
  | .dic _ => some "dict"
  | .scr _ => none
theorem Cont.tyx {F H : Hp} (sb : Sub F H) {x : V} {d : D} {t : String} (h : Cont g.K F H x d) (e : tyD d = some t) : TyX g.K H x (.type t) := by
  cases d with
  | sc v =>
    cases h
    cases x <;> simp only [tyD] at e <;> cases e
    · exact .base .non
    · exact .base (.bl _)
    · exact .base (.int _)
    · exact .base (.str _)
  | lst ds =>
    obtain ⟨a, vs, rfl, h1, h2⟩ := h
    cases e
    exact .base (.lst h1)
  | tup ds =>
    obtain ⟨a, vs, rfl, h1, h2⟩ := h
    cases e
    rcases sb.sqT h1 with (h1 | ⟨o, h1⟩) | ⟨o, its, n, h1, hc, _⟩
    · exact .base (.tup h1)
    · exact .fTuple h1
    · exact .kTuple h1 hc
  | dic ds =>
    obtain ⟨a, vs, rfl, h1, h2⟩ := h
    cases e
    rcases h1 with h1 | ⟨o, h1⟩
    · exact .base (.dK h1)
    · exact .fDict h1
  | scr ns => cases e
def isiP : PN := fun ds Q => match ds with
  | [d, .sc (.ty T)] => ∃ t, tyD d = some t ∧ ∃ b, kitB t T = some b ∧ Q (.pu (.sc (.bl b)))
  | _ => False
theorem pr_isi : PrN g (rIsi g.K) isiP := by
  refine PrN.sc (fun ds Q Q' h q => ?_) fun {F H xs ds Q Qd} sb hx hp k => ?_
  · unfold isiP at q ⊢
    split at q
    · obtain ⟨n, e, b, e2, q⟩ := q; exact ⟨n, e, b, e2, h _ q⟩
    · exact q.elim
  · unfold isiP at hp
    split at hp
    · obtain ⟨t, e, b, e2, q⟩ := hp
      obtain ⟨x, x', rfl, hx1, hx'⟩ := Paired.c2 hx
      cases hx'
      exact ⟨x, _, _, _, b, rfl, .ty _, Cont.tyx sb hx1 e, kit_ty e2, k _ q⟩
    · exact hp.elim
/-- any, all of a list of truth values -/
def bools : List D → Option (List Bool)
  | [] => some []
  | .sc (.bl b) :: ds => (bools ds).map (b :: ·)
  | _ :: _ => none
theorem bools_eq : ∀ {ds : List D} {bs : List Bool}, bools ds = some bs → ds = bs.map fun b => .sc (.bl b)
  | [], bs, e => by cases e; rfl
  | d :: ds, bs, e => by
    cases d with
    | sc v =>
      cases v with
      | bl b =>
        simp only [bools] at e
        cases e2 : bools ds with
        | none => rw [e2] at e; cases e
        | some bs' =>
          rw [e2] at e
          cases e
          rw [bools_eq e2]
          rfl
      | _ => cases e
    | _ => cases e
theorem bools_map (bs : List Bool) : bools (bs.map fun b => .sc (.bl b)) = some bs := by
  induction bs with
  | nil => rfl
  | cons b bs ih => simp [bools, ih]
def allP : PN := fun ds Q => match ds with
  | [.lst xs] => ∃ bs, bools xs = some bs ∧ Q (.pu (.sc (.bl (bs.all id))))
  | _ => False
def anyP : PN := fun ds Q => match ds with
  | [.lst xs] => ∃ bs, bools xs = some bs ∧ Q (.pu (.sc (.bl (bs.any id))))
  | _ => False
theorem pr_all : PrN g (rAll g.K) allP := by
  refine PrN.sc (fun ds Q Q' h q => ?_) fun {F H xs ds Q Qd} sb hx hp k => ?_
  · unfold allP at q ⊢
    split at q
    · obtain ⟨n, e, q⟩ := q; exact ⟨n, e, h _ q⟩
    · exact q.elim
  · unfold allP at hp
    split at hp
    · obtain ⟨bs, e, q⟩ := hp
      obtain ⟨x, rfl, a, vs, rfl, h1, h2⟩ := Paired.c1 hx
      have e1 := bools_eq e
      subst e1
      have e2 := h2.scI
      subst e2
      exact ⟨a, bs, rfl, .of h1, k _ q⟩
    · exact hp.elim
theorem pr_any : PrN g (rAny g.K) anyP := by
  refine PrN.sc (fun ds Q Q' h q => ?_) fun {F H xs ds Q Qd} sb hx hp k => ?_
  · unfold anyP at q ⊢
    split at q
    · obtain ⟨n, e, q⟩ := q; exact ⟨n, e, h _ q⟩
    · exact q.elim
  · unfold anyP at hp
    split at hp
    · obtain ⟨bs, e, q⟩ := hp
      obtain ⟨x, rfl, a, vs, rfl, h1, h2⟩ := Paired.c1 hx
      have e1 := bools_eq e
      subst e1
      have e2 := h2.scI
      subst e2
      exact ⟨a, bs, rfl, .of h1, k _ q⟩
    · exact hp.elim
def intP : PN := fun ds Q => match ds with
  | [.sc (.int i)] => Q (.pu (.sc (.int i)))
  | [.sc (.bl b)] => Q (.pu (.sc (.int (if b then 1 else 0))))
  | _ => False
theorem pr_int : PrN g (fun xs H Q => (∃ i, xs = [.int i] ∧ Q (.int i) H) ∨ ∃ k, xs = [.bl k] ∧ Q (.int (if k then 1 else 0)) H) intP := by
  refine PrN.sc (fun ds Q Q' h q => ?_) fun {F H xs ds Q Qd} sb hx hp k => ?_
  · unfold intP at q ⊢
    split at q
    · exact h _ q
    · exact h _ q
    · exact q.elim
  · unfold intP at hp
    split at hp
    · obtain ⟨x, rfl, hx1⟩ := Paired.c1 hx; cases hx1; exact .inl ⟨_, rfl, k _ hp⟩
    · obtain ⟨x, rfl, hx1⟩ := Paired.c1 hx; cases hx1; exact .inr ⟨_, rfl, k _ hp⟩
    · exact hp.elim
/-- list(x), tuple(x) -/
def listP : PN := fun ds Q => match ds with
  | [.lst xs] => Q (.ow (.lst xs))
  | [.tup xs] => Q (.ow (.lst xs))
  | _ => False
theorem pr_list : PrN g (fun xs H Q => ∃ p ys, xs = [.ref p] ∧ (SqL g.K H p ys ∨ SqT g.K H p ys) ∧ ∀ l, H l = none → Q (.ref l) (upd H l (.lst ys))) listP := by
  refine ⟨fun ds Q Q' h q => ?_, fun {F H O σ δ xs ds Q Qd} r0 hx hp k => ?_⟩
  · unfold listP at q ⊢
    split at q
    · exact h _ q
    · exact h _ q
    · exact q.elim
  · unfold listP at hp
    split at hp
    · obtain ⟨x, rfl, a, vs, rfl, h1, h2⟩ := Paired.c1 hx
      refine ⟨a, vs, rfl, .inl (.of h1), fun p np => ?_⟩
      obtain ⟨s, r1, x1⟩ := r0.newL np h2
      exact k _ _ F _ s r1 x1 hp
    · obtain ⟨x, rfl, a, vs, rfl, h1, h2⟩ := Paired.c1 hx
      refine ⟨a, vs, rfl, .inr (r0.sub.sqT h1), fun p np => ?_⟩
      obtain ⟨s, r1, x1⟩ := r0.newL np h2
      exact k _ _ F _ s r1 x1 hp
    · exact hp.elim
def tupleP : PN := fun ds Q => match ds with
  | [.lst xs] => Q (.pu (.tup xs))
  | [.tup xs] => Q (.pu (.tup xs))
  | _ => False
theorem pr_tuple : PrN g (fun xs H Q => ∃ p ys, xs = [.ref p] ∧ ((SqL g.K H p ys ∧ ∀ l, H l = none → Q (.ref l) (upd H l (.tup ys))) ∨ (SqT g.K H p ys ∧ Q (.ref p) H))) tupleP := by
  refine ⟨fun ds Q Q' h q => ?_, fun {F H O σ δ xs ds Q Qd} r0 hx hp k => ?_⟩
  · unfold tupleP at q ⊢
    split at q
    · exact h _ q
    · exact h _ q
    · exact q.elim
  · unfold tupleP at hp
    split at hp
    · obtain ⟨x, rfl, a, vs, rfl, h1, h2⟩ := Paired.c1 hx
      refine ⟨a, vs, rfl, .inl ⟨.of h1, fun p np => ?_⟩⟩
      obtain ⟨F', s, r1, x1⟩ := r0.newT np h2
      exact k _ _ F' _ s r1 (VR.rep x1) hp
    · obtain ⟨x, rfl, a, vs, rfl, h1, h2⟩ := Paired.c1 hx
      exact ⟨a, vs, rfl, .inr ⟨r0.sub.sqT h1, k _ _ F _ (Step.refl _ _ _) r0 (VR.rep (.tup h1 h2)) hp⟩⟩
    · exact hp.elim
/-- texts out of data -/
def strsD : List D → Option (List Str)
  | [] => some []
  | .sc (.str z) :: ds => (strsD ds).map (z :: ·)
  | _ :: _ => none
theorem strs_eq : ∀ {ds : List D} {zs : List Str}, strsD ds = some zs → ds = zs.map fun z => .sc (.str z)
  | [], bs, e => by cases e; rfl
  | d :: ds, bs, e => by
    cases d with
    | sc v =>
      cases v with
      | str z =>
        simp only [strsD] at e
        cases e2 : strsD ds with
        | none => rw [e2] at e; cases e
        | some bs' =>
          rw [e2] at e
          cases e
          rw [strs_eq e2]
          rfl
      | _ => cases e
    | _ => cases e
theorem strs_map (zs : List Str) : strsD (zs.map fun z => .sc (.str z)) = some zs := by
  induction zs with
  | nil => rfl
  | cons b bs ih => simp [strsD, ih]
/-- sorted(list of fewer than 64 texts): the one that stands in order -/
def sortedSP : PN := fun ds Q => match ds with
  | [.lst xs] => ∃ zs, strsD xs = some zs ∧ zs.length < 64 ∧ ∀ ys : List Str, ys.Perm zs → PyProof.Rows.sortedS ys = true → Q (.ow (.lst (ys.map fun z => .sc (.str z))))
  | _ => False
theorem pr_sortedS : PrN g (rSortedS g.K) sortedSP := by
  refine ⟨fun ds Q Q' h q => ?_, fun {F H O σ δ xs ds Q Qd} r0 hx hp k => ?_⟩
  · unfold sortedSP at q ⊢
    split at q
    · obtain ⟨zs, e, n, q⟩ := q
      exact ⟨zs, e, n, fun ys h1 h2 => h _ (q ys h1 h2)⟩
    · exact q.elim
  · unfold sortedSP at hp
    split at hp
    · obtain ⟨zs, e, n, q⟩ := hp
      obtain ⟨x, rfl, a, vs, rfl, h1, h2⟩ := Paired.c1 hx
      have e1 := strs_eq e
      subst e1
      have e2 := h2.scI
      subst e2
      refine ⟨a, zs, rfl, .of h1, n, fun ys p h3 h4 np => ?_⟩
      obtain ⟨s, r1, x1⟩ := r0.newL np (show Reps g.K F (ys.map V.str) (ys.map fun z => .sc (.str z)) by
        rw [show (fun z => D.sc (.str z)) = D.sc ∘ V.str from rfl, ← List.map_map]; exact Reps.scs _)
      exact k _ _ F _ s r1 x1 (q ys h3 h4)
    · exact hp.elim
end
end DL

/-! text DLS -/
set_option Elab.async false
set_option linter.all false
set_option maxRecDepth 100000
namespace DL
open PySem PySem.Spec L2
section
variable {X : Cx} {g : Gd} {Wx : WX} {e a b c lo hi : Expr} {es rest : List Expr} {ta tb tc : DTE} {tA : DTA} {t u : DTT} {pos p2 : Pos}

/-! a op b op' c -/
def dChain (p p' : P2) (ta tb tc : DTE) : DTE := fun δ Q Y => ta δ (fun x δ1 => tb δ1 (fun y δ2 => ∃ dx, val δ2 x = some dx ∧ ∃ dy, val δ2 y = some dy ∧ p dx dy fun w => ∃ k, w = .pu (.sc (.bl k)) ∧
  if k = true then tc δ2 (fun z δ3 => ∃ dy', val δ3 y = some dy' ∧ ∃ dz, val δ3 z = some dz ∧ p' dy' dz fun w => Q w δ3) Y else Q (.pu (.sc (.bl false))) δ2) Y) Y
theorem dChain_mono {p p' : P2} (hp : Mo2 p) (hp' : Mo2 p') (ha : MonoE ta) (hb : MonoE tb) (hc : MonoE tc) : MonoE (dChain p p' ta tb tc) := fun δ Q Q' Y Y' hQ hY h =>
  ha _ _ _ _ _ (fun x δ1 h => hb _ _ _ _ _ (fun y δ2 ⟨dx, e1, dy, e2, h⟩ => ⟨dx, e1, dy, e2, hp _ _ _ _ (fun w ⟨k, ek, h⟩ => ⟨k, ek, by
    cases k with
    | true => exact hc _ _ _ _ _ (fun z δ3 ⟨dy', e3, dz, e4, h⟩ => ⟨dy', e3, dz, e4, hp' _ _ _ _ (fun w => hQ w δ3) h⟩) hY h
    | false => exact hQ _ _ h⟩) h⟩) hY h) hY h
theorem chainCan {r r' : R2} {p p' : P2} (pr : Pr2 g r p) (pr' : Pr2 g r' p') (ha : MonoE ta) (hb : MonoE tb) (hc : MonoE tc) (σ : L2.St) (H : Hp) (Q : VK) :
    canE g Wx (dChain p p' ta tb tc) σ H Q → tChain r r' (canE g Wx ta) (canE g Wx tb) (canE g Wx tc) σ H Q := by
  rintro ⟨F, O, δ, r0, h⟩
  refine ⟨F, O, δ, r0, ha _ _ _ _ _ (fun x δ1 h v1 F1 H1 O1 s1 r1 x1 => ?_) (fun _ _ z => z) h⟩
  refine ⟨F1, O1, δ1, r1, hb _ _ _ _ _ (fun y δ2 h v2 F2 H2 O2 s2 r2 x2 => ?_) (fun c δ z => z.step s1) h⟩
  obtain ⟨dx, e1, dy, e2, h⟩ := h
  have s02 := s1.trans s2
  refine pr.ok r2 (r2.cont (x1.step s2) e1) (r2.cont x2 e2) h fun z H3 F3 w s3 r3 x3 q => ?_
  obtain ⟨k, rfl, q⟩ := q
  have hz : z = .bl k := by cases (show Rep g.K F3 z (.sc (.bl k)) from x3); rfl
  refine ⟨k, hz, ?_⟩
  have s03 := s02.trans s3
  cases k with
  | false => exact q _ F3 H3 O2 s03 r3 (VR.sc _)
  | true =>
    refine ⟨F3, O2, δ2, r3, hc _ _ _ _ _ (fun z δ3 q v4 F4 H4 O4 s4 r4 x4 => ?_) (fun c δ z => z.step s03) q⟩
    obtain ⟨dy', e3, dz, e4, q⟩ := q
    exact pr'.ok r4 (r4.cont ((x2.step s3).step s4) e3) (r4.cont x4 e4) q fun z H5 F5 w s5 r5 x5 q => q z F5 H5 O4 ((s03.trans s4).trans s5) r5 (x5.back (s03.trans s4))
theorem de_chain {op op' : CmpOp} {r r' : R2} {p p' : P2} (ho : OpR X (compareOp op) r) (ho' : OpR X (compareOp op') r') (pr : Pr2 g r p) (pr' : Pr2 g r' p') (ha : DE X g Wx a ta) (hb : DE X g Wx b tb) (hc : DE X g Wx c tc)
    (hm : lastMarks [op, op'] [b, c] = false := by with_unfolding_all rfl) : DE X g Wx (.Compare a [op, op'] [b, c] pos) (dChain p p' ta tb tc) :=
  ⟨dChain_mono pr.mono pr'.mono ha.mono hb.mono hc.mono, peMono (pe_chain ho ho' ha.pe hb.pe hc.pe hm) (chainCan pr pr' ha.mono hb.mono hc.mono)⟩
theorem dt_chain {op op' : CmpOp} {r r' : R2} {p p' : P2} (ho : OpR X (compareOp op) r) (ho' : OpR X (compareOp op') r') (pr : Pr2 g r p) (pr' : Pr2 g r' p') (ha : DE X g Wx a ta) (hb : DE X g Wx b tb) (hc : DE X g Wx c tc)
    (hm : lastMarks [op, op'] [b, c] = false := by with_unfolding_all rfl) : DT X g Wx (.Compare a [op, op'] [b, c] pos) (dTst (dChain p p' ta tb tc)) :=
  dt_of (dChain_mono pr.mono pr'.mono ha.mono hb.mono hc.mono) (pt_chain ho ho' ha.pe hb.pe hc.pe hm) (chainCan pr pr' ha.mono hb.mono hc.mono)

/-! slices -/
abbrev DTO := DS → (Option Int → DS → Prop) → DX → Prop
def canO (g : Gd) (Wx : WX) (t : DTO) : TO := fun σ H Q => ∃ F O δ, R g F H O σ δ ∧ t δ (fun o δ' => ∀ F' H' O', Step F H O F' H' O' → R g F' H' O' σ δ' → Q o H') (canX g Wx F H O σ)
def MonoO (t : DTO) : Prop := ∀ δ Q Q' X X', (∀ w δ', Q w δ' → Q' w δ') → (∀ c δ', X c δ' → X' c δ') → t δ Q X → t δ Q' X'
structure DO (X : Cx) (g : Gd) (Wx : WX) (e : Option Expr) (t : DTO) : Prop where
  mono : MonoO t
  po : PO X e (canO g Wx t)
theorem poMono {e : Option Expr} {t t' : TO} (h : PO X e t) (i : ∀ σ H Q, t' σ H Q → t σ H Q) : PO X e t' := ⟨fun pins s σ H Q I q => h.run pins s σ H Q I (i σ H Q q)⟩
def dONo : DTO := fun δ Q _ => Q none δ
def dOSome (ta : DTE) : DTO := fun δ Q Y => ta δ (fun w δ1 => ∃ i, val δ1 w = some (.sc (.int i)) ∧ Q (some i) δ1) Y
theorem do_none : DO X g Wx none dONo := ⟨fun δ Q Q' Y Y' hQ hY h => hQ _ _ h, poMono po_none fun σ H Q ⟨F, O, δ, r, q⟩ => q F H O (Step.refl _ _ _) r⟩
theorem do_some (ha : DE X g Wx a ta) : DO X g Wx (some a) (dOSome ta) := by
  refine ⟨fun δ Q Q' Y Y' hQ hY h => ha.mono _ _ _ _ _ (fun w δ1 ⟨i, e, h⟩ => ⟨i, e, hQ _ _ h⟩) hY h, poMono (po_some ha.pe) ?_⟩
  rintro σ H Q ⟨F, O, δ, r, q⟩
  refine ⟨F, O, δ, r, ha.mono _ _ _ _ _ (fun w δ1 q v F1 H1 O1 s1 r1 x1 => ?_) (fun _ _ z => z) q⟩
  obtain ⟨i, e, q⟩ := q
  exact ⟨i, r1.cont x1 e, q F1 H1 O1 s1 r1⟩
abbrev PS3 := D → Option Int → Option Int → (Wv → Prop) → Prop
structure PrS (g : Gd) (r : V → Option Int → Option Int → Hp → VK → Prop) (p : PS3) : Prop where
  mono : ∀ d l u Q Q', (∀ w, Q w → Q' w) → p d l u Q → p d l u Q'
  ok : ∀ {F H O σ δ x dx l u} {Q : VK} {Qd : Wv → Prop}, R g F H O σ δ → Cont g.K F H x dx → p dx l u Qd →
    (∀ z H' F' w, Step F H O F' H' O → R g F' H' O σ δ → VR g F' H' O H O σ z w → Qd w → Q z H') → r x l u H Q
def dSl (p : PS3) (ta : DTE) (tl th : DTO) : DTE := fun δ Q Y => ta δ (fun x δ1 => tl δ1 (fun l δ2 => th δ2 (fun u δ3 => ∃ dx, val δ3 x = some dx ∧ p dx l u fun w => Q w δ3) Y) Y) Y
theorem de_slice {r : V → Option Int → Option Int → Hp → VK → Prop} {p : PS3} {lo hi : Option Expr} {tl th : DTO} (ho : SlR X r) (pr : PrS g r p) (ha : DE X g Wx a ta) (hl : DO X g Wx lo tl) (hh : DO X g Wx hi th) : DE X g Wx (.Subscript a (.Slice lo hi none p2) pos) (dSl p ta tl th) := by
  refine ⟨fun δ Q Q' Y Y' hQ hY h => ha.mono _ _ _ _ _ (fun x δ1 h => hl.mono _ _ _ _ _ (fun l δ2 h => hh.mono _ _ _ _ _ (fun u δ3 ⟨dx, e, h⟩ => ⟨dx, e, pr.mono _ _ _ _ _ (fun w => hQ w δ3) h⟩) hY h) hY h) hY h,
    peMono (pe_slice ho ha.pe hl.po hh.po) ?_⟩
  rintro σ H Q ⟨F, O, δ, r0, q⟩
  refine ⟨F, O, δ, r0, ha.mono _ _ _ _ _ (fun x δ1 q v F1 H1 O1 s1 r1 x1 => ?_) (fun _ _ z => z) q⟩
  refine ⟨F1, O1, δ1, r1, hl.mono _ _ _ _ _ (fun l δ2 q F2 H2 O2 s2 r2 => ?_) (fun c δ z => z.step s1) q⟩
  have s02 := s1.trans s2
  refine ⟨F2, O2, δ2, r2, hh.mono _ _ _ _ _ (fun u δ3 q F3 H3 O3 s3 r3 => ?_) (fun c δ z => z.step s02) q⟩
  have s03 := s02.trans s3
  obtain ⟨dx, e, q⟩ := q
  exact pr.ok r3 (r3.cont ((x1.step s2).step s3) e) q fun z H4 F4 w s4 r4 x4 q => q z F4 H4 O3 (s03.trans s4) r4 (x4.back s03)
/-- what is cut out -/
def cutL {α : Type} (xs : List α) (lo hi : Option Int) : List α := (xs.drop (HT.sIx xs.length 0 lo)).take (HT.sIx xs.length xs.length hi - HT.sIx xs.length 0 lo)
theorem Reps.cut {K : PySem.W.Frag} {F : Hp} {vs : List V} {ds : List D} (r : Reps K F vs ds) (lo hi : Option Int) : Reps K F (cutV vs lo hi) (cutL ds lo hi) := by
  unfold cutV cutL
  rw [r.length]
  exact (r.drop _).take _
def slP : PS3 := fun dx l u Q => match dx with
  | .lst xs => Q (.ow (.lst (cutL xs l u)))
  | .scr ns => Q (.ow (.lst ((cutL ns l u).map fun n => .sc (.int n))))
  | .tup xs => Q (.pu (.tup (cutL xs l u)))
  | .sc (.str z) => z.length ≤ sizeLine ∧ Q (.pu (.sc (.str (cutS z l u))))
  | _ => False
def rSlAll (K : PySem.W.Frag) : V → Option Int → Option Int → Hp → VK → Prop := fun x l u H Q => rSlL K x l u H Q ∨ rSlA K x l u H Q ∨ rSlS x l u H Q
theorem sl_all : SlR X (rSlAll X.K) := sl_list.or (sl_tupA.or sl_str)
theorem cut_all {α : Type} {xs : List α} {lo hi : Option Int} (h : HT.sIx xs.length 0 lo = 0 ∧ HT.sIx xs.length xs.length hi = xs.length) : cutL xs lo hi = xs := by
  unfold cutL
  rw [h.1, h.2]
  simp
theorem pr_sl : PrS g (rSlAll g.K) slP := by
  refine ⟨fun d l u Q Q' h q => ?_, fun {F H O σ δ x dx l u Q Qd} r0 hx hp k => ?_⟩
  · unfold slP at q ⊢
    split at q
    · exact h _ q
    · exact h _ q
    · exact h _ q
    · exact ⟨q.1, h _ q.2⟩
    · exact q.elim
  · unfold slP at hp
    split at hp
    · obtain ⟨a, vs, rfl, h1, h2⟩ := hx
      refine .inl ⟨a, vs, rfl, .of h1, fun p n => ?_⟩
      obtain ⟨s, r1, x1⟩ := r0.newL n (h2.cut l u)
      exact k _ _ F _ s r1 x1 hp
    · obtain ⟨a, rfl, h1⟩ := hx
      refine .inl ⟨a, _, rfl, h1, fun p n => ?_⟩
      rename_i ns
      have e : cutV (ns.map V.int) l u = (cutL ns l u).map V.int := by
        unfold cutV cutL
        rw [List.length_map, List.map_take, List.map_drop]
      rw [e]
      obtain ⟨s, r1, x1⟩ := r0.newL n (show Reps g.K F ((cutL ns l u).map V.int) ((cutL ns l u).map fun n => .sc (.int n)) by
        rw [show (fun n => D.sc (.int n)) = D.sc ∘ V.int from rfl, ← List.map_map]; exact Reps.scs _)
      exact k _ _ F _ s r1 x1 hp
    · obtain ⟨a, vs, rfl, h1, h2⟩ := hx
      refine .inr (.inl ⟨a, vs, rfl, r0.sub.sqT h1, fun hw => ?_, fun hw p n => ?_⟩)
      · rw [h2.length] at hw
        rw [cut_all hw] at hp
        exact k _ H F _ (Step.refl _ _ _) r0 (VR.rep (.tup h1 h2)) hp
      · obtain ⟨F', s, r1, x1⟩ := r0.newT n (h2.cut l u)
        exact k _ _ F' _ s r1 (VR.rep x1) hp
    · obtain ⟨z, q⟩ := hp
      cases hx
      exact .inr (.inr ⟨_, rfl, z, k _ H F _ (Step.refl _ _ _) r0 (VR.sc _) q⟩)
    · exact hp.elim

/-! methods of texts, lists .. that change nothing -/
abbrev PM := D → List D → (Wv → Prop) → Prop
structure PrM (g : Gd) (r : V → List V → Hp → VK → Prop) (p : PM) : Prop where
  mono : ∀ d ds Q Q', (∀ w, Q w → Q' w) → p d ds Q → p d ds Q'
  ok : ∀ {F H O σ δ x dx xs ds} {Q : VK} {Qd : Wv → Prop}, R g F H O σ δ → Cont g.K F H x dx → Paired (Cont g.K F H) xs ds → p dx ds Qd →
    (∀ z H' F' w, Step F H O F' H' O → R g F' H' O σ δ → VR g F' H' O H O σ z w → Qd w → Q z H') → r x xs H Q
/-- o.m(e, ..) of a text -/
def dMs (p : PM) (ta : DTE) (tA : DTA) : DTE := fun δ Q Y => ta δ (fun x δ1 => (∃ z, val δ1 x = some (.sc (.str z))) ∧ tA δ1 (fun ws δ2 => ∃ dx, val δ2 x = some dx ∧ ∃ ds, vals δ2 ws = some ds ∧ p dx ds fun w => Q w δ2) Y) Y
theorem de_ms {r : V → List V → Hp → VK → Prop} {p : PM} {tA : DTA} (hp : PE X e (tBM X.K "str" r (canE g Wx ta) (canA g Wx tA))) (pr : PrM g r p) (ha : DE X g Wx a ta) (hA : DA X g Wx es tA) : DE X g Wx e (dMs p ta tA) := by
  refine ⟨fun δ Q Q' Y Y' hQ hY h => ha.mono _ _ _ _ _ (fun x δ1 ⟨z, h⟩ => ⟨z, hA.mono _ _ _ _ _ (fun ws δ2 ⟨dx, e1, ds, e2, h⟩ => ⟨dx, e1, ds, e2, pr.mono _ _ _ _ (fun w => hQ w δ2) h⟩) hY h⟩) hY h, peMono hp ?_⟩
  rintro σ H Q ⟨F, O, δ, r0, q⟩
  refine ⟨F, O, δ, r0, ha.mono _ _ _ _ _ (fun x δ1 q v F1 H1 O1 s1 r1 x1 => ?_) (fun _ _ z => z) q⟩
  obtain ⟨⟨z, ez⟩, q⟩ := q
  have hv : v = .str z := r1.cont x1 ez
  refine ⟨by rw [hv]; rfl, F1, O1, δ1, r1, hA.mono _ _ _ _ _ (fun ws δ2 q vs F2 H2 O2 s2 r2 x2 => ?_) (fun c δ z => z.step s1) q⟩
  obtain ⟨dx, e1, ds, e2, q⟩ := q
  have s02 := s1.trans s2
  exact pr.ok r2 (r2.cont (x1.step s2) e1) (r2.conts x2 e2) q fun z H4 F4 w s4 r4 x4 q => q z F4 H4 O2 (s02.trans s4) r4 (x4.back s02)
def findP : PM := fun d ds Q => match d, ds with
  | .sc (.str a), [.sc (.str b)] => Q (.pu (.sc (.int (Txt.find a b))))
  | _, _ => False
theorem pr_find : PrM g (fun x xs H Q => ∃ a b, x = .str a ∧ xs = [.str b] ∧ Q (.int (Txt.find a b)) H) findP := by
  refine ⟨fun d ds Q Q' h q => ?_, fun {F H O σ δ x dx xs ds Q Qd} r0 hx hxs hp k => ?_⟩
  · unfold findP at q ⊢
    split at q
    · exact h _ q
    · exact q.elim
  · unfold findP at hp
    split at hp
    · obtain ⟨y, rfl, hy⟩ := Paired.c1 hxs
      cases hx; cases hy
      exact ⟨_, _, rfl, rfl, k _ H F _ (Step.refl _ _ _) r0 (VR.sc _) hp⟩
    · exact hp.elim
def countP : PM := fun d ds Q => match d, ds with
  | .sc (.str a), [.sc (.str b)] => Q (.pu (.sc (.int (Txt.count a b))))
  | _, _ => False
theorem pr_count : PrM g (fun x xs H Q => ∃ a b, x = .str a ∧ xs = [.str b] ∧ Q (.int (Txt.count a b)) H) countP := by
  refine ⟨fun d ds Q Q' h q => ?_, fun {F H O σ δ x dx xs ds Q Qd} r0 hx hxs hp k => ?_⟩
  · unfold countP at q ⊢
    split at q
    · exact h _ q
    · exact q.elim
  · unfold countP at hp
    split at hp
    · obtain ⟨y, rfl, hy⟩ := Paired.c1 hxs
      cases hx; cases hy
      exact ⟨_, _, rfl, rfl, k _ H F _ (Step.refl _ _ _) r0 (VR.sc _) hp⟩
    · exact hp.elim
def joinP : PM := fun d ds Q => match d, ds with
  | .sc (.str a), [.lst xs] => ∃ ys, strsD xs = some ys ∧ (ys.map (·.length)).sum + ys.length * a.length ≤ 16777216 ∧ Q (.pu (.sc (.str (Txt.join a ys))))
  | _, _ => False
theorem pr_join : PrM g (fun x xs H Q => ∃ a p, ∃ ys : List Str, x = .str a ∧ xs = [.ref p] ∧ (SqL g.K H p (ys.map V.str) ∨ SqT g.K H p (ys.map V.str)) ∧ (ys.map (·.length)).sum + ys.length * a.length ≤ 16777216 ∧ Q (.str (Txt.join a ys)) H) joinP := by
  refine ⟨fun d ds Q Q' h q => ?_, fun {F H O σ δ x dx xs ds Q Qd} r0 hx hxs hp k => ?_⟩
  · unfold joinP at q ⊢
    split at q
    · obtain ⟨ys, e, z, q⟩ := q; exact ⟨ys, e, z, h _ q⟩
    · exact q.elim
  · unfold joinP at hp
    split at hp
    · obtain ⟨ys, e, z, q⟩ := hp
      obtain ⟨y, rfl, p, vs, rfl, h1, h2⟩ := Paired.c1 hxs
      have e1 := strs_eq e
      subst e1
      have e2 := h2.scI
      subst e2
      cases hx
      exact ⟨_, p, ys, rfl, rfl, .inl (.of h1), z, k _ H F _ (Step.refl _ _ _) r0 (VR.sc _) q⟩
    · exact hp.elim
end
end DL

/-! text DLZ -/
set_option Elab.async false
set_option linter.all false
set_option maxRecDepth 100000
namespace DL
open PySem PySem.Spec L2

/-! ### walks that hand out new tuples: zip, enumerate, over lists, tuples, texts -/
def Jt (n : Nat) (side : Hp → Prop) (At : Nat → List V → Prop) : It :=
  ⟨fun i H => i < n ∧ side H, fun i H v H' => ∃ T vs, v = .ref T ∧ H T = none ∧ H' = upd H T (.tup vs) ∧ At i vs, fun i H => i = n ∧ side H⟩
theorem turn_walk {P : Program} {w : World} {K : PySem.W.Frag} {elts : List Expr} {kk : Nat} {tpos : Pos} {fp : List Addr} {z : Addr} {tn : Nat → Heap → Prop} {n : Nat} {side : Hp → Prop} {At : Nat → List V → Prop} (hm : z ∈ fp)
    (obj : ∀ i h, tn i h → ∀ b ∈ fp, ∃ o, h.get? b = some o ∧ ∀ v, o.data ≠ .cell v) (keep : ∀ i h h', tn i h → (∀ b ∈ fp, ∀ o, h.get? b = some o → h'.get? b = some o) → tn i h')
    (self : ∀ (A : Around) (i : Nat) (s : Shared) (Q : Value → Shared → Prop) (E : Value → Shared → Prop), tn i s.heap → Q (.ref z) s → wpAny (model P w) A (pyIter (.ref z)) Q E s)
    (wk : ∀ (X : Cx), X.prog = P → X.w = w → X.K = K → X.calm = true → ∀ (pins : List (Addr × Obj)) (s : Shared) (σ : L2.St) (H : Hp), Inv X pins σ H s → (∀ b ∈ fp, FpOk X pins H b) → side H → ∀ i, tn i s.heap →
      ∃ fpW wr Pt St Mid, WalksT P w X.A z fpW wr n Pt St Mid ∧ St i s.heap ∧ (∀ b ∈ wr, b ∈ fp) ∧ (∀ j h, St j h → tn j h) ∧ ∀ j vals, Pt j vals → ∃ vs, At j vs ∧ Vals vs vals.toList ∧ vs.length ≤ sizeLine) :
    Turn P w K (.Tuple elts kk tpos) (Jt n side At) fp z tn where
  mem := hm
  obj := obj
  keep := keep
  self := self
  item := by
    rintro X hP hw hK hc i pins s σ H E I hf st ⟨hi, sd⟩
    obtain ⟨fpW, wr, Pt, St, Mid, W, st0, hwr, hst, hpt⟩ := wk X hP hw hK hc pins s σ H I hf sd i st
    refine W.item i s _ _ hi st0 fun T vals h' tk hv hT hTup hM hk => ?_
    obtain ⟨vs, ha, rv, hl⟩ := hpt i vals hv
    refine ⟨_, rfl, W.go elts kk tpos i T _ _ _ hM fun h'' hs' hk' => ?_⟩
    have hap := W.apart i T _ hM
    have t2 : PyProof.Rows.IsTup h'' T vals.toList.toArray := by
      have t2 : h''.IsTuple T vals := hTup.at fun o e => hk' T o hap e
      rw [Array.toArray_toList]
      exact t2
    have fr : ∀ b o, b ∉ fp → s.heap.get? b = some o → h''.get? b = some o := fun b o nb e => hk' b o (fun z => nb (hwr b z)) (hk b o (fun z => nb (hwr b z)) e)
    have I1 := I.turnedNew (t' := tk) (T := T) (ob := .tup vs) fr hf hT ⟨hl, vals.toList, rv, t2⟩
    refine ⟨.ref T, _, I1, rfl, ⟨T, vs, rfl, I.hok.fresh hT, rfl, ha⟩, hst _ _ hs', fun b hb => ?_⟩
    obtain ⟨o, ho, _⟩ := obj i _ st b hb
    rw [upd_ne (Nat.ne_of_lt (Nat.lt_of_lt_of_le (Heap.lt_size ho) hT))]
    exact (hf b hb).1
  done := by
    rintro X hP hw hK hc i pins s σ H E I hf st ⟨rfl, sd⟩
    obtain ⟨fpW, wr, Pt, St, Mid, W, st0, hwr, hst, hpt⟩ := wk X hP hw hK hc pins s σ H I hf sd _ st
    exact W.done s _ _ st0 fun h' tk hk => ⟨rfl, I.turnedL (fun b o nb e => hk b o (fun z => nb (hwr b z)) e) hf⟩

/-- what is drawn from -/
inductive Sk where
  | lst (a : Addr) (vs : List V) | tup (a : Addr) (vs : List V) | txt (x : Str)
def Sk.side (K : PySem.W.Frag) (H : Hp) : Sk → Prop
  | .lst a vs => SqL K H a vs
  | .tup a vs => SqT K H a vs
  | .txt _ => True
def Sk.n : Sk → Nat
  | .lst _ vs => vs.length
  | .tup _ vs => vs.length
  | .txt x => x.cps.size
def Sk.at_ (i : Nat) (v : V) : Sk → Prop
  | .lst _ vs => vs[i]? = some v
  | .tup _ vs => vs[i]? = some v
  | .txt x => ∃ c, x.cps[i]? = some c ∧ v = .str (sign c)
def Sk.v : Sk → V
  | .lst a _ => .ref a
  | .tup a _ => .ref a
  | .txt x => .str x
def Sk.core (it : Addr) (i : Nat) (h : Heap) : Sk → Prop
  | .lst a _ => h.IsListIter it a i
  | .tup a _ => h.IsTupleIter it a i
  | .txt x => ∃ t, h.IsStrIter it (strIterType x) x t i
theorem Sk.core_obj {S : Sk} {it : Addr} {i : Nat} {h : Heap} (c : S.core it i h) : ∃ o, h.get? it = some o ∧ ∀ v, o.data ≠ .cell v := by
  cases S with
  | lst a vs => obtain ⟨o, e, _, d⟩ := c; exact ⟨o, e, fun v z => by rw [d] at z; cases z⟩
  | tup a vs => obtain ⟨o, e, _, d⟩ := c; exact ⟨o, e, fun v z => by rw [d] at z; cases z⟩
  | txt x => obtain ⟨t, o, e, _, d⟩ := c; exact ⟨o, e, fun v z => by rw [d] at z; cases z⟩
theorem Sk.core_keep {S : Sk} {it : Addr} {i : Nat} {h h' : Heap} (c : S.core it i h) (k : ∀ o, h.get? it = some o → h'.get? it = some o) : S.core it i h' := by
  cases S with
  | lst a vs => exact Heap.IsListIter.at c k
  | tup a vs => exact Heap.IsTupleIter.at c k
  | txt x => obtain ⟨t, o, e, d⟩ := c; exact ⟨t, o, k o e, d⟩
/-- what is known of the written part, or tracked, is no iterator of ours -/
theorem apart_of {X : Cx} {pins : List (Addr × Obj)} {σ : L2.St} {H : Hp} {s : Shared} {a b : Addr} (I : Inv X pins σ H s) (hf : FpOk X pins H b) (h : H a ≠ none ∨ ∃ o, X.K.lookup a = some o) : a ≠ b := by
  rintro rfl
  rcases h with h | ⟨o, h⟩
  · exact h hf.1
  · have e := I.ok.mod.kin a o h
    rcases hf.2.2.2.1 with z | z
    · exact I.ok.noex a o e z
    · exact absurd (Nat.lt_of_lt_of_le (Heap.lt_size e) (Nat.le_trans I.ok.bsz z)) (Nat.lt_irrefl _)
theorem sq_known {H : Hp} {a : Addr} {u : HO} (h : Rd H a u) : H a ≠ none := by
  rcases h with h | ⟨o, h⟩ <;> rw [h] <;> intro z <;> cases z
/-- the source as the library's iterators draw from it -/
theorem Sk.draws {X : Cx} {pins : List (Addr × Obj)} {σ : L2.St} {H : Hp} {s : Shared} {A : Around} (I : Inv X pins σ H s) (hh : A.handled = none) (S : Sk) (sd : S.side X.K H) {it : Addr} (hit : FpOk X pins H it) {i : Nat} (c : S.core it i s.heap) :
    ∃ fp P St, Draws X.prog X.w A it fp S.n P St ∧ St i s.heap ∧ (∀ j h, St j h → S.core it j h) ∧ (∀ j u, P j u → ∃ v, S.at_ j v ∧ RelV v u) ∧ it ∈ fp ∧ ∀ b, FpOk X pins H b → b ≠ it → b ∉ fp := by
  cases S with
  | lst a vs =>
    obtain ⟨its, rv, p, hz⟩ := I.list sd
    have hk : H a ≠ none ∨ ∃ o, X.K.lookup a = some o := sd.imp sq_known fun ⟨o, _, _, e, _⟩ => ⟨o, e⟩
    have DD := Draws.list (prog := X.prog) (w := X.w) hh it a (apart_of I hit hk) its.toArray
    rw [List.size_toArray, ← rv.length] at DD
    refine ⟨_, _, _, DD, ⟨c, p.isList⟩, fun j h x => x.1, fun j u hu => ?_, by simp, fun b hb hn hm => ?_⟩
    · have hu : its.toArray[j]? = some u := hu
      rw [List.getElem?_toArray] at hu
      have hj : j < vs.length := by rw [rv.length]; exact (List.getElem?_eq_some_iff.mp hu).1
      obtain ⟨u', e1, e2⟩ := rv.get (x := vs[j]) (List.getElem?_eq_getElem hj)
      rw [hu] at e1
      cases e1
      exact ⟨_, List.getElem?_eq_getElem hj, e2⟩
    · rcases List.mem_cons.mp hm with e | e
      · exact hn e
      · exact apart_of I hb hk (List.mem_singleton.mp e).symm
  | tup a vs =>
    obtain ⟨its, rv, p, hz⟩ := I.tuple sd
    have hk : H a ≠ none ∨ ∃ o, X.K.lookup a = some o := sd.imp sq_known fun ⟨o, _, _, e, _⟩ => ⟨o, e⟩
    have DD := Draws.tuple (prog := X.prog) (w := X.w) hh it a (apart_of I hit hk) its.toArray
    rw [List.size_toArray, ← rv.length] at DD
    refine ⟨_, _, _, DD, ⟨c, p⟩, fun j h x => x.1, fun j u hu => ?_, by simp, fun b hb hn hm => ?_⟩
    · have hu : its.toArray[j]? = some u := hu
      rw [List.getElem?_toArray] at hu
      have hj : j < vs.length := by rw [rv.length]; exact (List.getElem?_eq_some_iff.mp hu).1
      obtain ⟨u', e1, e2⟩ := rv.get (x := vs[j]) (List.getElem?_eq_getElem hj)
      rw [hu] at e1
      cases e1
      exact ⟨_, List.getElem?_eq_getElem hj, e2⟩
    · rcases List.mem_cons.mp hm with e | e
      · exact hn e
      · exact apart_of I hb hk (List.mem_singleton.mp e).symm
  | txt x =>
    obtain ⟨t, c⟩ := c
    refine ⟨_, _, _, Draws.text hh it x t, c, fun j h y => ⟨t, y⟩, fun j u ⟨c', u', e1, e2⟩ => ⟨_, ⟨c', e1, rfl⟩, u', e2⟩, by simp, fun b hb hn hm => hn (List.mem_singleton.mp hm)⟩
end DL

/-! text DLY -/
set_option Elab.async false
set_option linter.all false
set_option maxRecDepth 100000
namespace DL
open PySem PySem.Spec
open L2
open Sem (wp)

/-! ### zip(v, u, strict=True) -/
abbrev IsZipS (h : Heap) (z TI TO : Addr) (f0 : Value) : Prop := h.get? z = some { cls := .type "zip", dict := none, data := .fields #[f0, .bool false, .bool true, .ref TI, .ref TO], slots := #[] }
abbrev szZ (h : Heap) (o1 o2 : Obj) : Heap := (gzO2 h o1 o2).push { cls := .type "zip", data := .fields #[.none, .bool false, .bool true, .ref ((h.push o1).push o2).objs.size, .ref (gzT2 h o1 o2).objs.size] }
abbrev kwStrict : List (Str × Value) := [(Str.ofString "strict", .bool true)]
theorem szTypeCall (a b : Value) : checkTypeCall "zip" ⟨[a, b], kwStrict⟩ = pure () := by kernel_rfl
theorem szNewCall (a b : Value) : checkBuiltinCall "zip.__new__" ⟨[.type "zip", a, b], kwStrict⟩ = pure () := by kernel_rfl
theorem szInit (obj a b : Value) : argsOk "object.__init__" ⟨[obj, a, b], kwStrict⟩ := by unfold argsOk; kernel_rfl
theorem szNew {v1 v2 : Value} {o1 o2 : Obj} {H1 H2 : Heap → Prop} (B1 : Begins v1 o1 H1) (B2 : Begins v2 o2 H2) :
    Meets (Builtin.«zip.__new__» ⟨[.type "zip", v1, v2], kwStrict⟩) (fun _ R s => (H1 s.heap ∧ H2 s.heap) ∧ R (.ok (.ret (.ref (gzO2 s.heap o1 o2).objs.size))) { s with heap := szZ s.heap o1 o2 }) :=
  .of_wp fun prog w A R ⟨hp, g, d, tk, os⟩ ⟨⟨h1, h2⟩, h⟩ => by
    have hsub := sub_zip
    have q1 : ∀ {A' : Around} {E : Value → Shared → Prop} {Q : Value → Shared → Prop}, Q (.ref hp.objs.size) ⟨hp.push o1, g, d, tk, os⟩ → wpAny (model prog w) A' (pyIter v1) Q E ⟨hp, g, d, tk, os⟩ :=
      fun q => B1.iter prog w _ _ _ _ (B1.keeps _ _ h1 fun _ _ e => e) q
    have q2 : ∀ {A' : Around} {E : Value → Shared → Prop} {Q : Value → Shared → Prop}, Q (.ref (hp.push o1).objs.size) ⟨(hp.push o1).push o2, g, d, tk, os⟩ → wpAny (model prog w) A' (pyIter v2) Q E ⟨hp.push o1, g, d, tk, os⟩ :=
      fun q => B2.iter prog w _ _ ⟨hp.push o1, g, d, tk, os⟩ _ (B2.keeps _ _ h2 fun _ _ e => Heap.get?_push_of_some _ e) q
    wp_walk using q1, q2
    exact ⟨_, rfl, h⟩
end DL

/-! text DLY2 -/
set_option Elab.async false
set_option linter.all false
set_option maxRecDepth 100000
namespace DL
open PySem PySem.Spec
open L2
open Sem (wp)
section
variable {s : Shared} {w : World} {prog : Program} {E : Value → Shared → Prop} {A : Around}
/-- its five new cells -/
theorem szBegins {v1 v2 : Value} {o1 o2 : Obj} {H1 H2 : Heap → Prop} {Q : Value → Shared → Prop} (B1 : Begins v1 o1 H1) (B2 : Begins v2 o2 H2) (h1 : H1 s.heap) (h2 : H2 s.heap)
    (h : ∀ h', IsZipS h' (s.heap.objs.size + 4) (s.heap.objs.size + 2) (s.heap.objs.size + 3) .none → IsTupOf2 h' (s.heap.objs.size + 2) (.ref s.heap.objs.size) (.ref (s.heap.objs.size + 1)) →
      IsTupOf2 h' (s.heap.objs.size + 3) .none .none → h'.get? s.heap.objs.size = some o1 → h'.get? (s.heap.objs.size + 1) = some o2 →
      (∀ b u, s.heap.get? b = some u → h'.get? b = some u) → Q (.ref (s.heap.objs.size + 4)) { s with heap := h' }) :
    wpAny (model prog w) A (call (.type "zip") [v1, v2] kwStrict) Q E s := by
  refine callType_newKw F.called_zip (by decide) (szTypeCall _ _) (szNewCall _ _) (fun obj => szInit obj _ _) F.entry_zip_new (szNew B1 B2) ⟨⟨h1, h2⟩, ?_⟩
  have z1 : (s.heap.push o1).objs.size = s.heap.objs.size + 1 := Heap.size_push ..
  have z2 : ((s.heap.push o1).push o2).objs.size = s.heap.objs.size + 2 := (Heap.size_push ..).trans (congrArg (· + 1) z1)
  have z3 : (gzT2 s.heap o1 o2).objs.size = s.heap.objs.size + 3 := by rw [Heap.size_push, z2]
  have z4 : (gzO2 s.heap o1 o2).objs.size = s.heap.objs.size + 4 := by rw [Heap.size_push, z3]
  have up : ∀ {c : Addr} {o : Obj}, (gzO2 s.heap o1 o2).get? c = some o → (szZ s.heap o1 o2).get? c = some o := fun e => Heap.get?_push_of_some _ e
  have up2 : ∀ {c : Addr} {o : Obj}, (gzT2 s.heap o1 o2).get? c = some o → (szZ s.heap o1 o2).get? c = some o := fun e => up (Heap.get?_push_of_some _ e)
  have up3 : ∀ {c : Addr} {o : Obj}, ((s.heap.push o1).push o2).get? c = some o → (szZ s.heap o1 o2).get? c = some o := fun e => up2 (Heap.get?_push_of_some _ e)
  have gZ : (szZ s.heap o1 o2).get? (gzO2 s.heap o1 o2).objs.size = some { cls := .type "zip", data := .fields #[.none, .bool false, .bool true, .ref ((s.heap.push o1).push o2).objs.size, .ref (gzT2 s.heap o1 o2).objs.size] } := Heap.get?_push_size _ rfl
  have gO : (szZ s.heap o1 o2).get? (gzT2 s.heap o1 o2).objs.size = some { cls := .type "tuple", data := .seq #[.none, .none] } := up (Heap.get?_push_size _ rfl)
  have gT : (szZ s.heap o1 o2).get? ((s.heap.push o1).push o2).objs.size = some { cls := .type "tuple", data := .seq #[.ref s.heap.objs.size, .ref (s.heap.push o1).objs.size] } := up2 (Heap.get?_push_size _ rfl)
  have g1 : (szZ s.heap o1 o2).get? s.heap.objs.size = some o1 := up3 (Heap.get?_push_of_some _ (Heap.get?_push_size _ B1.free))
  have g2 : (szZ s.heap o1 o2).get? (s.heap.push o1).objs.size = some o2 := up3 (Heap.get?_push_size _ B2.free)
  rw [z4, z3, z2] at gZ
  rw [z3] at gO
  rw [z2, z1] at gT
  rw [z1] at g2
  show _ ∧ _
  rw [z4]
  exact ⟨⟨_, gZ, rfl⟩, h _ gZ gT gO g1 g2 fun c o e => up3 (Heap.get?_push_of_some _ (Heap.get?_push_of_some _ e))⟩
/-- a draw that is tried -/
theorem drawItem {it : Addr} {fp : List Addr} {n i : Nat} {P : Nat → Value → Prop} {St : Nat → Heap → Prop} (D : Draws prog w A it fp n P St) {Q : Option Value → Shared → Prop} (hi : i < n) (st : St i s.heap)
    (h : ∀ x h' tk, P i x → St (i + 1) h' → Heap.SameBut it s.heap h' → Q (some x) { s with heap := h', toks := tk }) : wpAny (model prog w) A (Builtin.SmallTypes.nextOrEnd (.ref it)) Q E s := by
  unfold Builtin.SmallTypes.nextOrEnd
  exact wpAny_bind (wpAny_attempt (D.item i s _ _ hi st fun x h' tk p st' sb => wpAny_pure (h x h' tk p st' sb)))
theorem drawEnd {it : Addr} {fp : List Addr} {n : Nat} {P : Nat → Value → Prop} {St : Nat → Heap → Prop} (D : Draws prog w A it fp n P St) {Q : Option Value → Shared → Prop} (st : St n s.heap)
    (h : ∀ h', Heap.ExtBut it s.heap h' → Q none { s with heap := h' }) : wpAny (model prog w) A (Builtin.SmallTypes.nextOrEnd (.ref it)) Q E s := by
  unfold Builtin.SmallTypes.nextOrEnd
  refine wpAny_bind (wpAny_attempt (D.done s _ _ st fun h' e hx ⟨o, ho, hc⟩ => ?_))
  exact wpAny_bind (wpAny_isInstance (T := "StopIteration") (b := true) ⟨o, ho, hc⟩ isSubtype_stop (wpAny_pure (h h' hx)))
/-- the end is told -/
theorem stopIt {Q : PySem.Fin → Shared → Prop} (hh : A.handled = none) (h : ∀ h' e, (∀ c o, s.heap.get? c = some o → h'.get? c = some o) → (∃ o, h'.get? e = some o ∧ o.cls = .type "StopIteration") → E (.ref e) { s with heap := h' }) :
    wpAny (model prog w) A Builtin.SmallTypes.stopIteration Q E s := by
  refine (show wpAny _ _ (newExc (.type "StopIteration") [] >>= _) _ _ _ from wpAny_bind ?_)
  simp only [newExc, newTuple]
  refine wpAny_bind (wpAny_newObj_type (wpAny_bind (m := firstArgMember _ _) (wpAny_of_eq (a := Value.none) (by simp only [firstArgMember]; rfl) (wpAny_newObj_type ?_ (by size_fits)))) (by size_fits))
  simp only [raiseNew, hh]
  refine wpAny_bind (wpAny_handled (wpAny_bind (wpAny_pure (hh.symm ▸ wpAny_throw ?_))))
  exact h _ _ (fun c o e => Heap.get?_push_of_some _ (Heap.get?_push_of_some _ e)) ⟨_, Heap.get?_push_size _ rfl, rfl⟩
end
end DL

/-! text DLY3 -/
set_option Elab.async false
set_option linter.all false
set_option maxRecDepth 100000
namespace DL
open PySem PySem.Spec
open L2
open Sem (wp)
section
variable {s : Shared} {w : World} {prog : Program} {E : Value → Shared → Prop} {A : Around} {z TI TO i1 i2 : Addr} {fp1 fp2 : List Addr} {n1 n2 i : Nat} {P1 P2 : Nat → Value → Prop} {St1 St2 : Nat → Heap → Prop} {a1 a2 : Value}
theorem szItem {Q : Value → Shared → Prop} (S : ZipSep2 z TI TO i1 i2 fp1 fp2) (D1 : Draws prog w A i1 fp1 n1 P1 St1) (D2 : Draws prog w A i2 fp2 n2 P2 St2)
    (hz : IsZipS s.heap z TI TO .none) (hTI : IsTupOf2 s.heap TI (.ref i1) (.ref i2)) (hTO : IsTupOf2 s.heap TO a1 a2) (st1 : St1 i s.heap) (st2 : St2 i s.heap) (l1 : i < n1) (l2 : i < n2)
    (hQ : ∀ x1 x2 h' tk, P1 i x1 → P2 i x2 → IsZipS h' z TI TO (rawInt s.heap.objs.size) → IsTupOf2 h' TO x1 x2 → St1 (i + 1) h' → St2 (i + 1) h' → IsTupOf2 h' s.heap.objs.size x1 x2 →
      (∀ b u, b ≠ z → b ≠ TO → b ≠ i1 → b ≠ i2 → s.heap.get? b = some u → h'.get? b = some u) → Q (.ref s.heap.objs.size) { s with heap := h', toks := tk }) :
    wpAny (model prog w) A (Builtin.«zip.__next__» { pos := [.ref z] }) (fun fin s' => ∃ v, fin = .done (.ret v) ∧ Q v s') E s := by
  obtain ⟨hp, g, d, tk0, os⟩ : Shared := s
  refine (show wpAny _ _ (field (.ref z) 2 >>= _) _ _ _ from wpAny_bind (wpAny_field hz rfl (x := .bool true) rfl (show wpAny _ _ (field (.ref z) 3 >>= _) _ _ _ from wpAny_bind (wpAny_field hz rfl (x := .ref TI) rfl (wpAny_bind (wpAny_seqItems hTI rfl ?_))))))
  refine (show wpAny _ _ (Builtin.SmallTypes.ownedTupleIsFree (.ref z) >>= _) _ _ _ from wpAny_bind (wpAny_bind (wpAny_field hz rfl (x := .none) rfl (wpAny_pure ?_))))
  simp only [if_true, beq_self_eq_true]
  refine wpAny_bind (wpAny_rule (wpAny_bind (wpAny_field hz rfl (x := .ref TO) rfl (wpAny_bind (wpAny_setField_rec hz (by simp) fun g0 zz ee => wpAny_bind ?_)))))
  have z0 : IsZipS g0 z TI TO .ellipsis := zz
  have e0 : Heap.SameBut z hp g0 := ee
  simp only [List.zipIdx_cons, List.zipIdx_nil, List.forIn_cons]
  refine wpAny_bind (wpAny_bind (wpAny_onRaise (show wpAny _ _ (Builtin.SmallTypes.nextOrEnd (.ref i1)) _ _ ⟨g0, g, d, tk0, os⟩ from ?_)))
  refine drawItem D1 l1 (D1.over st1 e0 S.zf1) fun x1 g1 tk1 p1 t1 e1 => ?_
  replace e1 : Heap.SameBut i1 g0 g1 := e1
  have u1 : IsTupOf2 g1 TO a1 a2 := e1.extBut _ _ S.Ti1 (e0.extBut _ _ S.TOz hTO)
  refine wpAny_bind (wpAny_seqItems (s := ⟨g1, g, d, tk1, os⟩) u1 rfl ?_)
  refine wpAny_bind (updateSeq_IsTupOf2 (s := ⟨g1, g, d, tk1, os⟩) u1 fun g2 T2 e2 => ?_)
  replace T2 : IsTupOf2 g2 TO x1 a2 := T2
  replace e2 : Heap.SameBut TO g1 g2 := e2
  refine wpAny_bind (wpAny_letGo (wpAny_pure (wpAny_bind (wpAny_bind (wpAny_onRaise (show wpAny _ _ (Builtin.SmallTypes.nextOrEnd (.ref i2)) _ _ ⟨g2, g, d, tk1, os⟩ from ?_))))))
  refine drawItem D2 l2 (D2.over (D2.over (D2.over st2 e0 S.zf2) e1 S.sep1_2) e2 S.Tf2) fun x2 g3 tk2 p2 t2 e3 => ?_
  replace e3 : Heap.SameBut i2 g2 g3 := e3
  have u2 : IsTupOf2 g3 TO x1 a2 := e3.extBut _ _ S.Ti2 T2
  refine wpAny_bind (wpAny_seqItems (s := ⟨g3, g, d, tk2, os⟩) u2 rfl ?_)
  refine wpAny_bind (updateSeq_IsTupOf2 (s := ⟨g3, g, d, tk2, os⟩) u2 fun g4 T4 e4 => ?_)
  replace T4 : IsTupOf2 g4 TO x1 x2 := T4
  replace e4 : Heap.SameBut TO g3 g4 := e4
  refine wpAny_bind (wpAny_letGo (wpAny_pure (wpAny_pure (wpAny_bind (wpAny_seqItems (s := ⟨g4, g, d, tk2, os⟩) T4 rfl (wpAny_bind (wpAny_newTuple ?_)))))))
  have hsz : g4.objs.size = hp.objs.size := by rw [e4.1, e3.1, e2.1, e1.1, e0.1]
  have z4 : IsZipS g4 z TI TO .ellipsis := e4.extBut _ _ S.TOz.symm (e3.extBut _ _ S.zi2 (e2.extBut _ _ S.TOz.symm (e1.extBut _ _ S.zi1 z0)))
  have keep : ∀ c o, c ≠ z → c ≠ TO → c ≠ i1 → c ≠ i2 → hp.get? c = some o → g4.get? c = some o := fun c o cz cT c1 c2 e => e4.extBut _ _ cT (e3.extBut _ _ c2 (e2.extBut _ _ cT (e1.extBut _ _ c1 (e0.extBut _ _ cz e))))
  have q1 : St1 (i + 1) g4 := D1.over (D1.over (D1.over t1 e2 S.Tf1) e3 S.sep2_1) e4 S.Tf1
  have q2 : St2 (i + 1) g4 := D2.over t2 e4 S.Tf2
  have zlt : z < g4.objs.size := Heap.lt_size z4
  show wpAny _ _ (Builtin.SmallTypes.ownedTupleHandOut (.ref z) (.ref g4.objs.size) >>= _) _ _ ⟨g4.push { cls := .type "tuple", data := .seq #[x1, x2] }, g, d, tk2, os⟩
  refine wpAny_bind (wpAny_bind (show wpAny _ _ _ _ _ _ from ?_))
  have z5 : IsZipS (g4.push { cls := .type "tuple", data := .seq #[x1, x2] }) z TI TO .ellipsis := Heap.get?_push_of_some _ z4
  refine wpAny_setField_rec z5 (by simp) fun h6 z6 e6 => ?_
  replace z6 : IsZipS h6 z TI TO (rawInt g4.objs.size) := z6
  refine wpAny_setField_rec z6 (by simp) fun h7 z7 e7 => ?_
  replace z7 : IsZipS h7 z TI TO (rawInt g4.objs.size) := z7
  replace e6 : Heap.SameBut z (g4.push { cls := .type "tuple", data := .seq #[x1, x2] }) h6 := e6
  replace e7 : Heap.SameBut z h6 h7 := e7
  have up : ∀ c o, c ≠ z → g4.get? c = some o → h7.get? c = some o := fun c o c1 e => e7.extBut _ _ c1 (e6.extBut _ _ c1 (Heap.get?_push_of_some _ e))
  have T7 : IsTupOf2 h7 g4.objs.size x1 x2 := e7.extBut _ _ (Nat.ne_of_gt zlt) (e6.extBut _ _ (Nat.ne_of_gt zlt) (Heap.get?_push_size _ rfl))
  rw [hsz] at z7 T7
  refine wpAny_pure ⟨_, rfl, (show Q (.ref g4.objs.size) ⟨h7, g, d, tk2, os⟩ from ?_)⟩
  rw [hsz]
  exact hQ x1 x2 h7 tk2 p1 p2 z7 (up _ _ S.TOz T4) (D1.frame _ _ _ q1 fun b hb o e => up b o (fun q => S.zf1 (q ▸ hb)) e) (D2.frame _ _ _ q2 fun b hb o e => up b o (fun q => S.zf2 (q ▸ hb)) e) T7 fun c o cz cT c1 c2 e => up c o cz (keep c o cz cT c1 c2 e)
theorem szEnd {Q : PySem.Fin → Shared → Prop} (hh : A.handled = none) (S : ZipSep2 z TI TO i1 i2 fp1 fp2) (D1 : Draws prog w A i1 fp1 n P1 St1) (D2 : Draws prog w A i2 fp2 n P2 St2)
    (hz : IsZipS s.heap z TI TO .none) (hTI : IsTupOf2 s.heap TI (.ref i1) (.ref i2)) (hTO : IsTupOf2 s.heap TO a1 a2) (st1 : St1 n s.heap) (st2 : St2 n s.heap)
    (hE : ∀ h' tk e, (∀ b u, b ≠ z → b ≠ TO → b ≠ i1 → b ≠ i2 → s.heap.get? b = some u → h'.get? b = some u) → (∃ o, h'.get? e = some o ∧ o.cls = .type "StopIteration") → E (.ref e) { s with heap := h', toks := tk }) :
    wpAny (model prog w) A (Builtin.«zip.__next__» { pos := [.ref z] }) Q E s := by
  obtain ⟨hp, g, d, tk0, os⟩ : Shared := s
  refine (show wpAny _ _ (field (.ref z) 2 >>= _) _ _ _ from wpAny_bind (wpAny_field hz rfl (x := .bool true) rfl (show wpAny _ _ (field (.ref z) 3 >>= _) _ _ _ from wpAny_bind (wpAny_field hz rfl (x := .ref TI) rfl (wpAny_bind (wpAny_seqItems hTI rfl ?_))))))
  refine (show wpAny _ _ (Builtin.SmallTypes.ownedTupleIsFree (.ref z) >>= _) _ _ _ from wpAny_bind (wpAny_bind (wpAny_field hz rfl (x := .none) rfl (wpAny_pure ?_))))
  simp only [if_true, beq_self_eq_true]
  refine wpAny_bind (wpAny_rule (wpAny_bind (wpAny_field hz rfl (x := .ref TO) rfl (wpAny_bind (wpAny_setField_rec hz (by simp) fun g0 zz ee => wpAny_bind ?_)))))
  have z0 : IsZipS g0 z TI TO .ellipsis := zz
  have e0 : Heap.SameBut z hp g0 := ee
  simp only [List.zipIdx_cons, List.zipIdx_nil, List.forIn_cons]
  refine wpAny_bind (wpAny_bind (wpAny_onRaise (show wpAny _ _ (Builtin.SmallTypes.nextOrEnd (.ref i1)) _ _ ⟨g0, g, d, tk0, os⟩ from ?_)))
  refine drawEnd D1 (D1.over st1 e0 S.zf1) fun g1 e1 => ?_
  replace e1 : Heap.ExtBut i1 g0 g1 := e1
  have z1 : IsZipS g1 z TI TO .ellipsis := e1 _ _ S.zi1 z0
  refine wpAny_bind (wpAny_setField_rec (s := ⟨g1, g, d, tk0, os⟩) z1 (by simp) fun g2 z2 e2 => ?_)
  replace e2 : Heap.SameBut z g1 g2 := e2
  refine wpAny_bind ?_
  show wpAny _ _ (forIn (([Value.ref i1, Value.ref i2].drop 1).zipIdx 1) _ _ >>= _) _ _ ⟨g2, g, d, tk0, os⟩
  simp only [List.zipIdx_cons, List.zipIdx_nil, List.forIn_cons, List.forIn_nil, List.drop_one, List.tail_cons]
  refine wpAny_bind (wpAny_bind (wpAny_bind ?_))
  have f2 : St2 n g2 := D2.frame _ _ _ st2 fun b hb o e => e2.extBut _ _ (fun q => S.zf2 (q ▸ hb)) (e1 _ _ (fun q => S.sep1_2 (q ▸ hb)) (e0.extBut _ _ (fun q => S.zf2 (q ▸ hb)) e))
  refine drawEnd (s := ⟨g2, g, d, tk0, os⟩) D2 f2 fun g3 e3 => ?_
  replace e3 : Heap.ExtBut i2 g2 g3 := e3
  refine wpAny_pure (wpAny_pure (wpAny_bind (wpAny_rule (stopIt hh fun h' e k he => ?_))))
  exact hE h' tk0 e (fun c o cz cT c1 c2 x => k _ _ (e3 _ _ c2 (e2.extBut _ _ cz (e1 _ _ c1 (e0.extBut _ _ cz x))))) he
end
end DL

/-! text DLY4 -/
set_option Elab.async false
set_option linter.all false
set_option maxRecDepth 100000
namespace DL
open PySem PySem.Spec
open L2
open Sem (wp)
section
variable {prog : Program} {w : World} {A : Around} {E : Value → Shared → Prop} {s : Shared} {z TI TO i1 i2 : Addr} {fp1 fp2 : List Addr} {n i : Nat} {P1 P2 : Nat → Value → Prop} {St1 St2 : Nat → Heap → Prop} {a1 a2 : Value}
theorem szGo {elts : List Expr} {x1} {pos : Pos} {T : Addr} {Q : Unit → Shared → Prop} (hz : IsZipS s.heap z TI TO (rawInt T)) (hQ : ∀ h', IsZipS h' z TI TO .none → Heap.SameBut z s.heap h' → Q () { s with heap := h' }) :
    wpAny (model prog w) A (letOwnedTupleGo (.Tuple elts x1 pos) (.ref z) (Value.ref T)) Q E s := by
  unfold letOwnedTupleGo
  refine wpAny_bind (wpAny_load hz (show wpAny _ _ (ite _ _ _) Q E s from ?_))
  rw [if_pos (by simp)]
  exact wpAny_bind (wpAny_rule (wpAny_setField_rec hz (by simp) fun h2 z2 same => hQ h2 z2 same))
theorem szType {f0 : Value} (hz : IsZipS s.heap z TI TO f0) : s.TypeIs (.ref z) "zip" := ⟨_, hz, rfl⟩
theorem szIter {f0 : Value} {Q : Value → Shared → Prop} (hz : IsZipS s.heap z TI TO f0) (h : Q (.ref z) s) : wpAny (model prog w) A (pyIter (.ref z)) Q E s :=
  wpAny_pyIter_slot (szType hz) F.slot_zip_iter (wpAny_call_entry F.slot_zip_iter (szType hz) F.entry_zip_iter (show wpAny _ _ (ret (.ref z)) _ _ s from wpAny_pure ⟨_, rfl, "zip", _, szType hz, F.slot_zip_next.lookup, h⟩) (F.args_zip_iter_1 _))
theorem szMem {b : Addr} {P : Addr → Prop} (h : b ∉ [z, TO, i1, i2]) (k : b ≠ z → b ≠ TO → b ≠ i1 → b ≠ i2 → P b) : P b :=
  k (fun e => h (by simp [e])) (fun e => h (by simp [e])) (fun e => h (by simp [e])) (fun e => h (by simp [e]))
/-- zip strict over two of one length -/
theorem walkS (hh : A.handled = none) (S : ZipSep2 z TI TO i1 i2 fp1 fp2) (D1 : Draws prog w A.in1 i1 fp1 n P1 St1) (D2 : Draws prog w A.in1 i2 fp2 n P2 St2) :
    WalksT prog w A z (z :: TI :: TO :: (fp1 ++ fp2)) [z, TO, i1, i2] n (fun i vals => ∃ x1 x2, P1 i x1 ∧ P2 i x2 ∧ vals = #[x1, x2])
      (fun i h => IsZipS h z TI TO .none ∧ IsTupOf2 h TI (.ref i1) (.ref i2) ∧ (∃ a1 a2, IsTupOf2 h TO a1 a2) ∧ St1 i h ∧ St2 i h)
      (fun i T h => IsZipS h z TI TO (rawInt T) ∧ IsTupOf2 h TI (.ref i1) (.ref i2) ∧ (∃ a1 a2, IsTupOf2 h TO a1 a2) ∧ St1 (i + 1) h ∧ St2 (i + 1) h ∧ T ≠ z ∧ T ≠ TO ∧ T ≠ i1 ∧ T ≠ i2) where
  sub := fun c hc => by
    have m1 := S.mem1
    have m2 := S.mem2
    simp only [List.mem_cons, List.not_mem_nil, or_false] at hc
    rcases hc with rfl | rfl | rfl | rfl <;> simp [m1, m2]
  frame := fun i h h' ⟨hz, hI, ⟨a1, a2, hO⟩, t1, t2⟩ k => ⟨k z (by simp) _ hz, k TI (by simp) _ hI, ⟨a1, a2, k TO (by simp) _ hO⟩,
      D1.frame _ _ _ t1 fun b hb o e => k b (by simp [hb]) o e, D2.frame _ _ _ t2 fun b hb o e => k b (by simp [hb]) o e⟩
  item := fun i s Q E hi ⟨hz, hI, ⟨a1, a2, hO⟩, t1, t2⟩ hQ => by
    have hT := szType hz
    have lt : ∀ {b u}, s.heap.get? b = some u → s.heap.objs.size ≠ b := fun e => (Nat.ne_of_lt (Heap.lt_size e)).symm
    have l1 : s.heap.objs.size ≠ i1 := by obtain ⟨_, e⟩ := D1.live _ _ t1; exact lt e
    have l2 : s.heap.objs.size ≠ i2 := by obtain ⟨_, e⟩ := D2.live _ _ t2; exact lt e
    unfold pyNext
    refine wpAny_bind (wpAny_attempt (wpAny_callSpecial?_slot (name := Str.ofString "__next__") hT F.slot_zip_next (wpAny_call_entry F.slot_zip_next hT F.entry_zip_next (szItem S D1 D2 hz hI hO t1 t2 hi hi fun x1 x2 h' tk p1 p2 z' T' q1 q2 nT k => ?_) (F.args_zip_next_1 _))))
    exact wpAny_pure (hQ s.heap.objs.size #[x1, x2] h' tk ⟨x1, x2, p1, p2, rfl⟩ (Nat.le_refl _) ⟨_, nT, rfl, _, rfl⟩ ⟨z', k _ _ S.TIz S.TITO S.TIi1 S.TIi2 hI, ⟨_, _, T'⟩, q1, q2, lt hz, lt hO, l1, l2⟩
      fun c o hc e => szMem (P := fun c => s.heap.get? c = some o → h'.get? c = some o) hc (fun n1 n2 n3 n4 e => k c o n1 n2 n3 n4 e) e)
  go := fun elts kk pos i T s Q E ⟨hz, hI, ⟨a1, a2, hO⟩, t1, t2, _⟩ hQ => by
    exact szGo hz fun h' hz' e => hQ h' ⟨hz', e.extBut _ _ S.TIz hI, ⟨a1, a2, e.extBut _ _ S.TOz hO⟩, D1.over t1 e S.zf1, D2.over t2 e S.zf2⟩ fun c o hc x => e.extBut _ _ (fun q => hc (by simp [q])) x
  apart := fun i T h ⟨_, _, _, _, _, n1, n2, n3, n4⟩ hT => by
    simp only [List.mem_cons, List.not_mem_nil, or_false] at hT
    rcases hT with e | e | e | e
    · exact n1 e
    · exact n2 e
    · exact n3 e
    · exact n4 e
  done := fun s Q E ⟨hz, hI, ⟨a1, a2, hO⟩, t1, t2⟩ hQ => by
    have hT := szType hz
    unfold pyNext
    refine wpAny_bind (wpAny_attempt (wpAny_callSpecial?_slot (name := Str.ofString "__next__") hT F.slot_zip_next (wpAny_call_entry F.slot_zip_next hT F.entry_zip_next (szEnd hh S D1 D2 hz hI hO t1 t2 fun h' tk e k he => ?_) (F.args_zip_next_1 _))))
    refine wpAny_bind (wpAny_isInstance (T := "StopIteration") (b := true) he isSubtype_stop (wpAny_pure ?_))
    exact (hQ _ _ fun c o hc e => szMem (P := fun c => s.heap.get? c = some o → h'.get? c = some o) hc (fun n1 n2 n3 n4 e => k c o n1 n2 n3 n4 e) e)
  self := fun i s Q E ⟨hz, _⟩ hQ => szIter hz hQ
end
end DL

/-! text DLY5 -/
set_option Elab.async false
set_option linter.all false
set_option maxRecDepth 100000
namespace DL
open PySem PySem.Spec
open L2

/-! ### the turns of zip -/
def skPair (S1 S2 : Sk) (i : Nat) (vs : List V) : Prop := ∃ x y, vs = [x, y] ∧ S1.at_ i x ∧ S2.at_ i y
def zipFp (N : Nat) : List Addr := [N + 4, N + 2, N + 3, N, N + 1]
theorem pairVals {S1 S2 : Sk} {i : Nat} {P1 P2 : Nat → Value → Prop} {vals : Array Value} (k1 : ∀ u, P1 i u → ∃ v, S1.at_ i v ∧ RelV v u) (k2 : ∀ u, P2 i u → ∃ v, S2.at_ i v ∧ RelV v u) (h : ∃ x1 x2, P1 i x1 ∧ P2 i x2 ∧ vals = #[x1, x2]) :
    ∃ vs, skPair S1 S2 i vs ∧ Vals vs vals.toList ∧ vs.length ≤ sizeLine := by
  obtain ⟨x1, x2, p1, p2, rfl⟩ := h
  obtain ⟨v1, a1, r1⟩ := k1 _ p1
  obtain ⟨v2, a2, r2⟩ := k2 _ p2
  exact ⟨[v1, v2], ⟨v1, v2, rfl, a1, a2⟩, .cons r1 (.cons r2 .nil), by show 2 ≤ sizeLine; decide⟩
theorem sepOf {X : Cx} {pins : List (Addr × Obj)} {H : Hp} {N : Nat} {fp1 fp2 : List Addr} (hf : ∀ b ∈ zipFp N, FpOk X pins H b) (m1 : N ∈ fp1) (m2 : N + 1 ∈ fp2) (k1 : ∀ b, FpOk X pins H b → b ≠ N → b ∉ fp1) (k2 : ∀ b, FpOk X pins H b → b ≠ N + 1 → b ∉ fp2) :
    ZipSep2 (N + 4) (N + 2) (N + 3) N (N + 1) fp1 fp2 where
  TIz := show (N + 2 : Nat) ≠ N + 4 by omega
  TOz := show (N + 3 : Nat) ≠ N + 4 by omega
  TITO := show (N + 2 : Nat) ≠ N + 3 by omega
  TIi1 := show (N + 2 : Nat) ≠ N by omega
  mem1 := m1
  zf1 := k1 _ (hf _ (by simp [zipFp])) (show (N + 4 : Nat) ≠ N by omega)
  Tf1 := k1 _ (hf _ (by simp [zipFp])) (show (N + 3 : Nat) ≠ N by omega)
  TIi2 := show (N + 2 : Nat) ≠ N + 1 by omega
  mem2 := m2
  zf2 := k2 _ (hf _ (by simp [zipFp])) (show (N + 4 : Nat) ≠ N + 1 by omega)
  Tf2 := k2 _ (hf _ (by simp [zipFp])) (show (N + 3 : Nat) ≠ N + 1 by omega)
  sep1_2 := k2 _ (hf _ (by simp [zipFp])) (show (N : Nat) ≠ N + 1 by omega)
  sep2_1 := k1 _ (hf _ (by simp [zipFp])) (show (N + 1 : Nat) ≠ N by omega)
theorem wrIn {N : Nat} {b : Addr} (h : b ∈ [N + 4, N + 3, N, N + 1]) : b ∈ zipFp N := by
  simp only [List.mem_cons, List.not_mem_nil, or_false] at h
  rcases h with e | e | e | e <;> simp [zipFp, e]
section
variable {P : Program} {w : World} {K : PySem.W.Frag} {elts : List Expr} {kk : Nat} {tpos : Pos}
def tnZ (S1 S2 : Sk) (N : Nat) (Z : Heap → Prop) : Nat → Heap → Prop := fun i h => Z h ∧ IsTupOf2 h (N + 2) (.ref N) (.ref (N + 1)) ∧ (∃ a1 a2, IsTupOf2 h (N + 3) a1 a2) ∧ S1.core N i h ∧ S2.core (N + 1) i h
theorem tnZ_obj {S1 S2 : Sk} {N : Nat} {Z : Heap → Prop} (hZ : ∀ h, Z h → ∃ o, h.get? (N + 4) = some o ∧ ∀ v, o.data ≠ .cell v) (i : Nat) (h : Heap) (t : tnZ S1 S2 N Z i h) (b : Addr) (hb : b ∈ zipFp N) : ∃ o, h.get? b = some o ∧ ∀ v, o.data ≠ .cell v := by
  obtain ⟨z, hI, ⟨a1, a2, hO⟩, c1, c2⟩ := t
  simp only [zipFp, List.mem_cons, List.not_mem_nil, or_false] at hb
  rcases hb with e | e | e | e | e
  · rw [e]; exact hZ h z
  · rw [e]; exact ⟨_, hI, fun v q => nomatch q⟩
  · rw [e]; exact ⟨_, hO, fun v q => nomatch q⟩
  · rw [e]; exact Sk.core_obj c1
  · rw [e]; exact Sk.core_obj c2
theorem tnZ_keep {S1 S2 : Sk} {N : Nat} {Z : Heap → Prop} (hZ : ∀ h h', Z h → (∀ o, h.get? (N + 4) = some o → h'.get? (N + 4) = some o) → Z h') (i : Nat) (h h' : Heap) (t : tnZ S1 S2 N Z i h) (k : ∀ b ∈ zipFp N, ∀ o, h.get? b = some o → h'.get? b = some o) : tnZ S1 S2 N Z i h' := by
  obtain ⟨z, hI, ⟨a1, a2, hO⟩, c1, c2⟩ := t
  exact ⟨hZ h h' z (k _ (by simp [zipFp])), k _ (by simp [zipFp]) _ hI, ⟨a1, a2, k _ (by simp [zipFp]) _ hO⟩, Sk.core_keep c1 (k _ (by simp [zipFp])), Sk.core_keep c2 (k _ (by simp [zipFp]))⟩
theorem turnZ (S1 S2 : Sk) (N : Nat) : Turn P w K (.Tuple elts kk tpos) (Jt (min S1.n S2.n) (fun H => S1.side K H ∧ S2.side K H) (skPair S1 S2)) (zipFp N) (N + 4) (tnZ S1 S2 N fun h => IsZip h (N + 4) (N + 2) (N + 3) .none) := by
  refine turn_walk (by simp [zipFp]) (tnZ_obj fun h z => ⟨_, z, fun v q => nomatch q⟩) (tnZ_keep fun h h' z k => k _ z) (fun A i s Q E t h => wpAny_pyIter_zip t.1 h) fun X hP hw hK hc pins s σ H I hf sd i t => ?_
  subst hP hw hK
  obtain ⟨z, hI, hO, c1, c2⟩ := t
  obtain ⟨fp1, P1, St1, D1, t1, b1, v1, m1, f1⟩ := S1.draws (A := X.A.in1) I (I.ok.hd hc) sd.1 (hf N (by simp [zipFp])) c1
  obtain ⟨fp2, P2, St2, D2, t2, b2, v2, m2, f2⟩ := S2.draws (A := X.A.in1) I (I.ok.hd hc) sd.2 (hf (N + 1) (by simp [zipFp])) c2
  exact ⟨_, _, _, _, _, WalksT.zipD2 (sepOf hf m1 m2 f1 f2) D1 D2, ⟨z, hI, hO, t1, t2⟩, fun b hb => wrIn hb, fun j h ⟨z, hI, hO, q1, q2⟩ => ⟨z, hI, hO, b1 _ _ q1, b2 _ _ q2⟩, fun j vals h => pairVals (v1 j) (v2 j) h⟩
theorem turnZS (S1 S2 : Sk) (hn : S1.n = S2.n) (N : Nat) : Turn P w K (.Tuple elts kk tpos) (Jt (min S1.n S2.n) (fun H => S1.side K H ∧ S2.side K H) (skPair S1 S2)) (zipFp N) (N + 4) (tnZ S1 S2 N fun h => IsZipS h (N + 4) (N + 2) (N + 3) .none) := by
  refine turn_walk (by simp [zipFp]) (tnZ_obj fun h z => ⟨_, z, fun v q => nomatch q⟩) (tnZ_keep fun h h' z k => k _ z) (fun A i s Q E t h => szIter t.1 h) fun X hP hw hK hc pins s σ H I hf sd i t => ?_
  subst hP hw hK
  obtain ⟨z, hI, hO, c1, c2⟩ := t
  obtain ⟨fp1, P1, St1, D1, t1, b1, v1, m1, f1⟩ := S1.draws (A := X.A.in1) I (I.ok.hd hc) sd.1 (hf N (by simp [zipFp])) c1
  obtain ⟨fp2, P2, St2, D2, t2, b2, v2, m2, f2⟩ := S2.draws (A := X.A.in1) I (I.ok.hd hc) sd.2 (hf (N + 1) (by simp [zipFp])) c2
  rw [← hn] at D2
  have e : min S1.n S2.n = S1.n := by omega
  rw [e]
  exact ⟨_, _, _, _, _, walkS (I.ok.hd hc) (sepOf hf m1 m2 f1 f2) D1 D2, ⟨z, hI, hO, t1, t2⟩, fun b hb => wrIn hb, fun j h ⟨z, hI, hO, q1, q2⟩ => ⟨z, hI, hO, b1 _ _ q1, b2 _ _ q2⟩, fun j vals h => pairVals (v1 j) (v2 j) h⟩
end
/-- how drawing begins -/
def Sk.obj0 (u : Value) : Sk → Obj
  | .lst _ _ => { cls := .type "list_iterator", data := .fields #[u, .int 0 0] }
  | .tup _ _ => { cls := .type "tuple_iterator", data := .fields #[u, .int 0 0] }
  | .txt x => { cls := .type (strIterType x), data := .fields #[u, .int 0 0] }
theorem Sk.begins {X : Cx} {pins : List (Addr × Obj)} {σ : L2.St} {H : Hp} {s : Shared} (I : Inv X pins σ H s) (S : Sk) (sd : S.side X.K H) {u : Value} (r : RelV S.v u) :
    ∃ Hd, Begins u (S.obj0 u) Hd ∧ Hd s.heap ∧ ∀ (it : Addr) h', h'.get? it = some (S.obj0 u) → S.core it 0 h' := by
  cases S with
  | lst a vs =>
    obtain rfl : u = .ref a := r
    obtain ⟨its, rv, p, hz⟩ := I.list sd
    exact ⟨_, begins_list a its.toArray, p.isList, fun it h' e => ⟨_, e, rfl, rfl⟩⟩
  | tup a vs =>
    obtain rfl : u = .ref a := r
    obtain ⟨its, rv, p, hz⟩ := I.tuple sd
    exact ⟨_, begins_tuple a its.toArray, p, fun it h' e => ⟨_, e, rfl, rfl⟩⟩
  | txt x =>
    obtain ⟨t, rfl⟩ := r
    exact ⟨_, begins_text x t, trivial, fun it h' e => ⟨t, _, e, rfl, rfl⟩⟩
theorem freshFp {X : Cx} {pins : List (Addr × Obj)} {σ : L2.St} {H : Hp} {s : Shared} (I : Inv X pins σ H s) : ∀ b ∈ zipFp s.heap.objs.size, FpOk X pins H b := fun b hb => by
  have hle : s.heap.objs.size ≤ b := by
    simp only [zipFp, List.mem_cons, List.not_mem_nil, or_false] at hb
    rcases hb with e | e | e | e | e
    · rw [e]; exact Nat.le_add_right _ _
    · rw [e]; exact Nat.le_add_right _ _
    · rw [e]; exact Nat.le_add_right _ _
    · rw [e]; exact Nat.le_refl _
    · rw [e]; exact Nat.le_add_right _ _
  exact I.fpOk hle (I.hok.fresh hle)
def iZ (K : PySem.W.Frag) (st : Bool) (ta : TA) : TI := fun σ H R => ta σ H fun vs H1 => ∃ S1 S2 : Sk, vs = [S1.v, S2.v] ∧ S1.side K H1 ∧ S2.side K H1 ∧ (st = true → S1.n = S2.n) ∧ R (Jt (min S1.n S2.n) (fun H => S1.side K H ∧ S2.side K H) (skPair S1 S2)) H1
theorem pi_zipN {X : Cx} {e e2 : Expr} {elts : List Expr} {kk : Nat} {ta : TA} {tpos p pos : Pos} (hm : X.mg "zip" = none) (hg : Gl X "zip") (ha : PA X [e, e2] ta)
    (hpl : (backTo pos (starEach [e2] X.env)).any (·.1) = false := by rfl) (hs : starEach [e, e2] X.env = (false, eval e X.env) :: starEach [e2] X.env := by rfl) :
    PI X (.Tuple elts kk tpos) (.Call (.Name "zip" p) [e, e2] [] pos) (iZ X.K false ta) := by
  refine ⟨fun pins s σ H R I h => PyProof.Rows.Call_ (ld_blt I hg hm PyProof.Rows.boot_zip (PyProof.Rows.callWith_type1 (thn (ha.run pos pins s σ H _ I h) fun us s1 ⟨vs, H1, I1, r1, q1⟩ => ?_) hs hpl))⟩
  obtain ⟨S1, S2, rfl, d1, d2, _, q⟩ := q1
  cases r1 with
  | cons r rr =>
    cases rr with
    | cons r' rr =>
      cases rr
      obtain ⟨_, B1, b1, k1⟩ := S1.begins I1 d1 r
      obtain ⟨_, B2, b2, k2⟩ := S2.begins I1 d2 r'
      refine zip_begins2 B1 B2 b1 b2 fun h' hz hI hO h1 h2 _ hk => wpAny_pyIter_zip hz ?_
      exact ⟨s1.heap.objs.size + 4, zipFp s1.heap.objs.size, _, _, H1, rfl, I1.kept (t' := s1.toks) hk, turnZ S1 S2 _, ⟨hz, hI, ⟨_, _, hO⟩, k1 _ _ h1, k2 _ _ h2⟩, freshFp I1, q⟩
/-- a built-in class called with keywords: its arguments, then the keywords' values -/
theorem kwType {M : Model} {A : Around} {Y : Value → Shared → Prop} {t : Shared} {env : Env} {at_ : Pos} {T : String} {e : Expr} {es : List Expr} {ks : List Keyword} {Q : Value → Shared → Prop}
    (h : wpAny M A (spliced (backTo at_ (starEach (e :: es) env))) (fun vs t₁ => wpAny M A (evalAll ((backToKw at_ (keywordEach ks env)).map (·.2))) (fun us t₂ => wpAny M A (call (.type T) vs (((backToKw at_ (keywordEach ks env)).filterMap (·.1)).zip us)) Q Y t₂) Y t₁) Y t)
    (first : backTo at_ (starEach (e :: es) env) = (false, eval e env) :: backTo at_ (starEach es env) := by rfl) (plain : (backTo at_ (starEach (e :: es) env)).any (·.1) = false := by rfl)
    (named : (backToKw at_ (keywordEach ks env)).all (·.1.isSome) = true := by rfl) (noStars : (backToKw at_ (keywordEach ks env)).any (·.1.isNone) = false := by rfl) :
    wpAny M A (callWith at_ (.type T) [] (backTo at_ (starEach (e :: es) env)) (backToKw at_ (keywordEach ks env))) Q Y t := by
  rw [first] at h plain ⊢
  have bring : ∀ {z : Value} {t₃ : Shared}, Q z t₃ → Q z t₃ := id
  unfold callWith
  refine wpAny_bind (wpAny_holding (PyProof.Rows.evalArgs_kwB named (wpAny_mono h (fun vs t₁ got => wpAny_mono got (fun us t₂ fin => wpAny_bind (wpAny_standAt ?_)) fun _ _ => id) fun _ _ => id)))
  rw [plain, noStars]
  exact wpAny_bind (wpAny_pure (wpAny_bind (wpAny_mono fin (fun z t₃ w => wpAny_bind (wpAny_holding (wpAny_point (wpAny_pure (bring w))))) fun _ _ => id)))
end DL

/-! text DLY6 -/
set_option Elab.async false
set_option linter.all false
set_option maxRecDepth 100000
namespace DL
open PySem PySem.Spec
open L2
theorem pi_zipS {X : Cx} {e e2 c : Expr} {ta : TA} {p pos tpos kp : Pos} {elts : List Expr} {kk : Nat} (hg : Gl X "zip") (hm : X.mg "zip" = none) (ha : PA X [e, e2] ta) (hk : PE X c (tC (.bl true)))
    (he : backTo pos (starEach [e, e2] X.env) = (false, eval e X.env) :: backTo pos (starEach [e2] X.env) := by rfl) (hpl : (backTo pos (starEach [e, e2] X.env)).any (·.1) = false := by rfl)
    (hall : (backToKw pos (keywordEach [⟨some "strict", c, kp⟩] X.env)).all (·.1.isSome) = true := by rfl) (hkw : (backToKw pos (keywordEach [⟨some "strict", c, kp⟩] X.env)).any (·.1.isNone) = false := by rfl)
    (hks : (backToKw pos (keywordEach [⟨some "strict", c, kp⟩] X.env)).filterMap (·.1) = [Str.ofString "strict"] := by rfl) :
    PI X (.Tuple elts kk tpos) (.Call (.Name "zip" p) [e, e2] [⟨some "strict", c, kp⟩] pos) (iZ X.K true ta) := by
  refine ⟨fun pins s σ H R I h => wpAny_Call_Name_kw (ld_blt I hg hm PyProof.Rows.boot_zip (kwType (thn (ha.run pos pins s σ H _ I h) fun us s1 ⟨vs, H1, I1, r1, q1⟩ => ?_) he hpl hall hkw))⟩
  refine thn ((pk_cons (nm := some "strict") (kpos := kp) hk pk_nil).run pos pins s1 σ H1 (fun vs' H2 => vs' = [.bl true] ∧ H2 = H1) I1 ⟨rfl, rfl⟩) fun ws s2 ⟨zs, H2, I2, r2, q2⟩ => ?_
  obtain ⟨rfl, rfl⟩ := q2
  rw [hks]
  obtain ⟨S1, S2, rfl, d1, d2, hn, q⟩ := q1
  cases r2 with
  | cons rb r2 =>
    cases r2
    cases rb
    cases r1 with
    | cons r rr =>
      cases rr with
      | cons r' rr =>
        cases rr
        obtain ⟨_, B1, b1, k1⟩ := S1.begins I2 d1 r
        obtain ⟨_, B2, b2, k2⟩ := S2.begins I2 d2 r'
        refine szBegins B1 B2 b1 b2 fun h' hz hI hO h1 h2 hk => szIter hz ?_
        exact ⟨s2.heap.objs.size + 4, zipFp s2.heap.objs.size, _, _, H2, rfl, I2.kept (t' := s2.toks) hk, turnZS S1 S2 (hn rfl) _, ⟨hz, hI, ⟨_, _, hO⟩, k1 _ _ h1, k2 _ _ h2⟩, freshFp I2, q⟩

/-! ### over data -/
theorem srcOf {g : Gd} {F : Hp} {v : V} {d : D} {ds : List D} (r : Rep g.K F v d) (e : itemsD d = some ds) : ∃ S : Sk, S.v = v ∧ S.side g.K F ∧ S.n = ds.length ∧ ∀ i x, S.at_ i x → ∃ y, ds[i]? = some y ∧ Rep g.K F x y := by
  cases r with
  | lst h rs => cases e; exact ⟨.lst _ _, rfl, .of h, rs.length, fun i x hx => rs.getV hx⟩
  | scr h =>
    rename_i a ns
    cases e
    have rr : Reps g.K F (ns.map V.int) (ns.map fun n => D.sc (.int n)) := by
      rw [show (fun n => D.sc (.int n)) = D.sc ∘ V.int from rfl, ← List.map_map]; exact Reps.scs _
    exact ⟨.lst _ _, rfl, h, rr.length, fun i x hx => rr.getV hx⟩
  | tup h rs => cases e; exact ⟨.tup _ _, rfl, h, rs.length, fun i x hx => rs.getV hx⟩
  | dic h rs => cases e
  | sc v =>
    cases v with
    | str z =>
      cases e
      refine ⟨.txt z, rfl, trivial, by show z.cps.size = _; simp, fun i x ⟨c, hc, hx⟩ => ⟨.sc (.str (sign c)), ?_, by rw [hx]; exact .sc _⟩⟩
      rw [List.getElem?_map, Array.getElem?_toList, hc]
      rfl
    | _ => cases e
theorem Sk.sub {S : Sk} {K : PySem.W.Frag} {F H : Hp} (s : Sub F H) (h : S.side K F) : S.side K H := by
  cases S with
  | lst a vs => exact Sub.sqL s h
  | tup a vs => exact Sub.sqT s h
  | txt x => trivial
theorem yieldsJt {g : Gd} {F0 : Hp} {n : Nat} {side : Hp → Prop} {At : Nat → List V → Prop} {ds : List D} (hn : ds.length = n) (hs : ∀ H, Sub F0 H → side H) (h : ∀ i vs, i < n → At i vs → ∃ es, ds[i]? = some (.tup es) ∧ Reps g.K F0 vs es) : Yields g (Jt n side At) ds F0 := fun F H s1 s2 i => by
  refine ⟨fun hi => ⟨by omega, hs H (s1.trans s2)⟩, fun hi => ⟨by omega, hs H (s1.trans s2)⟩, fun x H' d O σ δ hd hy r => ?_⟩
  obtain ⟨T, vs, rfl, hT, rfl, ha⟩ := hy
  have hi : i < n := by rw [← hn]; exact (List.getElem?_eq_some_iff.mp hd).1
  obtain ⟨es, e1, e2⟩ := h i vs hi ha
  rw [hd] at e1
  cases e1
  exact r.newT hT (e2.sub s1)
def zipD : List D → List D → List D
  | x :: xs, y :: ys => .tup [x, y] :: zipD xs ys
  | _, _ => []
theorem zipD_len : ∀ xs ys : List D, (zipD xs ys).length = min xs.length ys.length
  | [], _ => by simp [zipD]
  | x :: xs, [] => by simp [zipD]
  | x :: xs, y :: ys => by simp [zipD, zipD_len xs ys, Nat.add_min_add_right]
theorem zipD_get : ∀ {xs ys : List D} {i : Nat} {x y : D}, xs[i]? = some x → ys[i]? = some y → (zipD xs ys)[i]? = some (.tup [x, y])
  | [], _, _, _, _, w, _ => by simp at w
  | x :: xs, [], _, _, _, _, h => by simp at h
  | x :: xs, y :: ys, 0, _, _, h, h' => by
    simp at h h'
    subst h h'
    rfl
  | x :: xs, y :: ys, i + 1, _, _, h, h' => by
    simp at h h'
    show (zipD xs ys)[i]? = _
    exact zipD_get (xs := xs) (ys := ys) h h'
def dZip (st : Bool) (tA : DTA) : DTI := fun δ Q Y => tA δ (fun ws δ1 => ∃ d1 d2, pures ws = some [d1, d2] ∧ ∃ ds1, itemsD d1 = some ds1 ∧ ∃ ds2, itemsD d2 = some ds2 ∧ (st = true → ds1.length = ds2.length) ∧ Q (zipD ds1 ds2) δ1) Y
section
variable {X : Cx} {g : Gd} {Wx : WX} {e e2 c : Expr} {tA : DTA} {p pos tpos kp : Pos} {elts : List Expr} {kk : Nat} {st : Bool}
theorem dZip_mono (ha : MonoA tA) : MonoI (dZip st tA) := fun δ Q Q' Y Y' hQ hY h => ha _ _ _ _ _ (fun w δ1 ⟨d1, d2, e1, ds1, e2, ds2, e3, hn, q⟩ => ⟨d1, d2, e1, ds1, e2, ds2, e3, hn, hQ _ _ q⟩) hY h
theorem zipCan (gK : g.K = X.K) (ha : MonoA tA) (σ : L2.St) (H : Hp) (Q : It → Hp → Prop) : canI g Wx (dZip st tA) σ H Q → iZ X.K st (canA g Wx tA) σ H Q := by
  rintro ⟨F, O, δ, r, q⟩
  refine ⟨F, O, δ, r, ha _ _ _ _ _ (fun ws δ1 q vs F1 H1 O1 s1 r1 x1 => ?_) (fun _ _ z => z) q⟩
  obtain ⟨d1, d2, e1, ds1, e2, ds2, e3, hn, q⟩ := q
  have rs := pures_reps x1 e1
  rw [← gK]
  cases rs with
  | cons ra rs =>
    cases rs with
    | cons rb rs =>
      cases rs
      obtain ⟨S1, v1, sd1, n1, a1⟩ := srcOf ra e2
      obtain ⟨S2, v2, sd2, n2, a2⟩ := srcOf rb e3
      refine ⟨S1, S2, by rw [v1, v2], Sk.sub r1.sub sd1, Sk.sub r1.sub sd2, fun h => by rw [n1, n2]; exact hn h, q _ F1 H1 O1 s1 r1 (yieldsJt (by rw [zipD_len, n1, n2]) (fun H s => ⟨Sk.sub s sd1, Sk.sub s sd2⟩) fun i vs hi h => ?_)⟩
      obtain ⟨x, y, rfl, h1, h2⟩ := h
      obtain ⟨dx, g1, k1⟩ := a1 i x h1
      obtain ⟨dy, g2, k2⟩ := a2 i y h2
      exact ⟨[dx, dy], zipD_get g1 g2, .cons k1 (.cons k2 .nil)⟩
theorem di_zip (gK : g.K = X.K) (hg : Gl X "zip") (hm : X.mg "zip" = none) (ha : DA X g Wx [e, e2] tA) (hs : starEach [e, e2] X.env = (false, eval e X.env) :: starEach [e2] X.env := by rfl) (hpl : (backTo pos (starEach [e2] X.env)).any (·.1) = false := by rfl) :
    DI X g Wx (.Tuple elts kk tpos) (.Call (.Name "zip" p) [e, e2] [] pos) (dZip false tA) :=
  ⟨dZip_mono ha.mono, piMono (pi_zipN hm hg ha.pa hpl hs) (zipCan gK ha.mono)⟩
theorem di_zipS (gK : g.K = X.K) (hg : Gl X "zip") (hm : X.mg "zip" = none) (ha : DA X g Wx [e, e2] tA) (hk : PE X c (tC (.bl true)))
    (he : backTo pos (starEach [e, e2] X.env) = (false, eval e X.env) :: backTo pos (starEach [e2] X.env) := by rfl) (hpl : (backTo pos (starEach [e, e2] X.env)).any (·.1) = false := by rfl)
    (hall : (backToKw pos (keywordEach [⟨some "strict", c, kp⟩] X.env)).all (·.1.isSome) = true := by rfl) (hkw : (backToKw pos (keywordEach [⟨some "strict", c, kp⟩] X.env)).any (·.1.isNone) = false := by rfl)
    (hks : (backToKw pos (keywordEach [⟨some "strict", c, kp⟩] X.env)).filterMap (·.1) = [Str.ofString "strict"] := by rfl) :
    DI X g Wx (.Tuple elts kk tpos) (.Call (.Name "zip" p) [e, e2] [⟨some "strict", c, kp⟩] pos) (dZip true tA) :=
  ⟨dZip_mono ha.mono, piMono (pi_zipS hg hm ha.pa hk he hpl hall hkw hks) (zipCan gK ha.mono)⟩
end

/-! ### enumerate -/
def tnE (S : Sk) (k0 : Int) (N : Nat) : Nat → Heap → Prop := fun i h => (∃ old, IsEnum h (N + 1) N (k0 + (i : Int)) old) ∧ S.core N i h
theorem turnE {P : Program} {w : World} {K : PySem.W.Frag} {elts : List Expr} {kk : Nat} {tpos : Pos} (S : Sk) (k0 : Int) (N : Nat) :
    Turn P w K (.Tuple elts kk tpos) (Jt S.n (S.side K) fun i vs => ∃ x, vs = [.int (k0 + (i : Int)), x] ∧ S.at_ i x) [N + 1, N] (N + 1) (tnE S k0 N) := by
  refine turn_walk (by simp) (fun i h t b hb => ?_) (fun i h h' t k => ?_) (fun A i s Q E t h => ?_) fun X hP hw hK hc pins s σ H I hf sd i t => ?_
  · obtain ⟨⟨old, he⟩, c⟩ := t
    rw [List.mem_cons, List.mem_singleton] at hb
    rcases hb with e | e
    · rw [e]; exact ⟨_, he, fun v q => nomatch q⟩
    · rw [e]; exact Sk.core_obj c
  · obtain ⟨⟨old, he⟩, c⟩ := t
    exact ⟨⟨old, k _ (by simp) _ he⟩, Sk.core_keep c (k _ (by simp))⟩
  · obtain ⟨⟨old, he⟩, c⟩ := t
    exact wpAny_pyIter_enum he h
  · subst hP hw hK
    obtain ⟨he, c⟩ := t
    obtain ⟨fp1, P1, St1, D1, t1, b1, v1, m1, f1⟩ := S.draws (A := X.A.in1) I (I.ok.hd hc) sd (hf N (by simp)) c
    refine ⟨_, _, _, _, _, WalksT.enumFrom k0 D1 (N + 1) (show (N + 1 : Nat) ≠ N by omega) (f1 _ (hf _ (by simp)) (show (N + 1 : Nat) ≠ N by omega)) m1, ⟨he, t1⟩, fun b hb => hb, fun j h ⟨z, q⟩ => ⟨z, b1 _ _ q⟩, fun j vals h => ?_⟩
    obtain ⟨t, x, hx, rfl⟩ := h
    obtain ⟨v, a, r⟩ := v1 j x hx
    exact ⟨[.int (k0 + (j : Int)), v], ⟨v, rfl, a⟩, .cons ⟨t, rfl⟩ (.cons r .nil), by show 2 ≤ sizeLine; decide⟩

theorem enNew {v : Value} {o : Obj} {H : Heap → Prop} (B : Begins v o H) :
    Meets (Builtin.«enumerate.__new__» ⟨[.type "enumerate", v], []⟩) (fun _ R s => H s.heap ∧
      R (.ok (.ret (.ref (s.heap.push o).objs.size))) { s with heap := (s.heap.push o).push { cls := .type "enumerate", data := .fields #[.none, .bool false, .ref s.heap.objs.size, rawInt 0, .none, .none] } }) :=
  .of_wp fun prog w A R ⟨hp, g, d, tk, os⟩ ⟨beg, wish⟩ => by
    have hsub := sub_enumerate
    have fresh : ∀ {A' : Around} {Y Q : Value → Shared → Prop}, Q (.ref hp.objs.size) ⟨hp.push o, g, d, tk, os⟩ → wpAny (model prog w) A' (pyIter v) Q Y ⟨hp, g, d, tk, os⟩ := B.iter prog w _ _ ⟨hp, g, d, tk, os⟩ _ beg
    wp_walk using fresh
    refine wpAny_stack_any fun st => wpAny_pure (?_ : _)
    split
    · next c _ _ _ _ _ =>
      cases (c == Value.type "enumerate") <;> (wp_walk using fresh; exact ⟨_, rfl, wish⟩)
    · wp_walk using fresh
      exact ⟨_, rfl, wish⟩

theorem enBegins {prog : Program} {w : World} {A : Around} {E : Value → Shared → Prop} {s : Shared} {v : Value} {o : Obj} {H : Heap → Prop} {Q : Value → Shared → Prop} (B : Begins v o H) (h1 : H s.heap)
    (h : ∀ h', IsEnum h' (s.heap.objs.size + 1) s.heap.objs.size 0 .none → h'.get? s.heap.objs.size = some o → (∀ b o, s.heap.get? b = some o → h'.get? b = some o) → Q (.ref (s.heap.objs.size + 1)) { s with heap := h' }) :
    wpAny (model prog w) A (call (.type "enumerate") [v]) Q E s := by
  refine callType_new F.called_enumerate (by decide) (F.typeCall_enumerate_1 _) (F.newCall_enumerate_1 _) (fun obj => F.args_object_init_2 obj _) F.entry_enumerate_new (enNew B) ⟨h1, ?_⟩
  have hz : (s.heap.push o).objs.size = s.heap.objs.size + 1 := Heap.size_push s.heap o
  have he := Heap.get?_push_size (s.heap.push o) (o := { cls := .type "enumerate", data := .fields #[.none, .bool false, .ref s.heap.objs.size, rawInt 0, .none, .none] }) rfl
  show _ ∧ _
  rw [hz] at he ⊢
  exact ⟨⟨_, he, rfl⟩, h _ he (Heap.get?_push_of_some _ (Heap.get?_push_size _ B.free)) fun b o x => Heap.get?_push_of_some _ (Heap.get?_push_of_some _ x)⟩

abbrev enAt (S : Sk) (k0 : Int) : Nat → List V → Prop := fun i vs => ∃ x, vs = [.int (k0 + (i : Int)), x] ∧ S.at_ i x
def iE (K : PySem.W.Frag) (ta : TA) : TI := fun σ H R => ta σ H fun vs H1 => ∃ S : Sk, vs = [S.v] ∧ S.side K H1 ∧ R (Jt S.n (S.side K) (enAt S 0)) H1
theorem pi_en {X : Cx} {e : Expr} {ta : TA} {p pos tpos : Pos} {elts : List Expr} {kk : Nat} (hg : Gl X "enumerate") (hm : X.mg "enumerate" = none) (ha : PA X [e] ta) (hs : starEach [e] X.env = [(false, eval e X.env)] := by rfl) :
    PI X (.Tuple elts kk tpos) (.Call (.Name "enumerate" p) [e] [] pos) (iE X.K ta) := by
  refine ⟨fun pins s σ H R I h => PyProof.Rows.Call_ (ld_blt I hg hm PyProof.Rows.boot_enumerate (PyProof.Rows.callWith_type1 (thn (ha.run pos pins s σ H _ I h) fun us s1 ⟨vs, H1, I1, r1, q1⟩ => ?_) hs rfl))⟩
  obtain ⟨S, rfl, sd, q⟩ := q1
  cases r1 with
  | cons r rr =>
    cases rr
    obtain ⟨_, B, b, k⟩ := S.begins I1 sd r
    refine enBegins B b fun h' he h1 hk => wpAny_pyIter_enum he ?_
    refine ⟨s1.heap.objs.size + 1, [s1.heap.objs.size + 1, s1.heap.objs.size], _, _, H1, rfl, I1.kept (t' := s1.toks) hk, turnE S 0 _, ⟨⟨_, by simpa using he⟩, k _ _ h1⟩, fun b hb => ?_, q⟩
    refine freshFp I1 b ?_
    rw [List.mem_cons, List.mem_singleton] at hb
    rcases hb with e | e <;> simp [zipFp, e]
def enD : Nat → List D → List D
  | _, [] => []
  | k, d :: ds => .tup [.sc (.int (k : Nat)), d] :: enD (k + 1) ds
theorem enD_len : ∀ k ds, (enD k ds).length = ds.length
  | _, [] => rfl
  | k, d :: ds => by simp [enD, enD_len (k + 1) ds]
theorem enD_get : ∀ {k : Nat} {ds : List D} {i : Nat} {d : D}, ds[i]? = some d → (enD k ds)[i]? = some (.tup [.sc (.int ((k + i : Nat) : Int)), d])
  | k, [], i, d, h => by simp at h
  | k, x :: ds, 0, d, h => by
    simp at h
    subst h
    rfl
  | k, x :: ds, i + 1, d, h => by
    simp at h
    show (enD (k + 1) ds)[i]? = _
    rw [enD_get (k := k + 1) (ds := ds) h, show k + 1 + i = k + (i + 1) by omega]
def dEnum (tA : DTA) : DTI := fun δ Q Y => tA δ (fun ws δ1 => ∃ d, pures ws = some [d] ∧ ∃ ds, itemsD d = some ds ∧ Q (enD 0 ds) δ1) Y
theorem di_en {X : Cx} {g : Gd} {Wx : WX} {e : Expr} {tA : DTA} {p pos tpos : Pos} {elts : List Expr} {kk : Nat} (gK : g.K = X.K) (hg : Gl X "enumerate") (hm : X.mg "enumerate" = none) (ha : DA X g Wx [e] tA) (hs : starEach [e] X.env = [(false, eval e X.env)] := by rfl) :
    DI X g Wx (.Tuple elts kk tpos) (.Call (.Name "enumerate" p) [e] [] pos) (dEnum tA) := by
  refine ⟨fun δ Q Q' Y Y' hQ hY h => ha.mono _ _ _ _ _ (fun w δ1 ⟨d, e1, ds, e2, q⟩ => ⟨d, e1, ds, e2, hQ _ _ q⟩) hY h, piMono (pi_en hg hm ha.pa hs) ?_⟩
  rintro σ H Q ⟨F, O, δ, r, q⟩
  refine ⟨F, O, δ, r, ha.mono _ _ _ _ _ (fun ws δ1 q vs F1 H1 O1 s1 r1 x1 => ?_) (fun _ _ z => z) q⟩
  obtain ⟨d, e1, ds, e2, q⟩ := q
  have rs := pures_reps x1 e1
  rw [← gK]
  cases rs with
  | cons ra rs =>
    cases rs
    obtain ⟨S, v1, sd, n1, a1⟩ := srcOf ra e2
    refine ⟨S, by rw [v1], Sk.sub r1.sub sd, q _ F1 H1 O1 s1 r1 (yieldsJt (by rw [enD_len, n1]) (fun H s => Sk.sub s sd) fun i vs hi h => ?_)⟩
    obtain ⟨x, rfl, h1⟩ := h
    obtain ⟨dx, g1, k1⟩ := a1 i x h1
    refine ⟨_, enD_get g1, .cons ?_ (.cons k1 .nil)⟩
    simp only [Nat.zero_add, Int.zero_add]
    exact .sc _
end DL

/-! text DLI -/
set_option Elab.async false
set_option linter.all false
set_option maxRecDepth 100000
namespace DL
open PySem PySem.Spec L2

/-! ### objects of one's own, changed in place -/
def getM (δ : DS) : Wv → Option M
  | .pl i => match δ.sl[i]? with
    | some (some (.ow m)) => some m
    | some (some (.io k)) => match δ.an[k]? with
      | some (.ow m) => some m
      | _ => none
    | _ => none
  | .io k => match δ.an[k]? with
    | some (.ow m) => some m
    | _ => none
  | _ => none
def setM (δ : DS) (w : Wv) (m : M) : DS := match w with
  | .pl i => match δ.sl[i]? with
    | some (some (.io k)) => ⟨δ.sl, δ.an.set k (.ow m)⟩
    | _ => δ.put i (some (.ow m))
  | .io k => ⟨δ.sl, δ.an.set k (.ow m)⟩
  | _ => δ
section
variable {g : Gd} {F H H0 : Hp} {O O0 : Own} {σ : L2.St} {δ : DS} {v : V} {w : Wv} {m : M}
theorem own_nt {K : PySem.W.Frag} {F H : Hp} {a : Addr} {o : HO} {m : M} (x : OwnM K F (upd H a o) a m) : ∀ ps, o ≠ .tbl ps := by
  obtain ⟨u, e, t⟩ := x.there
  rw [upd_same] at e
  cases e
  exact t
/-- the object at a, owned by p, gets another content -/
theorem R.change (r : R g F H O σ δ) {a : Addr} {p : Owner} {o' : HO} {δ2 : DS} {m0 : M} (hm0 : OwnM g.K F H a m0) (ha : O a = some p) (hn : δ2.sl.length = δ.sl.length) (nt : ∀ ps, o' ≠ .tbl ps)
    (h1 : ∀ i w, δ2.sl[i]? = some (some w) → (δ.sl[i]? = some (some w) ∧ p ≠ .inl i) ∨ (p = .inl i ∧ ∃ m v, w = .ow m ∧ σ[i]? = some (some v) ∧ v = .ref a ∧ OwnM g.K F (upd H a o') a m))
    (h2 : ∀ i w, δ2.an[i]? = some w → (δ.an[i]? = some w ∧ p ≠ .inr i) ∨ (p = .inr i ∧ ∃ m v, w = .ow m ∧ g.A[i]? = some v ∧ v = .ref a ∧ OwnM g.K F (upd H a o') a m)) :
    R g F (upd H a o') O σ δ2 ∧ Step F H O F (upd H a o') O := by
  obtain ⟨ha1, ha2⟩ := r.inh a (by rw [ha]; intro z; cases z)
  have sub : Sub F (upd H a o') := fun b u e => by
    rw [upd_ne (fun z => by rw [z, ha2] at e; cases e)]
    exact r.sub b u e
  have oth : ∀ {q : Owner} {v : V} {m : M}, q ≠ p → Hold g.K F H O q v m → Hold g.K F (upd H a o') O q v m := fun hq ⟨b, e1, e2, x⟩ => ⟨b, e1, e2, x.sub (Sub.refl _) fun o h _ => by
    rw [upd_ne (fun z => by rw [z, ha] at e2; cases e2; exact hq rfl)]
    exact h⟩
  refine ⟨⟨sub, fun i w h => ?_, fun i w h => ?_, fun b hb => ?_, r.ntb, ?_, by rw [hn]; exact r.len⟩, ⟨Sub.refl _, fun b u h n _ => ?_, fun b h => ?_, fun b h => .inl h, fun b h => .inl h⟩⟩
  · rcases h1 i w h with ⟨h, hp⟩ | ⟨rfl, m, v, rfl, hv, rfl, x⟩
    · obtain ⟨v, e1, e2⟩ := r.sl i w h
      refine ⟨v, e1, ?_⟩
      cases w with
      | ow m => exact oth (Ne.symm hp) e2
      | _ => exact e2
    · exact ⟨_, hv, a, rfl, ha, x⟩
  · rcases h2 i w h with ⟨h, hp⟩ | ⟨rfl, m, v, rfl, hv, rfl, x⟩
    · obtain ⟨v, e1, e2⟩ := r.an i w h
      refine ⟨v, e1, ?_⟩
      cases w with
      | ow m => exact oth (Ne.symm hp) e2
      | _ => exact e2
    · exact ⟨_, hv, a, rfl, ha, x⟩
  · obtain ⟨q1, q2⟩ := r.inh b hb
    exact ⟨q1.upd nt, q2⟩
  · have neT : ∀ {b : Addr} {u : HO}, H b = some u → (∃ ps, u = .tbl ps) ∨ (∃ c q, u = LamX.CodeO c q) → b ≠ a := fun hb hu z => by
      subst z
      cases m0 with
      | lst xs => obtain ⟨vs, h, _⟩ := hm0; rw [hb] at h; cases h; rcases hu with ⟨ps, e⟩ | ⟨c, q, e⟩ <;> cases e
      | dic xs => obtain ⟨vs, h, _⟩ := hm0; rw [hb] at h; cases h; rcases hu with ⟨ps, e⟩ | ⟨c, q, e⟩ <;> cases e
    intro x hx
    obtain ⟨ps, q1, q2, q3⟩ := r.tab x hx
    refine ⟨ps, by rw [upd_ne (neT q1 (.inl ⟨_, rfl⟩))]; exact q1, q2, fun pos cv hc => ?_⟩
    obtain ⟨c, e1, e2⟩ := q3 pos cv hc
    exact ⟨c, e1, by rw [upd_ne (neT e2 (.inr ⟨_, _, rfl⟩))]; exact e2⟩
  · rw [upd_ne (fun z => by rw [z, ha] at n; cases n)]
    exact h
  · exact h.upd nt

theorem R.place (r : R g F H O σ δ) (x : VR g F H O H0 O0 σ v w) (e : getM δ w = some m) : ∃ a p, v = .ref a ∧ O a = some p ∧ OwnM g.K F H a m ∧
    ∀ o' m', OwnM g.K F (upd H a o') a m' → R g F (upd H a o') O σ (setM δ w m') ∧ Step F H O F (upd H a o') O := by
  have atIo : ∀ {k : Nat} {wm : M}, δ.an[k]? = some (.ow wm) → g.A[k]? = some v → ∃ a p, v = .ref a ∧ O a = some p ∧ OwnM g.K F H a wm ∧ ∀ o' m', OwnM g.K F (upd H a o') a m' → R g F (upd H a o') O σ ⟨δ.sl, δ.an.set k (.ow m')⟩ ∧ Step F H O F (upd H a o') O := fun {k wm} hk hv => by
    obtain ⟨v2, e1, a, rfl, ho, y⟩ := r.an k _ hk
    rw [hv] at e1
    cases e1
    refine ⟨a, .inr k, rfl, ho, y, fun o' m' y' => r.change y ho rfl (own_nt y') (fun i w h => .inl ⟨h, fun z => by cases z⟩) fun i w h => ?_⟩
    by_cases hi : i = k
    · subst hi
      rw [List.getElem?_set_self (List.getElem?_eq_some_iff.mp hk).1] at h
      cases h
      exact .inr ⟨rfl, m', _, rfl, hv, rfl, y'⟩
    · rw [List.getElem?_set_ne (Ne.symm hi)] at h
      exact .inl ⟨h, fun z => hi (Sum.inr.inj z).symm⟩
  cases w with
  | pu d => cases e
  | ow m => cases e
  | io k =>
    dsimp only [getM] at e
    cases h : δ.an[k]? with
    | none => simp only [h] at e; cases e
    | some w =>
      cases w with
      | ow m2 => simp only [h] at e; cases e; exact atIo h x
      | _ => simp only [h] at e; cases e
  | pl i =>
    have x : σ[i]? = some (some v) := x
    dsimp only [getM] at e
    cases h : δ.sl[i]? with
    | none => simp only [h] at e; cases e
    | some o =>
    cases o with
    | none => simp only [h] at e; cases e
    | some w =>
    obtain ⟨v2, q1, q2⟩ := r.sl i w h
    rw [x] at q1
    cases q1
    cases w with
    | pu d => simp only [h] at e; cases e
    | pl j => exact q2.elim
    | io k =>
      simp only [h] at e
      cases h2 : δ.an[k]? with
      | none => simp only [h2] at e; cases e
      | some w2 =>
        cases w2 with
        | ow m2 =>
          simp only [h2] at e
          cases e
          have := atIo h2 q2
          simpa only [setM, h] using this
        | _ => simp only [h2] at e; cases e
    | ow m2 =>
      simp only [h] at e
      cases e
      obtain ⟨a, rfl, ho, y⟩ := q2
      refine ⟨a, .inl i, rfl, ho, y, fun o' m' y' => ?_⟩
      have es : setM δ (.pl i) m' = δ.put i (some (.ow m')) := by simp only [setM, h]
      rw [es]
      refine r.change y ho (by simp [DS.put]) (own_nt y') (fun j w hj => ?_) fun j w hj => .inl ⟨hj, fun z => by cases z⟩
      simp only [DS.put] at hj
      by_cases hji : j = i
      · subst hji
        rw [List.getElem?_set_self (List.getElem?_eq_some_iff.mp h).1] at hj
        cases hj
        exact .inr ⟨rfl, m', _, rfl, x, rfl, y'⟩
      · rw [List.getElem?_set_ne (Ne.symm hji)] at hj
        exact .inl ⟨hj, fun z => hji (Sum.inl.inj z).symm⟩
/-- what stands at a place does not depend on what is laid -/
theorem getM_io (δ : DS) (w : Wv) : ∀ m, getM δ w = some m → ∃ k, (w = .pl k ∨ w = .io k) := by
  intro m h
  cases w with
  | pl i => exact ⟨i, .inl rfl⟩
  | io k => exact ⟨k, .inr rfl⟩
  | _ => cases h

/-! ### o.m(e, ..) of a list of one's own -/
abbrev PL := List D → List D → (D → List D → Prop) → Prop
structure PrL (g : Gd) (r : V → List V → Hp → VK → Prop) (p : PL) : Prop where
  mono : ∀ xs ds Q Q', (∀ d ys, Q d ys → Q' d ys) → p xs ds Q → p xs ds Q'
  ok : ∀ {F H : Hp} {a : Addr} {vs us : List V} {xs ds : List D} {Q : VK} {Qd : D → List D → Prop}, H a = some (.lst vs) → Reps g.K F vs xs → Reps g.K F us ds → p xs ds Qd →
    (∀ z vs' d xs', Rep g.K F z d → Reps g.K F vs' xs' → Qd d xs' → Q z (upd H a (.lst vs'))) → r (.ref a) us H Q
end
section
variable {X : Cx} {g : Gd} {Wx : WX} {e a b c : Expr} {es : List Expr} {ta tb tc : DTE} {tA : DTA} {pos : Pos}
def dMi (p : PL) (ta : DTE) (tA : DTA) : DTE := fun δ Q Y => ta δ (fun x δ1 => (∃ ys, getM δ1 x = some (.lst ys)) ∧ tA δ1 (fun ws δ2 => ∃ xs, getM δ2 x = some (.lst xs) ∧ ∃ ds, pures ws = some ds ∧ p xs ds fun d xs' => Q (.pu d) (setM δ2 x (.lst xs'))) Y) Y
theorem dMi_mono {p : PL} (hp : ∀ xs ds Q Q', (∀ d ys, Q d ys → Q' d ys) → p xs ds Q → p xs ds Q') (ha : MonoE ta) (hA : MonoA tA) : MonoE (dMi p ta tA) := fun δ Q Q' Y Y' hQ hY h =>
  ha _ _ _ _ _ (fun x δ1 ⟨z, h⟩ => ⟨z, hA _ _ _ _ _ (fun ws δ2 ⟨xs, e1, ds, e2, h⟩ => ⟨xs, e1, ds, e2, hp _ _ _ _ (fun d ys => hQ _ _) h⟩) hY h⟩) hY h
theorem miCan {r : V → List V → Hp → VK → Prop} {p : PL} (pr : PrL g r p) (gK : g.K = X.K) (ha : MonoE ta) (hA : MonoA tA) (σ : L2.St) (H : Hp) (Q : VK) :
    canE g Wx (dMi p ta tA) σ H Q → tBM X.K "list" r (canE g Wx ta) (canA g Wx tA) σ H Q := by
  rintro ⟨F, O, δ, r0, q⟩
  refine ⟨F, O, δ, r0, ha _ _ _ _ _ (fun x δ1 q v F1 H1 O1 s1 r1 x1 => ?_) (fun _ _ z => z) q⟩
  obtain ⟨⟨ys, ey⟩, q⟩ := q
  obtain ⟨a0, p0, rfl, _, y0, _⟩ := r1.place x1 ey
  obtain ⟨us, hu, _⟩ := y0
  refine ⟨.inl ⟨rfl, us, .of hu⟩, F1, O1, δ1, r1, hA _ _ _ _ _ (fun ws δ2 q vs F2 H2 O2 s2 r2 x2 => ?_) (fun c δ z => z.step s1) q⟩
  obtain ⟨xs, e1, ds, e2, q⟩ := q
  obtain ⟨a1, p1, e3, _, ⟨us1, hu1, ru1⟩, up⟩ := r2.place (x1.step s2) e1
  cases e3
  refine pr.ok hu1 ru1 (pures_reps x2 e2) q fun z vs' d xs' rz rx qd => ?_
  obtain ⟨r3, s3⟩ := up (.lst vs') (.lst xs') ⟨vs', upd_same, rx⟩
  exact qd z F2 _ O2 ((s1.trans s2).trans s3) r3 rz
theorem de_mi {r : V → List V → Hp → VK → Prop} {p : PL} (hp : PE X e (tBM X.K "list" r (canE g Wx ta) (canA g Wx tA))) (pr : PrL g r p) (gK : g.K = X.K) (ha : DE X g Wx a ta) (hA : DA X g Wx es tA) : DE X g Wx e (dMi p ta tA) :=
  ⟨dMi_mono pr.mono ha.mono hA.mono, peMono hp (miCan pr gK ha.mono hA.mono)⟩
def appP : PL := fun xs ds Q => ∃ d, ds = [d] ∧ xs.length < sizeLine ∧ Q (.sc .non) (xs ++ [d])
theorem pr_app : PrL g rAppend appP := by
  refine ⟨fun xs ds Q Q' h ⟨d, e, z, q⟩ => ⟨d, e, z, h _ _ q⟩, fun {F H a vs us xs ds Q Qd} ha rv ru hp k => ?_⟩
  obtain ⟨d, rfl, z, q⟩ := hp
  cases ru with
  | cons r1 r2 =>
    cases r2
    exact ⟨a, vs, _, rfl, rfl, ha, by rw [rv.length]; exact z, k _ _ _ _ (.sc _) (rv.append (.one r1)) q⟩
def insP : PL := fun xs ds Q => ∃ i d, ds = [.sc (.int i), d] ∧ xs.length < sizeLine ∧ 0 ≤ i ∧ i < 2 ^ 63 ∧ Q (.sc .non) (xs.take i.toNat ++ [d] ++ xs.drop i.toNat)
theorem pr_ins : PrL g (fun x vs H Q => ∃ (l : Addr) (xs : List V) (i : Int) (y : V), x = .ref l ∧ vs = [.int i, y] ∧ H l = some (.lst xs) ∧ xs.length < sizeLine ∧ 0 ≤ i ∧ i < 2 ^ 63 ∧
    Q .non (upd H l (.lst (xs.take i.toNat ++ [y] ++ xs.drop i.toNat)))) insP := by
  refine ⟨fun xs ds Q Q' h ⟨i, d, e, z, z1, z2, q⟩ => ⟨i, d, e, z, z1, z2, h _ _ q⟩, fun {F H a vs us xs ds Q Qd} ha rv ru hp k => ?_⟩
  obtain ⟨i, d, rfl, z, z1, z2, q⟩ := hp
  cases ru with
  | cons r1 r2 =>
    cases r1
    cases r2 with
    | cons r2 r3 =>
      cases r3
      exact ⟨a, vs, i, _, rfl, rfl, ha, by rw [rv.length]; exact z, z1, z2, k _ _ _ _ (.sc _) (((rv.take _).append (.one r2)).append (rv.drop _)) q⟩

/-! ### xs[i] = v of a list of one's own -/
def dgSet (to ti : DTE) : DTG := fun d δ Q => to δ (fun x δ1 => ti δ1 (fun y δ2 => ∃ xs, getM δ2 x = some (.lst xs) ∧ ∃ k, val δ2 y = some (.sc (.int k)) ∧ ∃ j, ixN xs.length k = some j ∧ Q (setM δ2 x (.lst (xs.set j d)))) fun _ _ => False) fun _ _ => False
theorem dg_set {o i : Expr} {to ti : DTE} (ho : DE X g Wx o to) (hi : DE X g Wx i ti)
    (ha : ∀ v, assign (.Subscript o i pos) X.env v = (do
      let ov ← holding [v] (eval o X.env)
      let iv ← holding [v, ov] (eval i X.env)
      standAt pos
      holding [v, ov, iv] (setItem ov iv v)
      release [v, ov, iv] []) := by intro _; rfl) : DG X g (.Subscript o i pos) (dgSet to ti) [] := by
  refine ⟨fun d δ Q Q' h q => ho.mono _ _ _ _ _ (fun x δ1 q => hi.mono _ _ _ _ _ (fun y δ2 ⟨xs, e1, k, e2, j, e3, q⟩ => ⟨xs, e1, k, e2, j, e3, h _ q⟩) (fun _ _ z => z) q) (fun _ _ z => z) q, pgMono (pg_sub ho.pe hi.pe set_list ha) ?_⟩
  rintro v σ H Q ⟨F, O, δ, d, r, rd, q⟩
  refine ⟨F, O, δ, r, ho.mono _ _ _ _ _ (fun x δ1 q v1 F1 H1 O1 s1 r1 x1 => ?_) (fun _ _ z => z.elim) q⟩
  refine ⟨F1, O1, δ1, r1, hi.mono _ _ _ _ _ (fun y δ2 q v2 F2 H2 O2 s2 r2 x2 => ?_) (fun _ _ z => z.elim) q⟩
  obtain ⟨xs, e1, k, e2, j, e3, q⟩ := q
  obtain ⟨a1, p1, rfl, _, ⟨us1, hu1, ru1⟩, up⟩ := r2.place (x1.step s2) e1
  have hk : v2 = .int k := r2.cont x2 e2
  have rd2 := (rd.sub s1.ff).sub s2.ff
  have rs : Reps g.K F2 (us1.set j v) (xs.set j d) := Reps.set rd2 j ru1
  obtain ⟨r3, s3⟩ := up (.lst (us1.set j v)) (.lst (xs.set j d)) ⟨_, upd_same, rs⟩
  exact ⟨a1, us1, k, j, rfl, hk, hu1, by rw [ru1.length]; exact e3, q F2 _ O2 σ ((s1.trans s2).trans s3) r3 rfl fun _ _ => rfl⟩
end
end DL

/-! text DLT -/
set_option Elab.async false
set_option linter.all false
set_option maxRecDepth 100000
namespace DL
open PySem PySem.Spec
open PyProof.Rows L2
/-! ### clauses 'except x as n' behind each other: each caught exception is of one of them -/
/-- a suite's reading: of the exception's address, its class, its dict -/
abbrev SuT := Addr → Value → Option Addr → TS
/-- behind the suite the name is gone -/
def goneAt (D : Ends) (i : Nat) : Ends where
  nx := fun σ H => D.nx (σ.set i none) H
  rt := D.rt
  bk := fun σ H => D.bk (σ.set i none) H
  ct := fun σ H => D.ct (σ.set i none) H
def wNamed (K : PySem.W.Frag) (i : Nat) (D : Ends) : List (Value × SuT) → WX
  | [], _, _, _, _ => False
  | (c, ts) :: l, cls, d, σ, H => ∃ b, PySem.W.exmOne K cls c = some b ∧ (b = true → ∀ a, H a = none → ts a cls d (goneAt D i) (σ.set i (some (.ref a))) H) ∧ (b = false → wNamed K i D l cls d σ H)
/-- a suite that reads so in the state of the caught exception -/
def Suite (X : Cx) (ss : List Stmt) (ts : SuT) : Prop := ∀ (a : Addr) (o : Obj) (cls : Value) (d : Option Addr) (pn : List (Addr × Obj)), Zc cls d o → (∃ us, o.data = .fields us) → PSs (X.suite a ((a, o) :: pn)) ss (ts a cls d)
inductive Named (X : Cx) (n : Str) : List ExceptHandler → List (Value × SuT) → Prop
  | nil : Named X n [] []
  | cons {x : Str} {c : Value} {ts : SuT} {b : Stmt} {ss : List Stmt} {p q : Pos} {hds : List ExceptHandler} {l : List (Value × SuT)} (name : Names X x c) (suite : Suite X (b :: ss) ts) (rest : Named X n hds l) :
      Named X n (.ExceptHandler (some (.Name x p)) (some n) (b :: ss) q :: hds) ((c, ts) :: l)
/-- the exception at a has landed in X's def: t is the state, sI the one without it -/
structure Landed (X : Cx) (pins : List (Addr × Obj)) (σ : L2.St) (H : Hp) (B : Heap) (a : Addr) (cls : Value) (d : Option Addr) (sI t : Shared) : Prop where
  inv : Inv X pins σ H sI
  old : ∀ b o, sI.heap.get? b = some o → b ∉ frs X.stack → B.get? b = some o
  up : sI.heap.UpToSlots t.heap
  fly : HandSPX.FlyingZ B X.stack a (Zc cls d) t.heap
  new : H a = none
  os : t.os = sI.os
  bare : AllBare t.gens
namespace Landed
variable {X : Cx} {pins : List (Addr × Obj)} {σ : L2.St} {H : Hp} {B : Heap} {a : Addr} {cls : Value} {d : Option Addr} {sI t : Shared}
theorem now (x : Landed X pins σ H B a cls d sI t) : Inv X pins σ H t := x.inv.landed x.old x.fly.1 x.up x.os x.bare
theorem noFrame (x : Landed X pins σ H B a cls d sI t) : a ∉ frs X.stack := fun m => by
  obtain ⟨o, us, e, -, du⟩ := x.fly.there
  obtain ⟨-, o2, e2, nf⟩ := x.fly.2.2.1.mem m
  cases e.symm.trans e2
  exact nf us du
/-- the state in which a suite begins -/
theorem enter (x : Landed X pins σ H B a cls d sI t) (hs : X.stack = X.env :: X.outer) (hf : X.env.frame = some X.env.locals) :
    ∃ o, Zc cls d o ∧ (∃ us, o.data = .fields us) ∧ Inv (X.suite a ((a, o) :: (X.pn ++ pins))) [] σ H t := by
  obtain ⟨o, us, e, z, du⟩ := x.fly.there
  have nf := x.noFrame
  rw [hs] at nf
  refine ⟨o, z, ⟨us, du⟩, x.now.suite e du x.new (fun q => nf ?_) fun m => nf ?_⟩
  · show a ∈ (X.env :: X.outer).filterMap _
    rw [List.filterMap_cons_some hf, q]
    exact List.mem_cons_self
  · show a ∈ (X.env :: X.outer).filterMap _
    rw [List.filterMap_cons_some hf]
    exact List.mem_cons_of_mem _ m
theorem again (x : Landed X pins σ H B a cls d sI t) {M : Model} {A : Around} {Q : Unit → Shared → Prop} {E : Value → Shared → Prop} (h : ∀ t2, Landed X pins σ H B a cls d sI t2 → Q () t2) : wpAny M A (setFlight (.ref a) none) Q E t :=
  HandSPX.lands_againZ x.fly fun h2 f u => h _ ⟨x.inv, x.old, x.up.trans u, f, x.new, x.os, x.bare⟩
theorem looks (x : Landed X pins σ H B a cls d sI t) {M : Model} : PySem.W.Looks M t.heap (typeOf (.ref a)) cls := by
  obtain ⟨o, us, e, z, du⟩ := x.fly.there
  intro A Q E s k q
  refine wpAny_typeOf_ref (k _ _ e) ?_
  rw [z.1]
  exact q
/-- one clause: it is asked for its class -/
theorem clause (x : Landed X pins σ H B a cls d sI t) (hs : X.stack = X.env :: X.outer) (hf : X.env.frame = some X.env.locals) {i : Nat} {y n : Str} {c : Value} {ts : SuT} {b₀ : Stmt} {ss : List Stmt} {p q : Pos} {hds : List ExceptHandler} {b : Bool} {D : Ends}
    (nd : X.N.Nodup) (hi : X.N[i]? = some n) (hn : X.env.kindOf n = some .local) (name : Names X y c) (suite : Suite X (b₀ :: ss) ts) (hb : PySem.W.exmOne X.K cls c = some b)
    (yes : b = true → ts a cls d (goneAt D i) (σ.set i (some (.ref a))) H) (no : b = false → wpAny (model X.prog X.w) X.A (handleBy (.ref a) X.env hds) (SP X pins D) X.xe t) :
    wpAny (model X.prog X.w) X.A (handleBy (.ref a) X.env (.ExceptHandler (some (.Name y p)) (some n) (b₀ :: ss) q :: hds)) (SP X pins D) X.xe t := by
  have ok := x.inv.ok
  refine wpAny_handleBy_cons (codeAny_handlers_test ?_) (fun z => nomatch z)
  obtain ⟨o, -, -, J⟩ := x.enter hs hf
  have load : ∀ {Q E : Value → Shared → Prop}, Q c t → wpAny (model X.prog X.w) (X.A.mark (some (.ref a))) (eval (.Name y p) X.env) Q E t := fun {Q E} w => match name with
    | ⟨g, db, .inl m⟩ => ld_glob (X := X.suite a ((a, o) :: (X.pn ++ pins))) J g m w db
    | ⟨g, db, .inr ⟨m, v, nn⟩⟩ => ld_blt (X := X.suite a ((a, o) :: (X.pn ++ pins))) J g m v w nn db
  refine load ((PySem.W.exm_one x.now.kIn x.looks hb).here ?_)
  cases b with
  | false => exact no rfl
  | true =>
    refine codeAny_handlers_suite_as (x.again fun t2 x2 => ?_)
    obtain ⟨o2, z2, d2, J2⟩ := x2.enter hs hf
    refine store_ok (X := X.suite a ((a, o2) :: (X.pn ++ pins))) (v := .ref a) J2 nd hi (.inl hn) rfl (fun t3 J3 => ?_) (.inr hn)
    refine wpAny_mono ((suite a o2 cls d (X.pn ++ pins) z2 d2).run [] t3 _ H _ J3 (yes rfl)) (fun f t4 => ?_) fun _ _ => False.elim
    have out : ∀ {σ4 : L2.St} {H4 : Hp} {Q : Shared → Prop}, (∀ t5, Inv X pins (σ4.set i none) H4 t5 → Q t5) → Inv (X.suite a ((a, o2) :: (X.pn ++ pins))) [] σ4 H4 t4 →
        wpAny (model X.prog X.w) X.A (do bindName X.env n .none; unbindBehindTheSuite X.env n q) (fun _ t5 => Q t5) X.xe t4 := fun w J4 => gone_ok (J4.unsuite ok) nd hi hn w
    match f with
    | .ret u => exact fun ⟨v, σ4, H4, J4, rv, w⟩ => out (fun t5 J5 => ⟨v, _, H4, J5, rv, w⟩) J4
    | .next => exact fun ⟨σ4, H4, J4, w⟩ => out (fun t5 J5 => ⟨_, H4, J5, w⟩) J4
    | .cont => exact fun ⟨σ4, H4, J4, w⟩ => out (fun t5 J5 => ⟨_, H4, J5, w⟩) J4
    | .brk => exact fun ⟨σ4, H4, J4, w⟩ => out (fun t5 J5 => ⟨_, H4, J5, w⟩) J4
theorem clauses (x : Landed X pins σ H B a cls d sI t) (hs : X.stack = X.env :: X.outer) (hf : X.env.frame = some X.env.locals) {i : Nat} {n : Str} (nd : X.N.Nodup) (hi : X.N[i]? = some n) (hn : X.env.kindOf n = some .local) {D : Ends} :
    ∀ {hds : List ExceptHandler} {l : List (Value × SuT)}, Named X n hds l → wNamed X.K i D l cls d σ H → wpAny (model X.prog X.w) X.A (handleBy (.ref a) X.env hds) (SP X pins D) X.xe t
  | _, _, .nil, w => w.elim
  | _, _, .cons name suite rest, ⟨_, hb, yes, no⟩ => x.clause hs hf nd hi hn name suite hb (fun z => yes z a x.new) fun z => clauses x hs hf nd hi hn rest (no z)
end Landed
/-- THE RULE: a try whose clauses all bear the same name -/
theorem ps_try_named {X : Cx} {body : List Stmt} {h₀ : ExceptHandler} {hds : List ExceptHandler} {l : List (Value × SuT)} {pos : Pos} {tb : WX → TS} {i : Nat} {n : Str} (hs : X.stack = X.env :: X.outer) (hf : X.env.frame = some X.env.locals) (nd : X.N.Nodup) (hi : X.N[i]? = some n) (hn : X.env.kindOf n = some .local)
    (hh : Named X n (h₀ :: hds) l) (hb : ∀ (W : WX) (pn : List (Addr × Obj)) (xe : Value → Shared → Prop), PassesOwn (model X.prog X.w) X.A X.env xe → Takes (X.tr pn xe) W → PSs (X.tr pn xe) body (tb W)) :
    PS X (.Try body (h₀ :: hds) [] [] pos) (fun D => tb (wNamed X.K i D l) D) where
  run := fun pins s σ H D I h => by
    have ok := I.ok
    have frames := ok.frames
    rw [hs] at frames
    refine wpAny_Try_except (wpAny_mono ((hb (wNamed X.K i D l) (X.pn ++ pins) _ PassesOwn.looking fun u t x => ?_).run [] s σ H D (I.toTry _) h) (fun f t x => ?_) fun _ _ => id)
    · obtain ⟨a, B, sI, pins2, σ2, H2, cls, d, rfl, J, old, up, sky, new, os, bare, w⟩ := x
      have sky2 : Sky B (X.env :: X.outer) a (Zc cls d) X.env.locals t.heap := hs ▸ sky
      refine Sky.land Zc.steady frames hf sky2 fun h2 fly up2 => ?_
      have x : Landed X pins σ2 H2 B a cls d sI { t with heap := h2 } := ⟨J.ofTry ok, old, up.trans up2, hs ▸ fly, new, os, bare⟩
      exact x.clauses hs hf nd hi hn hh w
    · match f, x with
      | .ret u, ⟨v, σ2, H2, J, rv, w⟩ => exact ⟨v, σ2, H2, J.ofTry ok, rv, w⟩
      | .brk, ⟨σ2, H2, J, w⟩ => exact ⟨σ2, H2, J.ofTry ok, w⟩
      | .cont, ⟨σ2, H2, J, w⟩ => exact ⟨σ2, H2, J.ofTry ok, w⟩
      | .next, ⟨σ2, H2, J, w⟩ => exact wpAny_execs_nil ⟨σ2, H2, J.ofTry ok, w⟩
end DL

/-! text DLU -/
set_option Elab.async false
set_option linter.all false
set_option maxRecDepth 100000
set_option maxHeartbeats 3000000
namespace DL
open PySem PySem.Spec
open PyProof.Rows L2
open LamX
/-! ### the def that tells an error's kind -/
/-- of the class cls: the first clause's word -/
def pickK (K : PySem.W.Frag) (cls : Value) (k : Str → Prop) : List (Addr × Str) → Prop
  | [] => False
  | (c, r) :: l => ∃ b, PySem.W.exmOne K cls (.ref c) = some b ∧ (b = true → k r) ∧ (b = false → pickK K cls k l)
theorem pickK_mono {K : PySem.W.Frag} {cls : Value} {k k' : Str → Prop} (h : ∀ r, k r → k' r) : ∀ l, pickK K cls k l → pickK K cls k' l
  | [], z => z
  | (c, r) :: l, ⟨b, e, h1, h2⟩ => ⟨b, e, fun hb => h _ (h1 hb), fun hb => pickK_mono h l (h2 hb)⟩
def TTw (K : PySem.W.Frag) (cl : List (Addr × Str)) (last : Str) : (XK → Hp → VK → Prop) → Hp → VK → Prop := fun tl H Q => tl (fun cls _ H' => pickK K cls (fun r => Q (.str r) H') cl) H fun _ H' => Q (.str last) H'
/-- the clauses 'except C as e: return ..' over and over -/
inductive WHds (mg : Str → Option Value) (sg : Scope) (n : Str) : List ExceptHandler → List (Addr × Str) → Prop
  | nil : WHds mg sg n [] []
  | cons {x r : Str} {c : Addr} {j : Nat} {np p1 p2 p3 : Pos} {hds : List ExceptHandler} {l : List (Addr × Str)} (h1 : sg.names.lookup x = some .globalImplicit) (h2 : (x == ("__debug__" : Str)) = false) (h3 : mg x = some (.ref c)) (r' : WHds mg sg n hds l) :
      WHds mg sg n (.ExceptHandler (some (.Name x np)) (some n) [.Return (some (.Constant (.str r) j p1)) p2] p3 :: hds) ((c, r) :: l)
theorem word_gives {X : Cx} {Ng : List Str} {x a n q last : Str} {sg : Scope} {g : Addr} {cdg : Value} {j i : Nat} {p1 p2 p3 p4 p5 p6 : Pos} {h₀ : ExceptHandler} {hds : List ExceptHandler} {cl : List (Addr × Str)} (hh : WHds X.mg sg n (h₀ :: hds) cl) (hN : Ng.Nodup) (hi : Ng[i]? = some n) (hi0 : i ≠ 0) (hln : sg.names.lookup n = some .local)
    (h0 : ∀ f : Addr, (L2.start Ng [V.ref f])[0]? = some (some (V.ref f))) (hs : ∀ env : Env, swapsWith (.Call (.Name a p1) [] [] p2) none p3.line env = pure false := by intro _; rfl) :
    GivesTo X Ng x sg g cdg [.Try [.Expr (.Call (.Name a p1) [] [] p2) p3] (h₀ :: hds) [] [] p4, .Return (some (.Constant (.str last) j p5)) p6] a q (TTw X.K cl last) := by
  intro f c' s H Q tl act hc h
  have hm : ∀ {hds' : List ExceptHandler} {cl' : List (Addr × Str)}, WHds X.mg sg n hds' cl' → ∃ l', Named (cxOf C8.CX0 X.prog X.w X.K X.mg X.base Ng x sg g cdg X.A X.stack s H C8.E0).nox n hds' l' ∧
      ∀ (D : Ends) cls d (σ : L2.St) (H' : Hp), D.rt = Q → pickK X.K cls (fun r => Q (.str r) H') cl' → wNamed X.K i D l' cls d σ H' := by
    intro hds' cl' w
    induction w with
    | nil => exact ⟨[], .nil, fun D cls d σ H' _ z => z⟩
    | @cons x' r c j np p1 p2 p3 hds2 l2 h1 h2 h3 r' ih =>
      obtain ⟨l', k1, k2⟩ := ih
      refine ⟨_, .cons (c := .ref c) ⟨h1, h2, .inl h3⟩ (fun a oe cls d pn _ _ => pss_one (ps_ret (pe_str (x := r)))) k1, fun D cls d σ H' hD ⟨b, e1, e2, e3⟩ => ⟨b, e1, fun hb a _ => ?_, fun hb => k2 D cls d σ H' hD (e3 hb)⟩⟩
      show D.rt (.str r) H'
      rw [hD]
      exact e2 hb
  obtain ⟨l', k1, k2⟩ := hm hh
  refine ⟨_, pss_cons (ps_try_named (X := (cxOf C8.CX0 X.prog X.w X.K X.mg X.base Ng x sg g cdg X.A X.stack s H C8.E0).nox) (i := i)
      (tb := fun W D σ H => ∃ Ech : XK, (∀ cls d σ' H', Ech cls d H' → W cls d σ' H') ∧ σ[0]? = some (some (.ref f)) ∧ H c' = some (CodeO c' q) ∧ tl Ech H fun _ H' => D.nx σ H')
      rfl rfl hN hi hln k1 fun W pn xe _ tk => ?_) (pss_one (ps_ret (pe_str (x := last)))), ?_⟩
  · exact ⟨fun pins s1 σ1 H1 D1 J ⟨Ech, sub, inSlot, inCode, told⟩ => (pss_one (ps_expr (pos := p3) (act W pn xe Ech p1 p2 tk sub) (hs _))).run pins s1 σ1 H1 D1 J ⟨inSlot, inCode, told⟩⟩
  · exact ⟨fun cls _ H' => pickK X.K cls (fun r => Q (.str r) H') cl, fun cls d σ' H' w => k2 _ cls d σ' H' rfl w, h0 f, hc, h⟩

/-! ### over data -/
/-- what is no table stays: the owned and the frozen too -/
theorem R.stays {g : Gd} {F H H1 : Hp} {O : Own} {σ : L2.St} {δ : DS} (r : R g F H O σ δ) (st : ExtN H H1) (tb : Tabs g.T H1) : R g F H1 O σ δ ∧ Step F H O F H1 O := by
  have live : ∀ a, Live H a → Live H1 a := fun a ⟨o, e, t⟩ => ⟨o, st a o e t, t⟩
  have fz : Sub F H1 := fun a o e => st a o (r.sub a o e) fun ps z => r.ntb a ps (by rw [e, z])
  have hl : ∀ {q : Owner} {v : V} {m : M}, Hold g.K F H O q v m → Hold g.K F H1 O q v m := fun ⟨a, e, h, x⟩ => ⟨a, e, h, x.sub (Sub.refl _) fun o h n => st a o h n⟩
  constructor
  · exact {
      sub := fz
      sl := fun i w h => (r.sl i w h).imp fun v ⟨p, q⟩ => ⟨p, match w, q with
        | .pu _, q => q
        | .ow _, q => hl q
        | .pl _, q => q
        | .io _, q => q⟩
      an := fun i w h => (r.an i w h).imp fun v ⟨p, q⟩ => ⟨p, match w, q with
        | .pu _, q => q
        | .ow _, q => hl q
        | .pl _, q => q
        | .io _, q => q⟩
      inh := fun a h => (r.inh a h).imp (live a) id
      ntb := r.ntb
      tab := tb
      len := r.len }
  · exact { ff := Sub.refl _, fr := fun a o h _ n => st a o h n, th := live, nf := fun a h => .inl h, no := fun a h => .inl h }
def dLam (K : PySem.W.Frag) (cl : List (Addr × Str)) (last : Str) (te : DTE) : DTE := fun δ Q Y => te δ (fun _ δ1 => Q (.pu (.sc (.str last))) δ1) (fun c δ1 => pickK K c (fun r => Q (.pu (.sc (.str r))) δ1) cl)
theorem de_lam {X : Cx} {gd : Gd} {Wx : WX} {x a n last : Str} {g c P : Addr} {k i j : Nat} {pg : Arguments} {h₀ : ExceptHandler} {hds : List ExceptHandler} {cl : List (Addr × Str)} {p1 p2 p3 p4 p5 p6 : Pos} {sg : Scope} {dV kV doc pm cdv ct oc : Value} {an od : Option Addr} {osl : Array (Option Value)} {Ng : List Str}
    {params : Arguments} {body : Expr} {scope : Scope} {te : DTE} {p lpos pos : Pos} (gK : gd.K = X.K) (hg : Gl X x) (hm : X.mg x = some (.ref g)) (hk : PySem.W.keepIn X.K (.ref g) = true)
    (lk : X.K.lookup g = some ⟨oc, od, .func (PySem.W.fnOf x x pg [.Try [.Expr (.Call (.Name a p1) [] [] p2) p3] (h₀ :: hds) [] [] p4, .Return (some (.Constant (.str last) j p5)) p6] sg dV kV doc pm an cdv ct), osl⟩)
    (hcg : PySem.W.codeIn X.K cdv x = true) (hb : L2.Binds X.K (PySem.W.fnOf x x pg [.Try [.Expr (.Call (.Name a p1) [] [] p2) p3] (h₀ :: hds) [] [] p4, .Return (some (.Constant (.str last) j p5)) p6] sg dV kV doc pm an cdv ct) [a] []) (Sg : FnScope Ng [a] sg) (hNg : Ng[0]? = some a) (hva : Vis sg a)
    (hh : WHds X.mg sg n (h₀ :: hds) cl) (hN : Ng.Nodup) (hi : Ng[i]? = some n) (hi0 : i ≠ 0) (hln : sg.names.lookup n = some .local)
    (TB : TabB X.base X.mg c P) (hcode : X.env.code = .ref c) (hmT : (P, X.env.qual ++ "<lambda>") ∈ gd.T) (hu : ∀ p ∈ gd.T, p.1 = P → p.2 = X.env.qual ++ "<lambda>") (hr : Room (k + 2) X.A) (L : LamS X.env.scope scope) (me : MonoE te)
    (hbody : ∀ (A : Around) (outer : List Env) (s : Shared) (H : Hp) (E : XK) (f c' : Addr), Room k (A.deeper (lamEnv X scope s.heap.objs.size f c')) → DE (lamCx X A outer s H E scope f c') gd (fun c d _ H => E c d H) body te)
    (hdef : defaultsOf params X.env = ([], []) := by rfl)
    (hbind : ∀ (q : Str) (cl : List (Str × Addr)) (pm cv ctv : Value), bindArgs (PySem.W.kla_fn "<lambda>" q params body scope cl pm cv ctv) ⟨[], []⟩ = pure [] := by intros; rfl)
    (h0 : ∀ f : Addr, (L2.start Ng [V.ref f])[0]? = some (some (V.ref f)) := by intro _; rfl) (hs : ∀ env : Env, swapsWith (.Call (.Name a p1) [] [] p2) none p3.line env = pure false := by intro _; rfl)
    (hd : (a == ("__debug__" : Str)) = false := by decide) (hcd : (a == ("__classdict__" : Str)) = false := by decide) (hdb : (x == ("__debug__" : Str)) = false := by decide) :
    DE X gd Wx (.Call (.Name x p) [.Lambda params body scope lpos] [] pos) (dLam X.K cl last te) := by
  refine ⟨fun δ Q Q' Y Y' hQ hY h => me _ _ _ _ _ (fun w δ1 h => hQ _ _ h) (fun c δ1 h => pickK_mono (fun r h => hQ _ _ h) _ h) h, ?_⟩
  refine peMono (pe_lamcall (T := gd.T) hg hm hk lk hcg hb Sg hNg hva (word_gives hh hN hi hi0 hln h0 hs) TB hcode hmT hu hr L hdef hbind (fun A outer s H E f c' hr' => (hbody A outer s H E f c' hr').pe) hdb hd hcd) ?_
  rintro σ H Q ⟨F, O, δ, r, q⟩
  refine ⟨r.tab, fun H1 st tb => ?_⟩
  obtain ⟨r1, s1⟩ := r.stays st tb
  refine ⟨F, O, δ, r1, me _ _ _ _ _ (fun w δ1 q v F2 H2 O2 s2 r2 x2 => ?_) (fun c δ1 q F2 H2 O2 s2 r2 => ?_) q⟩
  · exact q _ F2 H2 O2 (s1.trans s2) r2 (.sc _)
  · exact pickK_mono (fun r q => q _ F2 H2 O2 (s1.trans s2) r2 (.sc _)) _ q
end DL

/-! text DLV -/
set_option Elab.async false
set_option linter.all false
set_option maxRecDepth 100000
set_option maxHeartbeats 2000000
namespace DL
open PySem PySem.Spec PyProof.Rows L2 He
/-! ### the head's facts: names, defs, tuples, the code objects whose lambdas are made -/
def codeAd (K : PySem.W.Frag) (p : Str × Option Str) : Addr := match K.lookup (fAd K p) with
  | some ⟨_, _, .func fd, _⟩ => (match fd.code with
    | .ref c => c
    | _ => 0)
  | _ => 0
def tabAd (K : PySem.W.Frag) (p : Str × Option Str) : Addr := match K.lookup (codeAd K p) with
  | some ⟨_, _, .fields vs, _⟩ => (match (vs[11]? : Option Value) with
    | some (.ref P) => P
    | _ => 0)
  | _ => 0
def emptyTab (o : Option Obj) : Bool := match o with
  | some ⟨.none, none, .fields vs, sl⟩ => vs.isEmpty && sl.isEmpty
  | _ => false
theorem emptyTab_ok {o : Option Obj} (h : emptyTab o = true) : o = some { cls := .none, data := .fields #[] } := by
  unfold emptyTab at h
  split at h
  · rename_i vs sl
    obtain ⟨h1, h2⟩ := Bool.and_eq_true_iff.mp h
    rw [Array.isEmpty_iff.mp h1, Array.isEmpty_iff.mp h2]
  · cases h
/-- more facts: tuples by names, defs with lambdas -/
structure Ex where
  tups : List (Str × List Dv) := []
  lams : List (Str × Option Str) := []
def lamOk (g : Addr → Option Obj) (K : PySem.W.Frag) (p : Str × Option Str) : Bool := PySem.W.codeHdIn K (codeAd K p) (tabAd K p) && (emptyTab (g (tabAd K p)) && ((K.lookup (tabAd K p)).isNone && !decide (tabAd K p = mainGlobals)))
def Ex.ok (x : Ex) (g : Addr → Option Obj) (K : PySem.W.Frag) : Bool := (x.tups.all fun q => tupB K q.1 q.2) && ((x.lams.all fun p => lamOk g K p) && decide ((x.lams.map (tabAd K)).Nodup))
abbrev AlL : Type := Bool × AlD
def obsLG (n : Nat) (fa : List Fa) (fn : List DefD) (x : Ex) (g : Addr → Option Obj) : AlL := (x.ok g (frG g (asD g n)), obsD fa fn (frG g (asD g n)))
def SaysL (fa : List Fa) (fn : List DefD) (x : Ex) (h : Heap) (K : PySem.W.Frag) : Prop := K.In h ∧ SaysD fa fn K ∧ (∀ q ∈ x.tups, tupB K q.1 q.2 = true) ∧ ∀ p ∈ x.lams, PySem.W.codeHdIn K (codeAd K p) (tabAd K p) = true ∧ h.get? (tabAd K p) = some { cls := .none, data := .fields #[] } ∧ K.lookup (tabAd K p) = none ∧ tabAd K p ≠ mainGlobals ∧ ∀ q ∈ x.lams, tabAd K q = tabAd K p → q = p
theorem nodup_inj {α β : Type} {f : α → β} : ∀ {l : List α}, (l.map f).Nodup → ∀ {a b}, a ∈ l → b ∈ l → f a = f b → a = b
  | [], _, _, _, h, _, _ => by cases h
  | x :: l, hn, a, b, ha, hb, e => by
    rw [List.map_cons, List.nodup_cons] at hn
    obtain ⟨n1, n2⟩ := hn
    rcases List.mem_cons.mp ha with ea | ea
    · rcases List.mem_cons.mp hb with eb | eb
      · rw [ea, eb]
      · exact (n1 (List.mem_map.mpr ⟨b, eb, by rw [← e, ea]⟩)).elim
    · rcases List.mem_cons.mp hb with eb | eb
      · exact (n1 (List.mem_map.mpr ⟨a, ea, by rw [e, eb]⟩)).elim
      · exact nodup_inj n2 ea eb e
def hookL (n : Nat) (fa : List Fa) (fn : List DefD) (x : Ex) : PySem.W.Hook where
  α := AlL
  obs := fun s => obsLG n fa fn x s.heap.get?
  val := fun _ => (true, valD fn)
  says := fun _ h => ∃ K : PySem.W.Frag, SaysL fa fn x h K
  of := fun _ s e => by
    have e1 := congrArg Prod.fst e
    have e2 := congrArg Prod.snd e
    obtain ⟨h1, h2⟩ := Bool.and_eq_true_iff.mp (show ((x.tups.all fun q => tupB (frG s.heap.get? (asD s.heap.get? n)) q.1 q.2) && ((x.lams.all fun p => lamOk s.heap.get? (frG s.heap.get? (asD s.heap.get? n)) p) && decide ((x.lams.map (tabAd (frG s.heap.get? (asD s.heap.get? n)))).Nodup))) = true from e1)
    obtain ⟨h2, h3⟩ := Bool.and_eq_true_iff.mp h2
    refine ⟨_, frG_in, e2, fun q hq => List.all_eq_true.mp h1 q hq, fun p hp => ?_⟩
    obtain ⟨k1, k2⟩ := Bool.and_eq_true_iff.mp (List.all_eq_true.mp h2 p hp)
    obtain ⟨k2, k3⟩ := Bool.and_eq_true_iff.mp k2
    obtain ⟨k3, k4⟩ := Bool.and_eq_true_iff.mp k3
    exact ⟨k1, emptyTab_ok k2, Option.isNone_iff_eq_none.mp k3, by simpa using k4, fun q hq eq => nodup_inj (of_decide_eq_true h3) hq hp eq⟩
  keeps := fun _ _ _ ⟨K, hK, c, t, l⟩ k => ⟨K, PySem.W.Frag.In.keeps hK k, c, t, fun p hp => ⟨(l p hp).1, k _ _ (l p hp).2.1, (l p hp).2.2⟩⟩
theorem obsLG_eq {n : Nat} {fa : List Fa} {fn : List DefD} {x : Ex} {g : Addr → Option Obj} {s : Shared} (h : ∀ a, g a = s.heap.get? a) : obsLG n fa fn x g = (hookL n fa fn x).obs s := by
  have e : g = s.heap.get? := funext h
  rw [e] <;> rfl
theorem funOf {K : PySem.W.Frag} {x qual : Str} {st : Stmt} {kws : List (Str × V)} {f : Addr} {fd : FuncData} (F : FunD K x qual (defArgs st) (defBody st) (defScope st) [] kws f fd) : Fun K x qual st f fd := by
  obtain ⟨⟨oc, od, dV, kV, doc, pm, an, cdv, ct, osl, rfl, lk, hcd, hD, hK⟩, kp⟩ := F
  rcases hD with ⟨_, rfl⟩ | ⟨e, _⟩
  · exact ⟨⟨oc, od, kV, doc, pm, an, cdv, ct, osl, rfl, lk, hcd⟩, kp⟩
  · exact absurd rfl e
end DL

/-! text DLK -/
set_option Elab.async false
set_option linter.all false
set_option maxRecDepth 100000
set_option maxHeartbeats 3000000
namespace DL
open PySem PySem.Spec
open PyProof.Rows L2
open LamX
/-! ### defs that are only called where no repr is under way -/
/-- what such a def promises where A is around it: the library's FnOk.run with the guards told -/
structure GFn (P : Program) (w : World) (K : PySem.W.Frag) (mg : Str → Option Value) (base : Heap) (CX : CXT) (k : Nat) (f : Addr) (fd : FuncData) (ps : List Str) (sp : Sp) : Prop where
  len : ∀ vs H Q Y, sp vs H Q Y → vs.length = ps.length
  run : ∀ (A : Around) (out : List Env) (s : Shared) (H : Hp) (args : Args) (us : List Value) (vs : List V) (Q : VK) (Y : XK), A.guards = some [] → Room k A → Env0 P w K mg base A out s H → BindsTo s fd args (ps.zip us) → Vals vs us → sp vs H Q Y → codeAny (model P w) A (.call (.ref f) args) (CR CX out P w H s Q Y) s
section
variable {P : Program} {w : World} {K : PySem.W.Frag} {mg : Str → Option Value} {base : Heap} {CX : CXT} {j k : Nat} {f : Addr} {fd : FuncData} {ps : List Str} {sp sp' : Sp}
theorem GFn.mono (F : GFn P w K mg base CX j f fd ps sp) (h : j ≤ k) : GFn P w K mg base CX k f fd ps sp := ⟨F.len, fun A out s H args us vs Q Y hg hr => F.run A out s H args us vs Q Y hg (hr.mono h)⟩
theorem GFn.of (F : FnOk P w K mg base CX k f fd ps sp) : GFn P w K mg base CX k f fd ps sp := ⟨F.len, fun A out s H args us vs Q Y _ hr => F.run A out s H args us vs Q Y hr⟩
end
section
variable {P : Program} {w : World} {base : Heap} {K : PySem.W.Frag} {mg : Str → Option Value}
/-- THE RULE for such a def: by the library's run_ofS, of the very state -/
theorem gdfn {x qual : Str} {st : Stmt} {f : Addr} {fd : FuncData} {N ps : List Str} {k : Nat} {T : List (Addr × Str)} {sp : DSp} (F : Fun K x qual st f fd) (S : FnScope N ps (defScope st)) (hlen : ∀ ws Q Y, sp ws Q Y → ws.length = ps.length)
    (body : ∀ (cdv : Value) (A : Around) (outer : List Env) (s : Shared) (H : Hp) (vs : List V) (E : XK), A.guards = some [] → Room k (A.deeper (PyProof.Rows.envOfC qual (defScope st) s.heap.objs.size f cdv)) → vs.length = ps.length → (∃ c, cdv = .ref c ∧ PySem.W.codeIn K cdv qual = true ∧ ∃ oc od fd' osl, K.lookup f = some ⟨oc, od, .func fd', osl⟩ ∧ fd'.code = cdv) →
      ∃ t, DSs (cxOf (L2.CX P w) P w K mg base N qual (defScope st) f cdv A outer s H E) ⟨K, T, vs⟩ (fun c d _ H' => E c d H') (defBody st) t ∧ ∀ ws Q Y, sp ws Q Y → t (dEnds Q Y) (start0 N ws)) :
    GFn P w K mg base (L2.CX P w) (k + 1) f fd ps (lift K T sp) := by
  obtain ⟨oc, od, kV, doc, pm, ann, cdv, ct, osl, rfl, lk, hcd⟩ := F.ex
  have wide : ∀ {vs : List V} {H : Hp} {Q : VK} {E : XK}, lift K T sp vs H Q E → vs.length = ps.length := fun ⟨_, _, _, _, hl, h⟩ => hl ▸ hlen _ _ _ h
  refine ⟨fun vs H Q E => wide, fun A outer s H args us vs Q E hg room e0 hb rv h => run_ofS lk hcd S room e0 hb rv (wide h) fun hr => ?_⟩
  · obtain ⟨F0, O, ws, r, hl, h⟩ := h
    have hc : ∃ c, cdv = .ref c := by
      unfold PySem.W.codeIn at hcd
      cases cdv with
      | ref c => exact ⟨c, rfl⟩
      | _ => first | cases hcd | simp at hcd
    obtain ⟨c, rfl⟩ := hc
    obtain ⟨t, ht, hb⟩ := body (.ref c) A outer s H vs E hg hr (by rw [← hl]; exact hlen _ _ _ h) ⟨c, rfl, hcd, _, _, _, _, lk, rfl⟩
    refine ⟨_, ht.ps, F0, O, start0 N ws, _, r.start hl, ?_, hb ws _ _ h⟩
    refine ⟨fun δ' F' H' O' σ' s' r' q => ?_, fun w δ' v F' H' O' σ' s' r' x q => ?_, fun δ' F' H' O' σ' s' r' q => q.elim, fun δ' F' H' O' σ' s' r' q => q.elim, fun c δ' F' H' O' σ' s' r' q => ?_⟩
    · exact q .non F' H' O' s' r'.bare (Rep.sc _)
    · obtain ⟨hr, q⟩ := q
      refine q v F' H' O' s' r'.bare ?_
      cases w with
      | pu d => exact x
      | ow m => exact x
      | _ => exact hr.elim
    · exact q F' H' O' s' r'.bare
end
section
variable {X : Cx} {g : Gd} {Wx : WX} {e a b c : Expr} {es rest : List Expr} {ta tb tc : DTE} {tA : DTA} {t u : DTT} {pos : Pos}
theorem de_callG {sp : DSp} {k : Nat} {f : Addr} {fd : FuncData} {ps : List Str} {x : Str} {p : Pos} (hgd : X.A.guards = some []) (mp : MonoP sp) (F : GFn X.prog X.w X.K X.mg X.base (L2.CX X.prog X.w) k f fd ps (lift g.K g.T sp)) (hr : Room k X.A) (hg : Gl X x) (hm : X.mg x = some (.ref f))
    (hk : PySem.W.keepIn X.K (.ref f) = true) (hb : Binds X.K fd ps []) (tk : Takes X Wx) (ha : DA X g Wx (a :: es) tA) (hdb : (x == ("__debug__" : Str)) = false := by decide) (he : starEach (a :: es) X.env = (false, eval a X.env) :: starEach es X.env := by rfl)
    (hpl : (backTo pos (starEach es X.env)).any (·.1) = false := by rfl) : DE X g Wx (.Call (.Name x p) (a :: es) [] pos) (dCall sp tA) := by
  refine ⟨dCall_mono mp ha.mono, peMono (t := fun σ H Q => canA g Wx tA σ H fun vs H1 => lift g.K g.T sp vs H1 Q (WE Wx σ)) ?_ (callCanS mp ha.mono)⟩
  refine ⟨fun pins s σ H Q I h => wpAny_Call_Name_kw (ld_glob I hg hm ?_ hdb)⟩
  refine PySem.W.callWith_K (h₀ := X.base) I.ok.mod.kin hk (thn (ha.pa.run pos pins s σ H _ I h) fun us s1 ⟨vs, H1, I1, r, q⟩ => ⟨I1.kIn, ?_⟩) he hpl
  have hl : us.length = ps.length := by rw [← r.length]; exact F.len _ _ _ _ q
  have b := hb s1 us I1.kIn (by rw [List.append_nil]; exact hl)
  rw [List.append_nil] at b
  refine wpAny_call (codeAny_mono (F.run X.A X.stack s1 H1 ⟨us, []⟩ us vs Q (WE Wx σ) hgd hr I1.env0 b r q) fun r s' hq => ?_)
  match r, hq with
  | .error e, hq => exact passAt tk σ pins H1 s1 e s' I1 hq
  | .ok (.ret u), hq => exact I1.after hq
/-! ### repr -/
def reprP : PN := fun ds Q => match ds with
  | [d] => ∃ p, toPD d = some p ∧ PyData.showable p = true ∧ p.depth ≤ 64 ∧ p.shown.length ≤ sizeLine ∧ Q (.pu (.sc (.str p.shown)))
  | _ => False
theorem toPD_noDict : (∀ (d : D) (p : PyData), toPD d = some p → p.hasDict = false) := by
  have : ∀ n, (∀ (d : D) (p : PyData), sizeOf d ≤ n → toPD d = some p → p.hasDict = false) ∧ (∀ (ds : List D) (ps : List PyData), sizeOf ds ≤ n → toPDs ds = some ps → PyData.hasDictAll ps = false) := by
    intro n
    induction n with
    | zero =>
      refine ⟨fun d p h => ?_, fun ds ps h => ?_⟩
      · cases d <;> simp at h
      · cases ds <;> simp at h
    | succ n ih =>
      refine ⟨fun d p h e => ?_, fun ds ps h e => ?_⟩
      · cases d with
        | sc v => cases v <;> simp only [toPD] at e <;> first | (cases e; done) | (cases e; rfl)
        | tup xs =>
          simp only [toPD, Option.map_eq_some_iff] at e
          obtain ⟨ps, e, rfl⟩ := e
          exact ih.2 xs ps (by simp at h; omega) e
        | lst xs =>
          simp only [toPD, Option.map_eq_some_iff] at e
          obtain ⟨ps, e, rfl⟩ := e
          exact ih.2 xs ps (by simp at h; omega) e
        | dic xs => simp [toPD] at e
        | scr xs => simp [toPD] at e
      · cases ds with
        | nil => simp only [toPDs] at e; cases e; rfl
        | cons x xs =>
          simp only [toPDs] at e
          cases e1 : toPD x with
          | none => simp only [e1] at e; cases e
          | some a =>
            cases e2 : toPDs xs with
            | none => simp only [e1, e2] at e; cases e
            | some as =>
              simp only [e1, e2] at e
              cases e
              have h1 := ih.1 x a (by simp at h; omega) e1
              have h2 := ih.2 xs as (by simp at h; omega) e2
              simp [PyData.hasDictAll, h1, h2]
  exact fun d p e => (this (sizeOf d)).1 d p (Nat.le_refl _) e
def rRepr (K : PySem.W.Frag) : List V → Hp → VK → Prop := fun xs H Q => ∃ x p, xs = [x] ∧ Dp K H x p ∧ p.hasDict = false ∧ PyData.showable p = true ∧ p.depth ≤ 64 ∧ p.shown.length ≤ sizeLine ∧ Q (.str p.shown) H
theorem call_reprD (hgd : X.A.guards = some []) (hu : X.A.units + 66 < cLine) : CallR X (.builtin "repr") (rRepr X.K) := by
  rintro pins s σ H xs us Q I r ⟨x, p, rfl, hd, nd, hs, h64, hz, q⟩
  obtain ⟨u, rfl, ru⟩ : ∃ u, us = [u] ∧ RelV x u := vals1 r
  obtain ⟨as, rd⟩ := Dp.reads I p x u hd ru
  have fin : ∀ h' tk t, (∀ b o, s.heap.get? b = some o → h'.get? b = some o) → EP X pins σ Q (.str p.shown t) { s with heap := h', toks := tk } := fun h' tk t k => ⟨.str p.shown, H, I.kept k, ⟨t, rfl⟩, q⟩
  cases u with
  | ref a => exact repr_of_reads' rd hs (fun z => by rw [nd] at z; cases z) hgd (by omega) (fun _ _ e => e) (fun h' u tk k => fin h' tk u k) hz
  | none =>
    cases rd
    exact PySem.P.repr_of_none (fin _ _ _ fun _ _ e => e)
  | bool b =>
    cases rd
    exact PySem.P.repr_of_bool (fin _ _ _ fun _ _ e => e)
  | int i t =>
    cases rd
    exact PySem.P.repr_of_int (by simpa [PyData.showable] using hs) (fin _ _ _ fun _ _ e => e)
  | str z t =>
    cases rd
    exact PySem.P.repr_of_str (fin _ _ _ fun _ _ e => e) hz
  | _ => cases rd

theorem pr_repr : PrN g (rRepr g.K) reprP := by
  refine PrN.sc (fun ds Q Q' h q => ?_) fun {F H xs ds Q Qd} sb hx hp k => ?_
  · unfold reprP at q ⊢
    split at q
    · obtain ⟨p, e, h1, h2, h3, q⟩ := q; exact ⟨p, e, h1, h2, h3, h _ q⟩
    · exact q.elim
  · unfold reprP at hp
    split at hp
    · obtain ⟨p, e, h1, h2, h3, q⟩ := hp
      obtain ⟨y, rfl, hy⟩ := Paired.c1 hx
      exact ⟨y, p, rfl, Rep.dp (Cont.rep sb hy) e, toPD_noDict _ _ e, h1, h2, h3, k _ q⟩
    · exact hp.elim
end
end DL

/-! text DLW -/
set_option Elab.async false
set_option linter.all false
set_option maxRecDepth 100000
set_option maxHeartbeats 3000000
namespace DL
open PySem PySem.Spec
open PyProof.Rows L2
open LamX
/-! ### the heap at the law's entry: the tables are tracked, and the script where it is no part of the fixed heap -/
section
def entHp (K : PySem.W.Frag) (T : List Addr) (a : Addr) (z : HO) : Hp := fun b => if T.elem b then some (.tbl #[]) else if b == a && (K.lookup a).isNone then some z else none
variable {K : PySem.W.Frag} {T : List Addr} {a b : Addr} {z : HO}
theorem entHp_tab (h : b ∈ T) : entHp K T a z b = some (.tbl #[]) := by
  simp only [entHp, List.elem_eq_mem, h, decide_true, if_true]
theorem entHp_scr (h : a ∉ T) (k : K.lookup a = none) : entHp K T a z a = some z := by
  simp only [entHp, List.elem_eq_mem, h, decide_false, k, Option.isNone_none, beq_self_eq_true, Bool.and_self, if_true]
  rfl
theorem entHp_in {u : HO} (e : entHp K T a z b = some u) : (b ∈ T ∧ u = .tbl #[]) ∨ (b = a ∧ K.lookup a = none ∧ u = z) := by
  unfold entHp at e
  split at e
  · next m => exact .inl ⟨List.elem_iff.mp m, (Option.some.inj e).symm⟩
  · split at e
    · next m =>
      rw [Bool.and_eq_true] at m
      exact .inr ⟨eq_of_beq m.1, Option.isNone_iff_eq_none.mp m.2, (Option.some.inj e).symm⟩
    · cases e
end
def tabOb : Obj := { cls := .none, data := .fields #[] }
def scrOb (vs : List Value) : Obj := { cls := .type "list", data := .seq vs.toArray }
/-- what the head has laid when the law is entered -/
structure Laid (K : PySem.W.Frag) (mg : Str → Option Value) (cs : List (Addr × Addr)) (a : Addr) (vs : List Value) (h : Heap) : Prop where
  top : L2.Mod K mg h
  tab : ∀ p ∈ cs, h.get? p.2 = some tabOb
  loose : ∀ p ∈ cs, K.lookup p.2 = none
  code : ∀ p ∈ cs, PySem.W.CodeHd h p.1 p.2
  main : ∃ (m : Addr) (o : Obj), mg "__builtins__" = some (.ref m) ∧ m ≠ builtinsNs ∧ h.get? m = some o ∧ (o.cls = .type "module" ∧ o.dict = some builtinsNs ∧ o.data = .plain)
  scr : h.get? a = some (scrOb vs)
namespace Laid
variable {K : PySem.W.Frag} {mg : Str → Option Value} {cs : List (Addr × Addr)} {a b : Addr} {vs : List Value} {h : Heap} {o : Obj} {z : HO}
def tabs (cs : List (Addr × Addr)) : List Addr := cs.map Prod.snd
theorem of_tabs (m : b ∈ tabs cs) : ∃ p ∈ cs, p.2 = b := List.mem_map.mp m
theorem in_tabs {p : Addr × Addr} (m : p ∈ cs) : p.2 ∈ tabs cs := List.mem_map.mpr ⟨p, m, rfl⟩
/-- data that is neither a script's nor an empty table's -/
def Other (d : Data) : Prop := d ≠ .fields #[] ∧ ∀ us n, d ≠ .seq us n
theorem other_dict {es : Array DictEntry} {ep : Nat} (e : o.data = .dict es ep) : Other o.data := by
  rw [e]
  exact ⟨fun q => Data.noConfusion q, fun _ _ q => Data.noConfusion q⟩
theorem other_plain (e : o.data = .plain) : Other o.data := by
  rw [e]
  exact ⟨fun q => Data.noConfusion q, fun _ _ q => Data.noConfusion q⟩
theorem scr_out (L : Laid K mg cs a vs h) : a ∉ tabs cs := fun m => by
  obtain ⟨p, hp, e⟩ := of_tabs m
  have q := L.tab p hp
  rw [e, L.scr] at q
  exact Data.noConfusion (congrArg Obj.data (Option.some.inj q))
/-- such an object is not tracked -/
theorem away (L : Laid K mg cs a vs h) (e : h.get? b = some o) (x : Other o.data) : entHp K (tabs cs) a z b = none := by
  cases q : entHp K (tabs cs) a z b with
  | none => rfl
  | some u =>
    exfalso
    rcases entHp_in q with ⟨m, -⟩ | ⟨rfl, -⟩
    · obtain ⟨p, hp, rfl⟩ := of_tabs m
      have w := Option.some.inj ((L.tab p hp).symm.trans e)
      exact x.1 (by rw [← w]; rfl)
    · have w := Option.some.inj (L.scr.symm.trans e)
      exact x.2 _ _ (by rw [← w]; rfl)
theorem seen (L : Laid K mg cs a vs h) (e : h.get? b = some o) (x : Other o.data) : (hidT h (entHp K (tabs cs) a z)).get? b = some o := hidT_get e (L.away e x)
theorem ns (L : Laid K mg cs a vs h) {m : Str → Option Value} (N : h.Ns b m) : (hidT h (entHp K (tabs cs) a z)).Ns b m := by
  obtain ⟨o, es, ep, e, d, r⟩ := N
  exact ⟨o, es, ep, L.seen e (other_dict d), d, r⟩
theorem kin (L : Laid K mg cs a vs h) : K.In (hidT h (entHp K (tabs cs) a z)) := fun c o e => by
  refine hidT_get (L.top.kin c o e) ?_
  cases q : entHp K (tabs cs) a z c with
  | none => rfl
  | some u =>
    rcases entHp_in q with ⟨m, -⟩ | ⟨rfl, k, -⟩
    · obtain ⟨p, hp, rfl⟩ := of_tabs m
      exact nomatch (L.loose p hp).symm.trans e
    · exact nomatch k.symm.trans e
theorem mod (L : Laid K mg cs a vs h) : L2.Mod K mg (hidT h (entHp K (tabs cs) a z)) where
  kin := L.kin
  glob := L.ns L.top.glob
  blt := let ⟨m, x, y⟩ := L.top.blt; ⟨m, L.ns x, y⟩
  nolimit := let ⟨m, x, y⟩ := L.top.nolimit; ⟨m, L.ns x, y⟩
theorem tabB (L : Laid K mg cs a vs h) {p : Addr × Addr} (hp : p ∈ cs) : TabB (hidT h (entHp K (tabs cs) a z)) mg p.1 p.2 where
  code := by
    obtain ⟨o, us, f1, f2, f3, f4, f5, f6, f7, e, c, d, d11, rest⟩ := L.code p hp
    refine ⟨o, us, f1, f2, f3, f4, f5, f6, f7, L.seen e ?_, c, d, d11, rest⟩
    rw [d]
    refine ⟨fun q => ?_, fun _ _ q => Data.noConfusion q⟩
    cases q
    simp at d11
  bm := by
    obtain ⟨m, o, g, nb, e, c, d, x⟩ := L.main
    refine ⟨m, o, g, nb, fun q => ?_, fun q => ?_, L.seen e (other_plain x), c, d, x⟩
    · obtain ⟨o', es, ep, e', d', -⟩ := L.top.glob
      rw [q] at e
      cases e.symm.trans e'
      exact Data.noConfusion (x.symm.trans d')
    · rw [q] at e
      cases e.symm.trans (L.tab p hp)
      exact Data.noConfusion x
  gP := fun q => by
    obtain ⟨o', es, ep, e', d', -⟩ := L.top.glob
    rw [q] at e'
    cases e'.symm.trans (L.tab p hp)
    exact Data.noConfusion d'
variable {ns : List Int}
/-- the script's tracked form -/
def scrHO (vs : List Value) (ns : List Int) : HO := .frz (scrOb vs) (.lst (ns.map V.int))
theorem hok {P : Program} {w : World} (L : Laid K mg cs a vs h) (i : IntsAre vs ns) (l : ns.length ≤ sizeLine) : HOk P w (entHp K (tabs cs) a (scrHO vs ns)) h := fun c u e => by
  rcases entHp_in e with ⟨m, rfl⟩ | ⟨rfl, -, rfl⟩
  · obtain ⟨p, hp, rfl⟩ := of_tabs m
    exact L.tab p hp
  · exact ⟨L.scr, by rw [List.length_map]; exact l, vs, _, vals_ints i, L.scr⟩
theorem sq (L : Laid K mg cs a vs h) (i : IntsAre vs ns) (l : ns.length ≤ sizeLine) : SqL K (entHp K (tabs cs) a (scrHO vs ns)) a (ns.map V.int) := by
  by_cases k : K.lookup a = none
  · exact .inl (.inr ⟨scrOb vs, entHp_scr L.scr_out k⟩)
  · obtain ⟨o, e⟩ := Option.ne_none_iff_exists'.mp k
    cases (L.top.kin a o e).symm.trans L.scr
    refine .inr ⟨scrOb vs, vs.toArray, _, e, rfl, rfl, rfl, ?_, vals_ints i⟩
    have n := i.length
    show vs.length ≤ _
    omega
end Laid
/-- what the law's def promises at the head's heap h -/
structure GLaw (l : PySem.W.OpenLaw) (w : World) (K : PySem.W.Frag) (CX : CXT) (k n : Nat) (x : Str) (mg : Str → Option Value) (fa : Addr) (h : Heap) (fd : FuncData) (cs : List (Addr × Addr)) (sp : Sp) : Prop where
  tab : ∀ p ∈ cs, h.get? p.2 = some tabOb
  loose : ∀ p ∈ cs, K.lookup p.2 = none
  code : ∀ p ∈ cs, PySem.W.CodeHd h p.1 p.2
  bind : ∀ (s : Shared) (u : Value), BindsTo s fd ⟨[u], []⟩ [(x, u)]
  says : ∀ (H : Hp) (a : Addr) (ns : List Int), ns.length ≤ n → (∀ p ∈ cs, H p.2 = some (.tbl #[])) → SqL K H a (ns.map V.int) → sp [.ref a] H (fun v _ => v = .bl true) fun _ _ _ => False
  run : ∀ base : Heap, K.In base → base.Ns mainGlobals mg → (∀ p ∈ cs, TabB base mg p.1 p.2) → GFn l.prog w K mg base CX k fa fd [x] sp
/-- THE END: a law whose def wants that no repr is under way -/
theorem gend {l : PySem.W.OpenLaw} {n k : Nat} {q : Program} {loose : List Str} {XP : (Str → Option Value) → Heap → Prop} {YP : World → Heap → Prop} {d : DefRec} {CX : World → CXT} {x : Str} (hr : Room k callerA) (hn : l.most = some n) (hdf : d.params.defaults = []) (hn2 : n ≤ sizeLine)
    (hCX : ∀ (w : World) (H : Hp) (s : Shared) (e : Value) (s' : Shared), ¬ CX w [] H s (fun _ _ _ => False) e s')
    (F : ∀ (w : World) (mg : Str → Option Value) (fa : Addr) (h : Heap), YP w h → h.Ns mainGlobals mg → mg d.name = some (.ref fa) → ∃ K : PySem.W.Frag, K.In h ∧ ∃ fd cs sp, GLaw l w K (CX w) k n x mg fa h fd cs sp) :
    PySem.W.WalkO q loose XP YP l.row.toRowW d [] (fun f vs => PySem.call f vs) := by
  refine Att.attach_callB hn hdf fun w s₀ s mg mb fa o pm cd doc a vs ns G Y ho hd hcd hmg hobj hints hlen hbits hg => ?_
  obtain ⟨K, KX, fd, cs, sp, D⟩ := F w mg fa _ Y G.T.g hmg
  have L : Laid K mg cs a vs s.heap := ⟨⟨KX, G.T.g, ⟨mb, G.T.b, G.T.builtins⟩, G.T.nolimit⟩, D.tab, D.loose, D.code, G.T.bmain, hobj⟩
  have l1 : ns.length ≤ sizeLine := Nat.le_trans hlen hn2
  have ht : ∀ p ∈ cs, entHp K (Laid.tabs cs) a (Laid.scrHO vs ns) p.2 = some (.tbl #[]) := fun p hp => entHp_tab (Laid.in_tabs hp)
  have e0 : Env0 l.prog w K mg (hidT s.heap (entHp K (Laid.tabs cs) a (Laid.scrHO vs ns))) callerA [] s (entHp K (Laid.tabs cs) a (Laid.scrHO vs ns)) := {
    frames := rfl, mod := L.mod, bs := fun _ _ => of_hidT, bsz := Nat.le_of_eq (hidT_size _ _), funs := trivial, frf := fun _ m => absurd m List.not_mem_nil, hok := L.hok hints l1, bare := .of_eq hg }
  have run := (D.run _ L.kin (L.ns G.T.g) fun p hp => L.tabB hp).run callerA [] s _ ⟨[.ref a], []⟩ [.ref a] [.ref a] _ _ rfl hr e0 (D.bind s _) (.cons rfl .nil) (D.says _ a ns hlen ht (L.sq hints l1))
  refine codeAny_mono run fun r s' res => ?_
  match r, res with
  | .error e, res => exact (hCX w _ s e s' res).elim
  | .ok (.ret u), ⟨v, H', hos, hbare, un, hok', hrv, hv⟩ =>
    subst hv
    cases hrv
    have later : ∀ p ∈ cs, ∃ more : Array Value, s'.heap.get? p.2 = some { cls := .none, data := .fields more } := fun p hp => by
      obtain ⟨more, e⟩ := un.tbls _ _ (ht p hp)
      exact ⟨_, hok' _ _ e⟩
    have kept : ∀ b ob, b ∉ Laid.tabs cs → s.heap.get? b = some ob → s'.heap.get? b = some ob := fun b ob nb e => by
      cases t : entHp K (Laid.tabs cs) a (Laid.scrHO vs ns) b with
      | none => exact un.keep b ob e t List.not_mem_nil List.not_mem_nil
      | some u =>
        rcases entHp_in t with ⟨m, -⟩ | ⟨rfl, -, rfl⟩
        · exact absurd m nb
        · have later := (hok' _ _ (un.frzs _ _ _ t)).1
          rw [later, ← L.scr, e]
    refine ⟨rfl, ⟨fun b ob e => ?_, fun b ob e => ?_⟩, hos, hbare⟩ <;> by_cases m : b ∈ Laid.tabs cs
    · obtain ⟨p, hp, rfl⟩ := Laid.of_tabs m
      obtain ⟨more, e'⟩ := later p hp
      cases (L.tab p hp).symm.trans e
      exact .inr (.inl ⟨((L.code p hp).tab (L.tab p hp)).isCodeTable, rfl, #[], more, rfl, by rw [e', Array.empty_append]; rfl⟩)
    · exact .inl (kept b ob m e)
    · obtain ⟨p, hp, rfl⟩ := Laid.of_tabs m
      exact (later p hp).elim fun _ e' => ⟨_, e'⟩
    · exact ⟨ob, kept b ob m e⟩
end DL

/-! text DLJ -/
set_option Elab.async false
set_option linter.all false
set_option maxRecDepth 100000
set_option maxHeartbeats 2000000
namespace DL
open PySem PySem.Spec PyProof.Rows L2 LamX
/-! ### a, b = a text of two signs -/
section
variable {prog : Program} {w : World} {A : Around} {E : Value → Shared → Prop} {s : Shared}
theorem unpackTxt {c1 c2 : Nat} {t : Tok} {Q : List Value → Shared → Prop} (hh : A.handled = none) (a1 : c1 < 128) (a2 : c2 < 128)
    (hQ : ∀ h' u1 u2 tk, (∀ b o, s.heap.get? b = some o → h'.get? b = some o) → Q [.str (sign c1) u1, .str (sign c2) u2] { s with heap := h', toks := tk }) : wpAny (model prog w) A (unpackItems (.str ⟨#[c1, c2]⟩ t) 2 none) Q E s := by
  have ha : (⟨#[c1, c2]⟩ : Str).cps.all (· < 128) = true := by simp [a1, a2]
  unfold unpackItems
  refine wpAny_bind ?_
  unfold notIterableAtAll
  refine wpAny_bind (wpAny_specialOf (typeIs_str s _ t) F.slot_str_iter.lookup ?_)
  refine wpAny_pure ?_
  simp only [Bool.false_eq_true, if_false]
  refine wpAny_bind (wpAny_holding (wpAny_pyIter_ascii ha ?_))
  have i0 : Heap.IsStrIter (s.heap.push { cls := .type "str_ascii_iterator", data := .fields #[.str ⟨#[c1, c2]⟩ t, .int 0 0] }) s.heap.objs.size "str_ascii_iterator" ⟨#[c1, c2]⟩ t 0 := ⟨_, Heap.get?_push_size _ rfl, rfl, rfl⟩
  refine wpAny_bind (wpAny_holding ?_)
  show wpAny _ _ (pyNext (.ref s.heap.objs.size) >>= _) _ _ _
  refine wpAny_bind (wpAny_pyNext_ascii_item i0 (c := c1) rfl fun h1 i1 e1 => ?_)
  refine wpAny_bind (wpAny_holding ?_)
  show wpAny _ _ (pyNext (.ref s.heap.objs.size) >>= _) _ _ _
  refine wpAny_bind (wpAny_pyNext_ascii_item i1 (c := c2) rfl fun h2 i2 e2 => ?_)
  refine wpAny_bind (wpAny_holding (wpAny_pure (wpAny_pure (wpAny_pure ?_))))
  rw [if_neg (by simp)]
  refine wpAny_bind (wpAny_holding (wpAny_pyNext_ascii_end hh i2 rfl fun h3 e3 => ?_))
  simp only [Option.isSome_none, Bool.false_eq_true, if_false]
  refine wpAny_pure (hQ h3 _ _ _ fun b o e => ?_)
  have ne : b ≠ s.heap.objs.size := Nat.ne_of_lt (Heap.lt_size e)
  exact e3 b o ne (e2.extBut b o ne (e1.extBut b o ne (Heap.get?_push_of_some _ e)))
end

theorem assign_txt {prog : Program} {w : World} {A : Around} {E : Value → Shared → Prop} {s : Shared} {env : Env} {elts : List Expr} {x1} {pos : Pos} {c1 c2 : Nat} {t : Tok} {Q : Unit → Shared → Prop} (hh : A.handled = none) (a1 : c1 < 128) (a2 : c2 < 128)
    (hn : (assignEach elts env).length = 2) (hstar : (assignEach elts env).findIdx? (·.1) = none)
    (h : ∀ h' u1 u2 tk, (∀ b o, s.heap.get? b = some o → h'.get? b = some o) → wpAny (model prog w) A (assignInOrder ((assignEach elts env).map (·.2)) [.str (sign c1) u1, .str (sign c2) u2]) Q E { s with heap := h', toks := tk }) :
    wpAny (model prog w) A (assign (.Tuple elts x1 pos) env (.str ⟨#[c1, c2]⟩ t)) Q E s := by
  rw [assign_Tuple]
  refine wpAny_bind (wpAny_standAt ?_)
  unfold unpack
  rw [hn, hstar]
  exact wpAny_bind (wpAny_holding (unpackTxt hh a1 a2 h))
def two? (z : Str) : Option (Nat × Nat) := match z with
  | ⟨⟨[a, b]⟩⟩ => if a < 128 ∧ b < 128 then some (a, b) else none
  | _ => none
theorem two?_eq {z : Str} {a b : Nat} (h : two? z = some (a, b)) : z = ⟨#[a, b]⟩ ∧ a < 128 ∧ b < 128 := by
  unfold two? at h
  split at h
  · split at h
    · cases h
      rename_i hh
      exact ⟨rfl, hh⟩
    · cases h
  · cases h
def dgTxt (gs : DTGs) : DTG := fun d δ Q => ∃ z a b, d = .sc (.str z) ∧ two? z = some (a, b) ∧ gs [.sc (.str (sign a)), .sc (.str (sign b))] δ Q
section
variable {X : Cx} {g : Gd} {Wx : WX} {e a b c : Expr} {es rest : List Expr} {ta tb tc : DTE} {tA : DTA} {t u : DTT} {pos : Pos}
theorem dg_txt {k : Nat} {gs : DTGs} {is : List Nat} (hc : X.calm = true) (h : DGs X g es gs is) (hn : (assignEach es X.env).length = 2 := by rfl) (hst : (assignEach es X.env).findIdx? (·.1) = none := by rfl) : DG X g (.Tuple es k pos) (dgTxt gs) is := by
  refine ⟨fun d δ Q Q' i ⟨z, a, b, e1, e2, q⟩ => ⟨z, a, b, e1, e2, h.mono _ _ _ _ i q⟩, ⟨fun pins s σ H v u Q I r hw => ?_⟩⟩
  obtain ⟨F, O, δ, d, rr, rp, z, a, b, rfl, e2, q⟩ := hw
  obtain ⟨rfl, ha, hb⟩ := two?_eq e2
  cases rp
  obtain ⟨t, rfl⟩ := r
  refine assign_txt (I.ok.hd hc) ha hb hn hst fun h' u1 u2 tk hk => ?_
  have I1 : Inv X pins σ H { s with heap := h', toks := tk } := I.kept hk
  exact h.pg.run pins _ σ H [.str (sign a), .str (sign b)] [.str (sign a) u1, .str (sign b) u2] Q I1 (.cons ⟨u1, rfl⟩ (.cons ⟨u2, rfl⟩ .nil)) ⟨F, O, δ, _, rr, .cons (.sc _) (.cons (.sc _) .nil), q⟩

/-! ### a, b = x, y of plain local names -/
def dPar (i j : Nat) (tA : DTA) : DTS := fun D δ => tA δ (fun ws δ1 => ∃ d1 d2, pures ws = some [d1, d2] ∧ D.nx ((δ1.put i (some (.pu d1))).put j (some (.pu d2)))) D.ex
theorem ds_par {i j : Nat} {x y : Str} {px py pt : Pos} {kt k2 pt2} (hc : X.calm = true) (hN : X.N.Nodup) (hi : X.N[i]? = some x) (hj : X.N[j]? = some y) (hij : i ≠ j) (hx : X.env.scope.names.lookup x = some .local) (hy : X.env.scope.names.lookup y = some .local) (ha : DA X g Wx [a, b] tA)
    (hw : swappedStores [.Tuple [.Name x px, .Name y py] kt pt] (.Tuple [a, b] k2 pt2) X.env = pure (some [x, y])) (hs : swapsWithSole [.Tuple [.Name x px, .Name y py] kt pt] (.Tuple [a, b] k2 pt2) pos.line X.env = pure false := by rfl) :
    DSt X g Wx (.Assign [.Tuple [.Name x px, .Name y py] kt pt] (.Tuple [a, b] k2 pt2) pos) (dPar i j tA) := by
  refine ⟨fun D D' δ l q => ha.mono _ _ _ _ _ (fun ws δ1 ⟨d1, d2, e, q⟩ => ⟨d1, d2, e, l.nx _ q⟩) l.ex q, psMono (ps_par hc hN hi hj hij hx hy ha.pa hw hs) ?_⟩
  rintro D σ H ⟨F, O, δ, D', r, e, q⟩
  refine ⟨F, O, δ, r, ha.mono _ _ _ _ _ (fun ws δ1 q vs F1 H1 O1 s1 r1 x1 => ?_) (fun c δ q => e.x c δ q) q⟩
  obtain ⟨d1, d2, ep, q⟩ := q
  have rs := pures_reps x1 ep
  cases rs with
  | cons ra rs =>
    cases rs with
    | cons rb rs =>
      cases rs
      obtain ⟨O2, s2, r2⟩ := store1 (w := .pu d1) s1 r1 ra (i := i) rfl
      obtain ⟨O3, s3, r3⟩ := store1 (w := .pu d2) s2 r2 rb (i := j) rfl
      exact ⟨_, _, rfl, e.nx _ F1 H1 O3 _ s3 r3 q⟩
/-! ### x *= e, ints -/
def dMulA (i : Nat) (te : DTE) : DTS := fun D δ => ∃ a, δ.sl[i]? = some (some (.pu (.sc (.int a)))) ∧ te δ (fun w δ1 => ∃ b, val δ1 w = some (.sc (.int b)) ∧ a.natAbs.log2 + b.natAbs.log2 < 1000000 ∧ D.nx (δ1.put i (some (.pu (.sc (.int (a * b))))))) D.ex

/-! ### a tuple of the module -/
def dG (d : D) : DTE := fun δ Q _ => Q (.pu d) δ
theorem de_gtup {x : Str} {vs : List He.Dv} (gK : g.K = X.K) (hg : Gl X x) (hm : X.mg x = some (.ref (He.ga X.K x))) (ht : He.tupB X.K x vs = true) (hd : (x == ("__debug__" : Str)) = false := by decide) : DE X g Wx (.Name x pos) (dG (.tup (vs.map fun v => .sc (v.v X.K)))) := by
  refine ⟨fun δ Q Q' Y Y' hQ hY h => hQ _ _ h, peMono (pe_glob (v := .ref (He.ga X.K x)) hg hm (show L2.RelV (.ref (He.ga X.K x)) (Value.ref (He.ga X.K x)) from rfl) hd) ?_⟩
  rintro σ H Q ⟨F, O, δ, r, q⟩
  refine q _ F H O (Step.refl _ _ _) r ?_
  show Rep g.K F _ _
  refine .tup (vs := vs.map (He.Dv.v X.K)) (by rw [gK]; exact He.tupB_ok ht F) ?_
  have := Reps.scs (K := g.K) (F := F) (vs.map (He.Dv.v X.K))
  rw [List.map_map] at this
  exact this
/-! ### {} -/
def dNewD : DTE := fun δ Q _ => Q (.ow (.dic [])) δ
theorem de_dnew : DE X g Wx (.Dict [] [] pos) dNewD := by
  refine ⟨fun δ Q Q' Y Y' hQ hY h => hQ _ _ h, peMono pe_dnewK ?_⟩
  rintro σ H Q ⟨F, O, δ, r, q⟩ p n
  obtain ⟨r1, s1⟩ := r.laid (o := .dK []) n
  obtain ⟨f1, f2⟩ := r.free n
  exact q (.ref p) F _ O s1 r1 ⟨p, rfl, f1, f2, .inr (Live.not n), [], upd_same, .nil⟩

/-! ### calls by contracts, told once -/
end
/-- the def x keeps the promise sp -/
def CallOk (P : Program) (w : World) (K : PySem.W.Frag) (mg : Str → Option Value) (base : Heap) (T : List (Addr × Str)) (k : Nat) (x : Str) (ps : List Str) (sp : DSp) : Prop :=
  MonoP sp ∧ mg x = some (.ref (He.ga K x)) ∧ PySem.W.keepIn K (.ref (He.ga K x)) = true ∧ ∃ fd, FnOk P w K mg base (L2.CX P w) k (He.ga K x) fd ps (lift K T sp) ∧ Binds K fd ps []
def CallG (P : Program) (w : World) (K : PySem.W.Frag) (mg : Str → Option Value) (base : Heap) (T : List (Addr × Str)) (k : Nat) (x : Str) (ps : List Str) (sp : DSp) : Prop :=
  MonoP sp ∧ mg x = some (.ref (He.ga K x)) ∧ PySem.W.keepIn K (.ref (He.ga K x)) = true ∧ ∃ fd, GFn P w K mg base (L2.CX P w) k (He.ga K x) fd ps (lift K T sp) ∧ Binds K fd ps []
section
variable {X : Cx} {g : Gd} {Wx : WX} {e a b c : Expr} {es rest : List Expr} {ta tb tc : DTE} {tA : DTA} {t u : DTT} {pos : Pos}
theorem de_cf {sp : DSp} {j k : Nat} {ps : List Str} {x : Str} {p : Pos} (C : CallOk X.prog X.w g.K X.mg X.base g.T j x ps sp) (gK : g.K = X.K) (hr : Room k X.A) (hg : Gl X x) (tk : Takes X Wx) (ha : DA X g Wx (a :: es) tA) (hjk : j ≤ k := by decide)
    (hdb : (x == ("__debug__" : Str)) = false := by decide) (he : starEach (a :: es) X.env = (false, eval a X.env) :: starEach es X.env := by rfl)
    (hpl : (backTo pos (starEach es X.env)).any (·.1) = false := by rfl) : DE X g Wx (.Call (.Name x p) (a :: es) [] pos) (dCall sp tA) := by
  obtain ⟨mp, hm, hk, fd, F, hb⟩ := C
  rw [gK] at hm hk hb
  have F' : FnOk X.prog X.w X.K X.mg X.base (L2.CX X.prog X.w) j (He.ga X.K x) fd ps (lift g.K g.T sp) := by rw [← gK]; exact F
  exact de_call mp F' (hr.mono hjk) hg hm hk hb tk ha hdb he hpl
theorem de_cg {sp : DSp} {j k : Nat} {ps : List Str} {x : Str} {p : Pos} (C : CallG X.prog X.w g.K X.mg X.base g.T j x ps sp) (gK : g.K = X.K) (hgd : X.A.guards = some []) (hr : Room k X.A) (hg : Gl X x) (tk : Takes X Wx) (ha : DA X g Wx (a :: es) tA) (hjk : j ≤ k := by decide)
    (hdb : (x == ("__debug__" : Str)) = false := by decide) (he : starEach (a :: es) X.env = (false, eval a X.env) :: starEach es X.env := by rfl)
    (hpl : (backTo pos (starEach es X.env)).any (·.1) = false := by rfl) : DE X g Wx (.Call (.Name x p) (a :: es) [] pos) (dCall sp tA) := by
  obtain ⟨mp, hm, hk, fd, F, hb⟩ := C
  rw [gK] at hm hk hb
  have F' : GFn X.prog X.w X.K X.mg X.base (L2.CX X.prog X.w) j (He.ga X.K x) fd ps (lift g.K g.T sp) := by rw [← gK]; exact F
  exact de_callG hgd mp F' (hr.mono hjk) hg hm hk hb tk ha hdb he hpl
end

/-! ### lambdas, told once -/
/-- the tables of the defs xs -/
def tabsOf (K : PySem.W.Frag) (xs : List (Str × Option Str)) : List (Addr × Str) := xs.map fun p => (tabAd K p, (p.1 ++ ".<locals>.") ++ "<lambda>")
/-- what a def that makes lambdas knows of its code object and table -/
structure LamAt (K : PySem.W.Frag) (mg : Str → Option Value) (base : Heap) (xs : List (Str × Option Str)) (p : Str × Option Str) : Prop where
  mem : p ∈ xs
  tb : TabB base mg (codeAd K p) (tabAd K p)
  inj : ∀ q ∈ xs, tabAd K q = tabAd K p → q = p
theorem codeAd_of {K : PySem.W.Frag} {x : Str} {oc : Value} {od : Option Addr} {fd : FuncData} {osl : Array (Option Value)} {c : Addr} (lk : K.lookup (He.ga K x) = some ⟨oc, od, .func fd, osl⟩) (h : fd.code = .ref c) : codeAd K (x, none) = c := by
  unfold codeAd
  show (match K.lookup (He.ga K x) with
    | some ⟨_, _, .func fd, _⟩ => (match fd.code with
      | .ref c => c
      | _ => 0)
    | _ => 0) = c
  rw [lk]
  show (match fd.code with
      | .ref c => c
      | _ => 0) = c
  rw [h]
/-- the def that gets the lambda: where it stands, its clauses -/
structure WordFn (K : PySem.W.Frag) (mg : Str → Option Value) (x : Str) (st : Stmt) (a n : Str) (i : Nat) (Ng : List Str) (last : Str) (cl : List (Addr × Str)) : Prop where
  gm : mg x = some (.ref (He.ga K x))
  fn : ∃ fd, FunD K x x (defArgs st) (defBody st) (defScope st) [] [] (He.ga K x) fd ∧ Binds K fd [a] []
  body : ∃ p1 p2 p3 p4 p5 p6 j h₀ hds, defBody st = [.Try [.Expr (.Call (.Name a p1) [] [] p2) p3] (h₀ :: hds) [] [] p4, .Return (some (.Constant (.str last) j p5)) p6] ∧ WHds mg (defScope st) n (h₀ :: hds) cl ∧ ∀ env : Env, swapsWith (.Call (.Name a p1) [] [] p2) none p3.line env = pure false
  sc : FnScope Ng [a] (defScope st)
  i0 : Ng[0]? = some a
  ii : Ng[i]? = some n
  ne : i ≠ 0
  va : Vis (defScope st) a
  vn : (defScope st).names.lookup n = some .local
  da : (a == ("__debug__" : Str)) = false
  ca : (a == ("__classdict__" : Str)) = false
theorem de_lamF {X : Cx} {gd : Gd} {Wx : WX} {x a n last : Str} {st : Stmt} {i k : Nat} {Ng : List Str} {cl : List (Addr × Str)} {xs : List (Str × Option Str)} {me : Str} {params : Arguments} {body : Expr} {scope : Scope} {te : DTE} {p lpos pos : Pos}
    (W : WordFn X.K X.mg x st a n i Ng last cl) (M : LamAt X.K X.mg X.base xs (me, none)) (gK : gd.K = X.K) (gT : gd.T = tabsOf X.K xs) (hg : Gl X x) (hq : X.env.qual = me ++ ".<locals>.") (hcode : X.env.code = .ref (codeAd X.K (me, none))) (hr : Room (k + 2) X.A) (L : LamS X.env.scope scope)
    (hbody : ∀ (A : Around) (outer : List Env) (s : Shared) (H : Hp) (E : XK) (f c' : Addr), Room k (A.deeper (lamEnv X scope s.heap.objs.size f c')) → DE (lamCx X A outer s H E scope f c') gd (fun c d _ H => E c d H) body te)
    (hdef : defaultsOf params X.env = ([], []) := by rfl) (hbind : ∀ (q : Str) (cl : List (Str × Addr)) (pm cv ctv : Value), bindArgs (PySem.W.kla_fn "<lambda>" q params body scope cl pm cv ctv) ⟨[], []⟩ = pure [] := by intros; rfl)
    (hdb : (x == ("__debug__" : Str)) = false := by decide) : DE X gd Wx (.Call (.Name x p) [.Lambda params body scope lpos] [] pos) (dLam X.K cl last te) := by
  have m : MonoE te := (hbody X.A [] X.s_0 X.H_0 (fun _ _ _ => False) 0 0 ((hr.deeper _).mono (Nat.le_succ _))).mono
  obtain ⟨fd, F, hb⟩ := W.fn
  obtain ⟨p1, p2, p3, p4, p5, p6, j, h₀, hds, eb, hh, hs⟩ := W.body
  obtain ⟨⟨oc, od, dV, kV, doc, pm, an, cdv, ct, osl, rfl, lk, hcd, _, _⟩, kp⟩ := F
  have h0 : ∀ f : Addr, (L2.start Ng [V.ref f])[0]? = some (some (V.ref f)) := fun f => by simp [L2.start]
  rw [eb] at lk hb
  refine de_lam (P := tabAd X.K (me, none)) gK hg W.gm kp lk hcd hb W.sc W.i0 W.va hh W.sc.nd W.ii W.ne W.vn M.tb hcode ?_ ?_ hr L m hbody hdef hbind h0 hs W.da W.ca hdb
  · rw [gT, hq]
    exact List.mem_map.mpr ⟨(me, none), M.mem, rfl⟩
  · intro q hq2 e
    rw [gT] at hq2
    obtain ⟨r, hr2, rfl⟩ := List.mem_map.mp hq2
    have := M.inj r hr2 e
    rw [this, hq]
end DL

/-! text DLM -/
set_option Elab.async false
set_option linter.all false
set_option maxRecDepth 100000
set_option maxHeartbeats 2000000
namespace DL
open PySem PySem.Spec PyProof.Rows L2 LamX
theorem hu64 {A : Around} {k : Nat} (r : Room k A) : A.units + 64 < cLine := by have := r.un; omega
theorem hu66 {A : Around} {k : Nat} (r : Room k A) : A.units + 66 < cLine := by have := r.un; omega
structure GL (gs : DTGs) (n : Nat) : Prop where
  two : ∀ ds δ Q, gs ds δ Q → ds.length = n ∧ ∃ δ', Q δ'
structure GV (gt : DTG) : Prop where
  v : ∀ d δ Q, gt d δ Q → ∃ δ', Q δ'
theorem GL.len {gs : DTGs} {n : Nat} (h : GL gs n) : ∀ ds δ Q, gs ds δ Q → ds.length = n := fun ds δ Q q => (h.two ds δ Q q).1
theorem gv_name {i : Nat} : GV (dgName i) := ⟨fun d δ Q q => ⟨_, q⟩⟩
theorem gl_nil : GL dgNil 0 := ⟨fun ds δ Q q => ⟨by rw [q.1]; rfl, _, q.2⟩⟩
theorem gl_cons {gt : DTG} {gs : DTGs} {n : Nat} (h : GV gt) (h' : GL gs n) : GL (dgCons gt gs) (n + 1) := ⟨fun ds δ Q ⟨d, r, e, q⟩ => by
  obtain ⟨δ1, q⟩ := h.v _ _ _ q
  obtain ⟨e2, q⟩ := h'.two _ _ _ q
  exact ⟨by rw [e, List.length_cons, e2], q⟩⟩
theorem gv_tup {gs : DTGs} {n : Nat} (h : GL gs n) : GV (dgTup gs) := ⟨fun d δ Q ⟨ds, e, q⟩ => (h.two _ _ _ q).2⟩
theorem gv_lst {gs : DTGs} {n : Nat} (h : GL gs n) : GV (dgLst gs) := ⟨fun d δ Q ⟨ds, e, q⟩ => (h.two _ _ _ q).2⟩
section
variable {X : Cx} {g : Gd} {Wx : WX} {e a b c tg iter elt tg1 iter1 : Expr} {es rest ifs ifs1 : List Expr} {ta tb tc te : DTE} {tA : DTA} {t u tt tt1 : DTT} {ti ti1 : DTI} {gt gt1 : DTG} {is is1 : List Nat} {pos : Pos} {st : Stmt} {sts : List Stmt} {ts us : DTS} {scope : Scope}
theorem de_lcA (own : List (Str × Nat)) (hc : X.calm = true) (hN : X.N.Nodup) (hi : DI X g Wx tg iter ti) (ok : BlkOk X.N X.env.scope scope own) (hv : ∀ i ∈ is, i ∈ own.map (·.2))
    (hg : ∀ (s : Shared) (H : Hp) (C : Addr) (cl : List (Str × Addr)) (fp : List Addr), DG (X.blk s H scope (compEnvC scope cl C X.env) fp) g tg gt is) (ht : ∀ (s : Shared) (H : Hp) (C : Addr) (cl : List (Str × Addr)) (fp : List Addr), DTs (X.blk s H scope (compEnvC scope cl C X.env) fp) g WxF ifs tt)
    (he : ∀ (s : Shared) (H : Hp) (C : Addr) (cl : List (Str × Addr)) (fp : List Addr), DE (X.blk s H scope (compEnvC scope cl C X.env) fp) g WxF elt te)
    (hs : ∀ x, foldedSetIterable iter X.env x = pure x := by intro _; rfl) : DE X g Wx (.ListComp elt [⟨tg, iter, ifs, 0⟩] scope pos) (dLc ti gt tt te (own.map (·.2))) :=
  de_lc hc hN hi ok hv hg ht he (hg X.s_0 X.H_0 0 [] []).mono (ht X.s_0 X.H_0 0 [] []).mono (he X.s_0 X.H_0 0 [] []).mono hs
theorem ds_setLcA (own : List (Str × Nat)) {i : Nat} {y : Str} {py spos : Pos} (hc : X.calm = true) (hN : X.N.Nodup) (hy : X.N[i]? = some y) (hyl : X.env.scope.names.lookup y = some .local)
    (hsw : swapsWith (.ListComp elt [⟨tg, iter, ifs, 0⟩] scope pos) (some (.Name y py)) spos.line X.env = pure true) (hi : DI X g Wx tg iter ti) (ok : BlkOk X.N X.env.scope scope own) (hv : ∀ i ∈ is, i ∈ own.map (·.2))
    (hg : ∀ (s : Shared) (H : Hp) (C : Addr) (cl : List (Str × Addr)) (fp : List Addr), DG (X.blk s H scope (compEnvC scope cl C X.env) fp) g tg gt is) (ht : ∀ (s : Shared) (H : Hp) (C : Addr) (cl : List (Str × Addr)) (fp : List Addr), DTs (X.blk s H scope (compEnvC scope cl C X.env) fp) g WxF ifs tt)
    (he : ∀ (s : Shared) (H : Hp) (C : Addr) (cl : List (Str × Addr)) (fp : List Addr), DE (X.blk s H scope (compEnvC scope cl C X.env) fp) g WxF elt te)
    (hs : ∀ x, foldedSetIterable iter X.env x = pure x := by intro _; rfl) : DSt X g Wx (.Assign [.Name y py] (.ListComp elt [⟨tg, iter, ifs, 0⟩] scope pos) spos) (dSet i (dLc ti gt tt te (own.map (·.2)))) :=
  ds_setLc hc hN hy hyl hsw hi ok hv hg ht he (hg X.s_0 X.H_0 0 [] []).mono (ht X.s_0 X.H_0 0 [] []).mono (he X.s_0 X.H_0 0 [] []).mono hs
theorem de_lc2A (own : List (Str × Nat)) (vs1 : List Nat) (hc : X.calm = true) (hN : X.N.Nodup) (hi : DI X g Wx tg iter ti) (ok : BlkOk X.N X.env.scope scope own) (hv : ∀ i ∈ is, i ∈ own.map (·.2)) (hv1 : ∀ i ∈ is1, i ∈ vs1) (hvv : ∀ i ∈ vs1, i ∈ own.map (·.2))
    (hg : ∀ (s : Shared) (H : Hp) (C : Addr) (cl : List (Str × Addr)) (fp : List Addr), DG (X.blk s H scope (compEnvC scope cl C X.env) fp) g tg gt is) (ht : ∀ (s : Shared) (H : Hp) (C : Addr) (cl : List (Str × Addr)) (fp : List Addr), DTs (X.blk s H scope (compEnvC scope cl C X.env) fp) g WxF ifs tt)
    (hi1 : ∀ (s : Shared) (H : Hp) (C : Addr) (cl : List (Str × Addr)) (fp : List Addr), DI (X.blk s H scope (compEnvC scope cl C X.env) fp) g WxF tg1 iter1 ti1)
    (hg1 : ∀ (s : Shared) (H : Hp) (C : Addr) (cl : List (Str × Addr)) (fp : List Addr), DG (X.blk s H scope (compEnvC scope cl C X.env) fp) g tg1 gt1 is1) (ht1 : ∀ (s : Shared) (H : Hp) (C : Addr) (cl : List (Str × Addr)) (fp : List Addr), DTs (X.blk s H scope (compEnvC scope cl C X.env) fp) g WxF ifs1 tt1)
    (he : ∀ (s : Shared) (H : Hp) (C : Addr) (cl : List (Str × Addr)) (fp : List Addr), DE (X.blk s H scope (compEnvC scope cl C X.env) fp) g WxF elt te)
    (hs : ∀ x, foldedSetIterable iter X.env x = pure x := by intro _; rfl) (hs1 : ∀ env x, foldedSetIterable iter1 env x = pure x := by intro _ _; rfl) : DE X g Wx (.ListComp elt [⟨tg, iter, ifs, 0⟩, ⟨tg1, iter1, ifs1, 0⟩] scope pos) (dLc2 ti gt tt ti1 gt1 tt1 te (own.map (·.2)) vs1) :=
  de_lc2 hc hN hi ok hv hv1 hvv hg ht hi1 hg1 ht1 he (hg X.s_0 X.H_0 0 [] []).mono (ht X.s_0 X.H_0 0 [] []).mono (hi1 X.s_0 X.H_0 0 [] []).mono (hg1 X.s_0 X.H_0 0 [] []).mono (ht1 X.s_0 X.H_0 0 [] []).mono (he X.s_0 X.H_0 0 [] []).mono hs hs1
theorem ds_setLc2A (own : List (Str × Nat)) (vs1 : List Nat) {i : Nat} {y : Str} {py spos : Pos} (hc : X.calm = true) (hN : X.N.Nodup) (hy : X.N[i]? = some y) (hyl : X.env.scope.names.lookup y = some .local)
    (hsw : swapsWith (.ListComp elt [⟨tg, iter, ifs, 0⟩, ⟨tg1, iter1, ifs1, 0⟩] scope pos) (some (.Name y py)) spos.line X.env = pure true)
    (hi : DI X g Wx tg iter ti) (ok : BlkOk X.N X.env.scope scope own) (hv : ∀ i ∈ is, i ∈ own.map (·.2)) (hv1 : ∀ i ∈ is1, i ∈ vs1) (hvv : ∀ i ∈ vs1, i ∈ own.map (·.2))
    (hg : ∀ (s : Shared) (H : Hp) (C : Addr) (cl : List (Str × Addr)) (fp : List Addr), DG (X.blk s H scope (compEnvC scope cl C X.env) fp) g tg gt is) (ht : ∀ (s : Shared) (H : Hp) (C : Addr) (cl : List (Str × Addr)) (fp : List Addr), DTs (X.blk s H scope (compEnvC scope cl C X.env) fp) g WxF ifs tt)
    (hi1 : ∀ (s : Shared) (H : Hp) (C : Addr) (cl : List (Str × Addr)) (fp : List Addr), DI (X.blk s H scope (compEnvC scope cl C X.env) fp) g WxF tg1 iter1 ti1)
    (hg1 : ∀ (s : Shared) (H : Hp) (C : Addr) (cl : List (Str × Addr)) (fp : List Addr), DG (X.blk s H scope (compEnvC scope cl C X.env) fp) g tg1 gt1 is1) (ht1 : ∀ (s : Shared) (H : Hp) (C : Addr) (cl : List (Str × Addr)) (fp : List Addr), DTs (X.blk s H scope (compEnvC scope cl C X.env) fp) g WxF ifs1 tt1)
    (he : ∀ (s : Shared) (H : Hp) (C : Addr) (cl : List (Str × Addr)) (fp : List Addr), DE (X.blk s H scope (compEnvC scope cl C X.env) fp) g WxF elt te)
    (hs : ∀ x, foldedSetIterable iter X.env x = pure x := by intro _; rfl) (hs1 : ∀ env x, foldedSetIterable iter1 env x = pure x := by intro _ _; rfl) :
    DSt X g Wx (.Assign [.Name y py] (.ListComp elt [⟨tg, iter, ifs, 0⟩, ⟨tg1, iter1, ifs1, 0⟩] scope pos) spos) (dSet i (dLc2 ti gt tt ti1 gt1 tt1 te (own.map (·.2)) vs1)) :=
  ds_setLc2 hc hN hy hyl hsw hi ok hv hv1 hvv hg ht hi1 hg1 ht1 he (hg X.s_0 X.H_0 0 [] []).mono (ht X.s_0 X.H_0 0 [] []).mono (hi1 X.s_0 X.H_0 0 [] []).mono (hg1 X.s_0 X.H_0 0 [] []).mono (ht1 X.s_0 X.H_0 0 [] []).mono (he X.s_0 X.H_0 0 [] []).mono hs hs1
/-! - of an int; [::-1] -/
def negP : P1 := fun d Q => match d with
  | .sc (.int i) => Q (.pu (.sc (.int (-i))))
  | _ => False
theorem pr_neg : Pr1 g (rU fun i => .int (-i)) negP := by
  refine Pr1.sc (fun d Q Q' h q => ?_) fun {F H x dx Q Qd} sb hx hp k => ?_
  · unfold negP at q ⊢
    split at q
    · exact h _ q
    · exact q.elim
  · unfold negP at hp
    split at hp
    · cases hx
      exact ⟨_, rfl, k _ hp⟩
    · exact hp.elim
theorem bootL : bootBuiltins "list" = some (.type "list") := by decide +kernel
theorem bootT : bootBuiltins "tuple" = some (.type "tuple") := by decide +kernel
theorem bootD : bootBuiltins "dict" = some (.type "dict") := by decide +kernel
/-! an own error -/
structure ExcOk (K : PySem.W.Frag) (mg : Str → Option Value) (x : Str) : Prop where
  gm : mg x = some (.ref (He.ga K x))
  ex : PySem.W.excIn K (He.ga K x) He.veBase "ValueError.__new__" = true
  kp : PySem.W.keepIn K (.ref (He.ga K x)) = true
  sb : PySem.W.subIn K (.ref (He.ga K x)) (.type "BaseException") = some true
  ty : PySem.W.typeIn K (.ref (He.ga K x)) = some (.type "type")
theorem ds_raiseE {x m : Str} {j : Nat} {p p2 : Pos} {pos2 : Pos} (Z : ExcOk X.K X.mg x) (hc : X.calm = true) (tk : Takes X Wx) (hg : Gl X x) (hdb : (x == ("__debug__" : Str)) = false := by decide) :
    DSt X g Wx (.Raise (some (.Call (.Name x p) [.Constant (.str m) j p2] [] pos2)) none pos) (dRaise (He.ga X.K x)) :=
  ds_raise hc tk PySem.F.excBase_ValueError Z.ex Z.gm Z.kp (raises_own Z.sb Z.ty) hg hdb

/-! calls of built-ins, told once -/
theorem de_blt {id : String} {x : Str} {p : Pos} {r : List V → Hp → VK → Prop} {q : PN} (hc : CallR X (.builtin id) r) (hg : Gl X x) (hm : X.mg x = none) (hv : bootBuiltins x = some (.builtin id)) (pr : PrN g r q) (ha : DA X g Wx (e :: es) tA) (hn : x ≠ "__name__" := by decide) (hdb : (x == ("__debug__" : Str)) = false := by decide)
    (he : starEach (e :: es) X.env = (false, eval e X.env) :: starEach es X.env := by rfl) (hpl : (backTo pos (starEach es X.env)).any (·.1) = false := by rfl) : DE X g Wx (.Call (.Name x p) (e :: es) [] pos) (dCallP q tA) :=
  de_callP (pe_callB hc hg hm hv ha.pa hn hdb he hpl) pr ha
theorem de_bty {T : String} {x : Str} {p : Pos} {r : List V → Hp → VK → Prop} {q : PN} (hc : CallR X (.type T) r) (hg : Gl X x) (hm : X.mg x = none) (hv : bootBuiltins x = some (.type T)) (pr : PrN g r q) (ha : DA X g Wx (e :: es) tA) (hn : x ≠ "__name__" := by decide) (hdb : (x == ("__debug__" : Str)) = false := by decide)
    (he : starEach (e :: es) X.env = (false, eval e X.env) :: starEach es X.env := by rfl) (hpl : (backTo pos (starEach es X.env)).any (·.1) = false := by rfl) : DE X g Wx (.Call (.Name x p) (e :: es) [] pos) (dCallP q tA) :=
  de_callP (pe_callTy hc hg hm hv ha.pa hn hdb he hpl) pr ha
theorem de_mt {id : String} {name : Str} {apos cpos : Pos} {o : Expr} {r : V → List V → Hp → VK → Prop} {q : PM} (pa : PlainAttrs "str") (slot : Slot "str" name id) (hty : typeOf (.builtin id) = pure (.type "method_descriptor")) (hm : MtR X id r) (pr : PrM g r q) (ho : DE X g Wx o ta) (ha : DA X g Wx (e :: es) tA)
    (hbase : attributeBase o name X.env (eval o X.env) = eval o X.env := by rfl)
    (hfew : ((backTo cpos (starEach (e :: es) X.env)).all (fun x => !x.1) && (backToKw cpos (keywordEach [] X.env)).all (fun x => x.1.isSome)
      && decide ((e :: es).length + ([] : List Keyword).length + (if ([] : List Keyword).isEmpty then 0 else 1) < 30)) = true := by rfl)
    (hline : (apos.endLine == cpos.line) = true := by rfl) (hs : starEach (e :: es) X.env = (false, eval e X.env) :: starEach es X.env := by rfl) (hplain : (backTo cpos (starEach es X.env)).any (·.1) = false := by rfl) :
    DE X g Wx (.Call (.Attribute o name apos) (e :: es) [] cpos) (dMs q ta tA) := de_ms (pe_bm pa slot hty hm ho.pe ha.pa hbase hfew hline hs hplain) pr ho ha
theorem de_ml {id : String} {name : Str} {apos cpos : Pos} {o : Expr} {r : V → List V → Hp → VK → Prop} {q : PL} (pa : PlainAttrs "list") (slot : Slot "list" name id) (hty : typeOf (.builtin id) = pure (.type "method_descriptor")) (hm : MtR X id r) (pr : PrL g r q) (gK : g.K = X.K) (ho : DE X g Wx o ta) (ha : DA X g Wx (e :: es) tA)
    (hbase : attributeBase o name X.env (eval o X.env) = eval o X.env := by rfl)
    (hfew : ((backTo cpos (starEach (e :: es) X.env)).all (fun x => !x.1) && (backToKw cpos (keywordEach [] X.env)).all (fun x => x.1.isSome)
      && decide ((e :: es).length + ([] : List Keyword).length + (if ([] : List Keyword).isEmpty then 0 else 1) < 30)) = true := by rfl)
    (hline : (apos.endLine == cpos.line) = true := by rfl) (hs : starEach (e :: es) X.env = (false, eval e X.env) :: starEach es X.env := by rfl) (hplain : (backTo cpos (starEach es X.env)).any (·.1) = false := by rfl) :
    DE X g Wx (.Call (.Attribute o name apos) (e :: es) [] cpos) (dMi q ta tA) := de_mi (pe_bm pa slot hty hm ho.pe ha.pa hbase hfew hline hs hplain) pr gK ho ha
end
end DL

/-! text DLX -/
set_option Elab.async false
set_option linter.all false
set_option maxRecDepth 100000
set_option maxHeartbeats 2000000
namespace DL
open PySem PySem.Spec PyProof.Rows L2
/-! ### a[::-1] of texts and lists -/
def revS (z : Str) : Str := ⟨z.cps.toList.reverse.toArray⟩
def rRev (K : PySem.W.Frag) : V → Hp → VK → Prop := fun x H Q => (∃ z, x = .str z ∧ z.length ≤ sizeLine ∧ Q (.str (revS z)) H) ∨ ∃ a xs, x = .ref a ∧ SqL K H a xs ∧ ∀ p, H p = none → Q (.ref p) (upd H p (.lst xs.reverse))
theorem strRev (n : Nat) : Builtin.Str.strSliceIndices none none (-1) n = (List.range n).reverse := by
  rw [← PySem.W.krv_range]
  exact PySem.W.krv_sliceRange n
theorem pickRev (z : Str) : (((Builtin.Str.strSliceIndices none none (-1) z.length).filterMap (z.cps[·]?)).toArray) = z.cps.toList.reverse.toArray := by
  rw [strRev, List.filterMap_reverse]
  have : (List.range z.length).filterMap (z.cps[·]?) = z.cps.toList := PySem.W.krv_all z.cps
  rw [this]
section
variable {X : Cx} {g : Gd} {Wx : WX} {e a : Expr} {te : TE} {ta : DTE} {pos p2 p3 p4 : Pos} {j : Nat}
theorem pe_rev (he : PE X e te) : PE X (.Subscript e (.Slice none none (some (.UnaryOp .USub (.Constant (.int 1) j p3) p4)) p2) pos) (fun σ H Q => te σ H fun x H1 => rRev X.K x H1 Q) := by
  refine ⟨fun pins s σ H Q I h => ?_⟩
  refine Subscript_ (thn (he.run pins s σ H _ I h) fun v s1 ⟨x, H1, I1, r1, q1⟩ => ?_)
  refine wpAny_Slice ?_
  rw [evalPart_none]
  refine wpAny_pure ?_
  rw [evalPart_some]
  have hs : PE X (.UnaryOp .USub (.Constant (.int 1) j p3) p4) (fun σ H Q => Q (.int (-1)) H) := peMono (pe_un un_neg pe_int) fun σ H Q q => ⟨1, rfl, q⟩
  refine wpAny_pure (thn (hs.run pins s1 σ H1 (fun z H2 => z = .int (-1) ∧ H2 = H1) I1 ⟨rfl, rfl⟩) fun u s3 ⟨z, H3, I3, r3, ez, eH⟩ => ?_)
  subst ez eH
  obtain ⟨tk, rfl⟩ := r3
  have I4 : Inv X pins σ H3 { s3 with heap := s3.heap.push { cls := .type "slice", data := .fields #[.none, .none, .int (-1) tk] } } := I3.kept (t' := s3.toks) fun b ob q => Heap.get?_push_of_some _ q
  have sl : Heap.IsSliceOf (s3.heap.push { cls := .type "slice", data := .fields #[.none, .none, .int (-1) tk] }) s3.heap.objs.size .none .none (.int (-1) tk) := Heap.IsSliceOf.new ..
  show wpAny (model X.prog X.w) X.A (subscriptTail e (.Slice none none (some (.UnaryOp .USub (.Constant (.int 1) j p3) p4)) p2) v (.ref s3.heap.objs.size)) (EP X pins σ Q) X.xe { s3 with heap := s3.heap.push { cls := .type "slice", data := .fields #[.none, .none, .int (-1) tk] } }
  rcases q1 with ⟨z, rfl, hz, q⟩ | ⟨a, xs, rfl, hx, q⟩
  · obtain ⟨t, rfl⟩ := r1
    obtain ⟨os, hos, hcs, hds⟩ := sl
    refine tail_any (ops := [.str z t, .ref s3.heap.objs.size]) (T := "str") (typeIs_str _ _ _) F.slot_str_getitem.lookup ?_ (by with_unfolding_all rfl)
    refine wpAny_getItem_str_slice (l := none) (u := none) (st := some (-1, tk)) ⟨os, hos, hcs, hds⟩ rfl ?_
    show Made.post (if (((-1 : Int) == 1) && (Builtin.Str.strSliceIndices none none (-1) z.length).length == z.length) = true then Made.val (.str z t) else Made.str ⟨((Builtin.Str.strSliceIndices none none (-1) z.length).filterMap (z.cps[·]?)).toArray⟩) (EP X pins σ Q) _
    rw [if_neg (by simp), pickRev]
    exact ⟨by
      have e : (z.cps.toList.reverse.toArray).size = z.length := by simp [Str.length]
      show (z.cps.toList.reverse.toArray).size ≤ _
      rw [e]; exact hz, .str (revS z), _, I4.tok _, ⟨_, rfl⟩, q⟩
  · cases r1
    obtain ⟨its, r, ht, hz⟩ := I4.list hx
    refine tail_any (ops := [.ref a, .ref s3.heap.objs.size]) (T := "list") ht.isList.typeIs slot_list_getitem.lookup ?_ (by with_unfolding_all rfl)
    refine wpAny_getItem_list_slice ht.isList sl .none .none (.int _ _) (by decide) ?_ (by rw [List.size_toArray, ← r.length]; exact hz)
    rw [PySem.W.krv_pick]
    refine ⟨.ref _, _, I4.laid (t' := s3.toks) (o := .lst xs.reverse) (fun b ob q => Heap.get?_push_of_some _ q) (Nat.le_refl _) ?_, rfl, q _ (I4.hok.fresh (Nat.le_refl _))⟩
    exact ⟨by rw [List.length_reverse]; exact hz, its.reverse, 0, r.reverse, Heap.get?_push_size _ rfl⟩
def revP : P1 := fun d Q => match d with
  | .sc (.str z) => z.length ≤ sizeLine ∧ Q (.pu (.sc (.str (revS z))))
  | .lst xs => Q (.ow (.lst xs.reverse))
  | _ => False
theorem pr_rev : Pr1 g (rRev g.K) revP := by
  refine ⟨fun d Q Q' h q => ?_, fun {F H O σ δ x dx Q Qd} r0 hx hp k => ?_⟩
  · unfold revP at q ⊢
    split at q
    · exact ⟨q.1, h _ q.2⟩
    · exact h _ q
    · exact q.elim
  · unfold revP at hp
    split at hp
    · cases hx
      exact .inl ⟨_, rfl, hp.1, k _ H F _ (Step.refl _ _ _) r0 (VR.sc _) hp.2⟩
    · obtain ⟨a, vs, rfl, h1, h2⟩ := hx
      refine .inr ⟨a, vs, rfl, .of h1, fun p n => ?_⟩
      obtain ⟨s, r1, x1⟩ := r0.newL n h2.reverse
      exact k _ _ F _ s r1 x1 hp
    · exact hp.elim
theorem de_rev (gK : g.K = X.K) (ha : DE X g Wx a ta) : DE X g Wx (.Subscript a (.Slice none none (some (.UnaryOp .USub (.Constant (.int 1) j p3) p4)) p2) pos) (dUn revP ta) :=
  ⟨dUn_mono (pr_rev (g := g)).mono ha.mono, peMono (pe_rev ha.pe) fun σ H Q h => by rw [← gK]; exact unCan (pr_rev (g := g)) ha.mono σ H Q h⟩
end
end DL

/-! text DLN -/
set_option Elab.async false
set_option linter.all false
set_option maxRecDepth 100000
set_option maxHeartbeats 2000000
namespace DL
open PySem PySem.Spec PyProof.Rows L2 LamX PySem.SeqAt
/-! ### methods of lists that change nothing: count -/
section
variable {X : Cx} {g : Gd} {Wx : WX} {e a b c : Expr} {es rest : List Expr} {ta tb tc : DTE} {tA : DTA} {pos : Pos}
def dMl (p : PM) (ta : DTE) (tA : DTA) : DTE := fun δ Q Y => ta δ (fun x δ1 => (∃ xs, val δ1 x = some (.lst xs)) ∧ tA δ1 (fun ws δ2 => ∃ dx, val δ2 x = some dx ∧ ∃ ds, vals δ2 ws = some ds ∧ p dx ds fun w => Q w δ2) Y) Y
theorem de_mlc {r : V → List V → Hp → VK → Prop} {p : PM} {tA : DTA} (hp : PE X e (tBM X.K "list" r (canE g Wx ta) (canA g Wx tA))) (gK : g.K = X.K) (pr : PrM g r p) (ha : DE X g Wx a ta) (hA : DA X g Wx es tA) : DE X g Wx e (dMl p ta tA) := by
  refine ⟨fun δ Q Q' Y Y' hQ hY h => ha.mono _ _ _ _ _ (fun x δ1 ⟨z, h⟩ => ⟨z, hA.mono _ _ _ _ _ (fun ws δ2 ⟨dx, e1, ds, e2, h⟩ => ⟨dx, e1, ds, e2, pr.mono _ _ _ _ (fun w => hQ w δ2) h⟩) hY h⟩) hY h, peMono hp ?_⟩
  rintro σ H Q ⟨F, O, δ, r0, q⟩
  refine ⟨F, O, δ, r0, ha.mono _ _ _ _ _ (fun x δ1 q v F1 H1 O1 s1 r1 x1 => ?_) (fun _ _ z => z) q⟩
  obtain ⟨⟨xs, ez⟩, q⟩ := q
  obtain ⟨l, vs, rfl, h1, h2⟩ := r1.cont x1 ez
  refine ⟨.inl ⟨rfl, vs, .of h1⟩, F1, O1, δ1, r1, hA.mono _ _ _ _ _ (fun ws δ2 q vs F2 H2 O2 s2 r2 x2 => ?_) (fun c δ z => z.step s1) q⟩
  obtain ⟨dx, e1, ds, e2, q⟩ := q
  have s02 := s1.trans s2
  exact pr.ok r2 (r2.cont (x1.step s2) e1) (r2.conts x2 e2) q fun z H4 F4 w s4 r4 x4 q => q z F4 H4 O2 (s02.trans s4) r4 (x4.back s02)
theorem de_mlr {id : String} {name : Str} {apos cpos : Pos} {o : Expr} {r : V → List V → Hp → VK → Prop} {q : PM} (pa : PlainAttrs "list") (slot : Slot "list" name id) (hty : typeOf (.builtin id) = pure (.type "method_descriptor")) (hm : MtR X id r) (gK : g.K = X.K) (pr : PrM g r q) (ho : DE X g Wx o ta) (ha : DA X g Wx (e :: es) tA)
    (hbase : attributeBase o name X.env (eval o X.env) = eval o X.env := by rfl)
    (hfew : ((backTo cpos (starEach (e :: es) X.env)).all (fun x => !x.1) && (backToKw cpos (keywordEach [] X.env)).all (fun x => x.1.isSome)
      && decide ((e :: es).length + ([] : List Keyword).length + (if ([] : List Keyword).isEmpty then 0 else 1) < 30)) = true := by rfl)
    (hline : (apos.endLine == cpos.line) = true := by rfl) (hs : starEach (e :: es) X.env = (false, eval e X.env) :: starEach es X.env := by rfl) (hplain : (backTo cpos (starEach es X.env)).any (·.1) = false := by rfl) :
    DE X g Wx (.Call (.Attribute o name apos) (e :: es) [] cpos) (dMl q ta tA) := de_mlc (pe_bm pa slot hty hm ho.pe ha.pa hbase hfew hline hs hplain) gK pr ho ha
def rCntS (K : PySem.W.Frag) : V → List V → Hp → VK → Prop := fun x xs H Q => ∃ (p : Addr) (ns : List Str) (k : Str), x = .ref p ∧ xs = [.str k] ∧ SqL K H p (ns.map V.str) ∧ Q (.int (ns.count k : Nat)) H
theorem strs_count (k : Str) : ∀ {vs : List Value} {ys : List Str}, StrsAre vs ys → vs.countP (isStrOf k) = ys.count k
  | _, _, .nil => rfl
  | _, _, .cons n u h => by
    rw [List.countP_cons, List.count_cons, strs_count k h]
    rfl
theorem mt_lcountS : MtR X "list.count" (rCntS X.K) := by
  intro pins s σ H x xs v us Q I rx rxs h
  obtain ⟨p, ns, k, rfl, rfl, hs, q⟩ := h
  cases rx
  obtain ⟨u, rfl, ru⟩ := rxs.one
  obtain ⟨t, rfl⟩ := ru
  obtain ⟨its, rv, hl, hlen⟩ := I.list hs
  have hi := strs_of_vals rv
  obtain ⟨⟨cls, dd, data, sl⟩, n, ho, hc, hdn, hd⟩ := hl
  simp only at hc hd
  subst hc hd
  refine call_meets PySem.F.slot_list_count ⟨_, ho, rfl⟩ PySem.F.entry_list_count (PySem.F.args_list_count_2 _ _) (list_countAt p its.toArray n dd sl (.str k t) (isStrOf k)) ⟨ho, fun y hy => (eq_isStrOf k t hi y (by simpa using hy)).at _ _, ?_⟩
  have ec : its.toArray.toList.countP (isStrOf k) = ns.count k := strs_count k hi
  refine ⟨.int (ns.count k : Nat), H, I.tok _, ⟨s.toks, ?_⟩, q⟩
  show Value.int ((its.toArray.toList.countP (isStrOf k) : Nat) : Int) s.toks = Value.int ((ns.count k : Nat) : Int) s.toks
  rw [ec]
theorem MtR.is {id : String} {r r' : V → List V → Hp → VK → Prop} (h : MtR X id r) (i : ∀ x xs H Q, r' x xs H Q → r x xs H Q) : MtR X id r' := fun pins s σ H x xs v us Q I rx rs q => h pins s σ H x xs v us Q I rx rs (i _ _ _ _ q)
/-- count of an int among ints, of a text among texts -/
def intsD : List D → Option (List Int)
  | [] => some []
  | .sc (.int i) :: r => (intsD r).map (i :: ·)
  | _ => none
def lcountP : PM := fun d ds Q => match d, ds with
  | .lst xs, [.sc (.str z)] => ∃ ys, strsD xs = some ys ∧ Q (.pu (.sc (.int (ys.count z : Nat))))
  | .lst xs, [.sc (.int z)] => ∃ ys, intsD xs = some ys ∧ Q (.pu (.sc (.int (ys.count z : Nat))))
  | _, _ => False
theorem ints_eq : ∀ {xs : List D} {ys : List Int}, intsD xs = some ys → xs = ys.map fun i => .sc (.int i)
  | [], ys, e => by cases e; rfl
  | x :: xs, ys, e => by
    unfold intsD at e
    split at e
    · rename_i h; cases h
    · rename_i i r h
      cases h
      cases h2 : intsD xs with
      | none => rw [h2] at e; cases e
      | some zs =>
        rw [h2] at e
        cases e
        rw [ints_eq h2]
        rfl
    · cases e
theorem scI_int {K : PySem.W.Frag} {F : Hp} : ∀ {ys : List Int} {vs : List V}, Reps K F vs (ys.map fun i => .sc (.int i)) → vs = ys.map V.int
  | [], _, .nil => rfl
  | i :: ys, _, .cons h r => by
    cases h
    rw [scI_int r]
    rfl
def rCntA (K : PySem.W.Frag) : V → List V → Hp → VK → Prop := fun x xs H Q => rCntS K x xs H Q ∨ rCntI K x xs H Q
theorem mt_lcountA : MtR X "list.count" (rCntA X.K) := MtR.or mt_lcountS mt_lcount
theorem pr_lcount : PrM g (rCntA g.K) lcountP := by
  refine ⟨fun d ds Q Q' h q => ?_, fun {F H O σ δ x dx xs ds Q Qd} r0 hx hxs hp k => ?_⟩
  · unfold lcountP at q ⊢
    split at q
    · obtain ⟨ys, e, q⟩ := q; exact ⟨ys, e, h _ q⟩
    · obtain ⟨ys, e, q⟩ := q; exact ⟨ys, e, h _ q⟩
    · exact q.elim
  · unfold lcountP at hp
    split at hp
    · obtain ⟨ys, e, q⟩ := hp
      obtain ⟨y, rfl, hy⟩ := Paired.c1 hxs
      obtain ⟨p, vs, rfl, h1, h2⟩ := hx
      have e1 := strs_eq e
      subst e1
      have e2 := h2.scI
      subst e2
      cases hy
      exact .inl ⟨p, ys, _, rfl, rfl, .of h1, k _ H F _ (Step.refl _ _ _) r0 (VR.sc _) q⟩
    · obtain ⟨ys, e, q⟩ := hp
      obtain ⟨y, rfl, hy⟩ := Paired.c1 hxs
      obtain ⟨p, vs, rfl, h1, h2⟩ := hx
      have e1 := ints_eq e
      subst e1
      have e2 := scI_int h2
      subst e2
      cases hy
      exact .inr ⟨p, ys, _, rfl, rfl, .of h1, k _ H F _ (Step.refl _ _ _) r0 (VR.sc _) q⟩
    · exact hp.elim
/-! ### is True, is False -/
def isBP (neg : Bool) : P2 := fun dx dy Q => match dx, dy with
  | .sc (.bl a), .sc (.bl b) => Q (.pu (.sc (.bl (neg ^^ decide (a = b)))))
  | _, _ => False
theorem isBP_mono (neg : Bool) : Mo2 (isBP neg) := fun dx dy Q Q' h q => by
  unfold isBP at q ⊢
  split at q <;> first
    | exact h _ q
    | exact q.elim
theorem pr_isB : Pr2 g (fun x y H Q => ∃ a b, x = .bl a ∧ y = .bl b ∧ Q (.bl (decide (a = b))) H) (isBP false) := by
  refine Pr2.sc (isBP_mono _) fun {F H x y dx dy Q Qd} sb hx hy hp k => ?_
  unfold isBP at hp
  split at hp
  · cases hx; cases hy; exact ⟨_, _, rfl, rfl, k _ (by simpa using hp)⟩
  · exact hp.elim
theorem pr_notB : Pr2 g (fun x y H Q => ∃ a b, x = .bl a ∧ y = .bl b ∧ Q (.bl (!decide (a = b))) H) (isBP true) := by
  refine Pr2.sc (isBP_mono _) fun {F H x y dx dy Q Qd} sb hx hy hp k => ?_
  unfold isBP at hp
  split at hp
  · cases hx; cases hy; exact ⟨_, _, rfl, rfl, k _ (by simpa using hp)⟩
  · exact hp.elim
/-! ### what simp leaves alone: the rest behind a call, behind a comprehension -/
theorem call_o {sp : DSp} {tA : DTA} {δ : DS} {Q : Wv → DS → Prop} {Y : Value → DS → Prop} (h : ∀ R : Wv → DS → Prop, R = Q → dCall sp tA δ R Y) : dCall sp tA δ Q Y := h _ rfl
end
end DL

/-! text RL -/
set_option Elab.async false
set_option linter.all false
set_option maxRecDepth 100000
set_option maxHeartbeats 2000000
namespace DL
open PySem PySem.Spec PyProof.Rows L2
/-! ### readings: loops and comprehensions -/
theorem for_k {gt : DTG} {tb : DTS} {D : DEnds} (I : Nat → DS → Prop) : ∀ (ds : List DL.D) (i : Nat) (δ : DS),
    (∀ j d δ K, ds[j]? = some d → I (i + j) δ → (∀ δ', I (i + j + 1) δ' → K δ') → gt d δ fun δ1 => tb { D with nx := K, ct := K, bk := D.nx } δ1) → (∀ δ, I (i + ds.length) δ → D.nx δ) → I i δ → dForL gt tb D ds δ
  | [], i, δ, _, fin, h => fin δ h
  | d :: ds, i, δ, step, fin, h => step 0 d δ _ rfl h fun δ' h' => for_k I ds (i + 1) δ' (fun j d δ K e hI k => step (j + 1) d δ K (by simpa using e) (by rw [show i + (j + 1) = i + 1 + j by omega]; exact hI) fun δ' h' => k δ' (by rw [show i + 1 + j + 1 = i + (j + 1) + 1 by omega]; exact h'))
      (fun δ hI => fin δ (by rw [List.length_cons, show i + (ds.length + 1) = i + 1 + ds.length by omega]; exact hI)) h'
theorem for_i {gt : DTG} {tb : DTS} {D : DEnds} (I : Nat → DS → Prop) {ds : List DL.D} {δ : DS} (h : I 0 δ)
    (step : ∀ j d δ K, ds[j]? = some d → I j δ → (∀ δ', I (j + 1) δ' → K δ') → gt d δ fun δ1 => tb { D with nx := K, ct := K, bk := D.nx } δ1) (fin : ∀ δ, I ds.length δ → D.nx δ) : dForL gt tb D ds δ :=
  for_k I ds 0 δ (fun j d δ K e hI k => step j d δ K e (by simpa using hI) fun δ' h' => k δ' (by simpa using h')) (fun δ hI => fin δ (by simpa using hI)) h
/-- an element, told by a function -/
theorem comp_map {gt : DTG} {te : DTE} {vs : List Nat} (f : DL.D → DL.D) {δ : DS} : ∀ (ds acc : List DL.D) (Q : List DL.D → DS → Prop),
    (∀ d ∈ ds, ∀ K : Wv → DS → Prop, (∀ δ3, δ3.wipe vs = δ → K (.pu (f d)) δ3) → gt d δ fun δ1 => te δ1 K fun _ _ => False) → acc.length + ds.length ≤ sizeLine → Q (acc ++ ds.map f) δ → dComp gt dYes te vs ds acc δ Q
  | [], acc, Q, _, _, q => by show Q acc δ; simpa using q
  | d :: ds, acc, Q, h, hz, q => by
    have hz' : acc.length + (ds.length + 1) ≤ sizeLine := hz
    have := h d (List.mem_cons_self ..) (fun w δ3 => ∃ y, w = .pu y ∧ acc.length < sizeLine ∧ dComp gt dYes te vs ds (acc ++ [y]) (δ3.wipe vs) Q) fun δ3 e => ⟨_, rfl, by omega, by
      rw [e]
      exact comp_map f ds (acc ++ [f d]) Q (fun d hd => h d (List.mem_cons_of_mem _ hd)) (by rw [List.length_append, List.length_singleton]; omega) (by simpa using q)⟩
    exact this
/-- .. with a test -/
theorem comp_filt {gt : DTG} {tt : DTT} {te : DTE} {vs : List Nat} (p : DL.D → Bool) (f : DL.D → DL.D) {δ : DS} : ∀ (ds acc : List DL.D) (Q : List DL.D → DS → Prop),
    (∀ d ∈ ds, ∀ K : Bool → DS → Prop, (∀ δ2, δ2.wipe vs = δ → (p d = true → ∀ K' : Wv → DS → Prop, (∀ δ3, δ3.wipe vs = δ → K' (.pu (f d)) δ3) → te δ2 K' fun _ _ => False) → K (p d) δ2) → gt d δ fun δ1 => tt δ1 K fun _ _ => False) →
    acc.length + ds.length ≤ sizeLine → Q (acc ++ (ds.filter p).map f) δ → dComp gt tt te vs ds acc δ Q
  | [], acc, Q, _, _, q => by show Q acc δ; simpa using q
  | d :: ds, acc, Q, h, hz, q => by
    have hz' : acc.length + (ds.length + 1) ≤ sizeLine := hz
    refine h d (List.mem_cons_self ..) _ fun δ2 e2 he => ?_
    cases hp : p d with
    | true =>
      rw [if_pos rfl]
      refine he hp _ fun δ3 e => ⟨_, rfl, by omega, ?_⟩
      rw [e]
      refine comp_filt p f ds (acc ++ [f d]) Q (fun d hd => h d (List.mem_cons_of_mem _ hd)) (by rw [List.length_append, List.length_singleton]; omega) ?_
      rw [List.filter_cons_of_pos hp] at q
      simpa using q
    | false =>
      rw [if_neg Bool.false_ne_true, e2]
      refine comp_filt p f ds acc Q (fun d hd => h d (List.mem_cons_of_mem _ hd)) (by omega) ?_
      rw [List.filter_cons_of_neg (by simp [hp])] at q
      exact q
/-- .. with a state that goes on: J i acc δ -/
theorem comp_st {gt : DTG} {te : DTE} {vs : List Nat} (J : Nat → List DL.D → DS → Prop) {Q : List DL.D → DS → Prop} : ∀ (ds acc : List DL.D) (i : Nat) (δ : DS),
    (∀ j d acc δ (K : Wv → DS → Prop), ds[j]? = some d → J (i + j) acc δ → (∀ y δ3, acc.length < sizeLine ∧ J (i + j + 1) (acc ++ [y]) (δ3.wipe vs) → K (.pu y) δ3) → gt d δ fun δ1 => te δ1 K fun _ _ => False) → (∀ acc δ, J (i + ds.length) acc δ → Q acc δ) → J i acc δ → dComp gt dYes te vs ds acc δ Q
  | [], acc, i, δ, _, fin, h => fin _ _ h
  | d :: ds, acc, i, δ, step, fin, h => by
    refine step 0 d acc δ (fun w δ3 => ∃ y, w = .pu y ∧ acc.length < sizeLine ∧ dComp gt dYes te vs ds (acc ++ [y]) (δ3.wipe vs) Q) rfl h fun y δ3 ⟨hz, hJ⟩ => ⟨y, rfl, hz, ?_⟩
    exact comp_st J ds (acc ++ [y]) (i + 1) (δ3.wipe vs) (fun j d acc δ K e hI k => step (j + 1) d acc δ K (by simpa using e) (by rw [show i + (j + 1) = i + 1 + j by omega]; exact hI) fun y δ3 ⟨h1, h2⟩ => k y δ3 ⟨h1, by rw [show i + 1 + j + 1 = i + (j + 1) + 1 by omega]; exact h2⟩)
      (fun acc δ hI => fin acc δ (by rw [List.length_cons, show i + (ds.length + 1) = i + 1 + ds.length by omega]; exact hI)) hJ
/-! ### contracts -/
abbrev DI' (i : Int) : DL.D := .sc (.int i)
abbrev DS' (z : Str) : DL.D := .sc (.str z)
abbrev DB' (b : Bool) : DL.D := .sc (.bl b)
abbrev DN' : DL.D := .sc .non
/-- frozen arguments, a result or an error by a function -/
def spX (K : PySem.W.Frag) (n : Nat) (pre : List DL.D → Prop) (f : List DL.D → Except Str Wv) : DSp := fun ws Q Y => ∃ ds, pures ws = some ds ∧ ds.length = n ∧ pre ds ∧ match f ds with
  | .ok w => isRes w ∧ Q w ws
  | .error c => Y (.ref (He.ga K c)) ws
theorem spX_mono {K : PySem.W.Frag} {n : Nat} {pre : List DL.D → Prop} {f : List DL.D → Except Str Wv} : MonoP (spX K n pre f) := fun ws Q Q' Y Y' hQ hY ⟨ds, e, l, p, q⟩ => ⟨ds, e, l, p, by
  cases h : f ds with
  | ok w => rw [h] at q; exact ⟨q.1, hQ _ _ q.2⟩
  | error c => rw [h] at q; exact hY _ _ q⟩
theorem spX_len {K : PySem.W.Frag} {n : Nat} {pre : List DL.D → Prop} {f : List DL.D → Except Str Wv} {ws : List Wv} {Q : Wv → List Wv → Prop} {Y : Value → List Wv → Prop} (h : spX K n pre f ws Q Y) : ws.length = n := by
  obtain ⟨ds, e, l, p, q⟩ := h
  rw [pures_len e, List.length_map, l]
theorem kb_NoneType_bool : kitB "NoneType" "bool" = some false := by kernel_rfl
theorem kb_NoneType_int : kitB "NoneType" "int" = some false := by kernel_rfl
theorem kb_NoneType_str : kitB "NoneType" "str" = some false := by kernel_rfl
theorem kb_NoneType_tuple : kitB "NoneType" "tuple" = some false := by kernel_rfl
theorem kb_NoneType_list : kitB "NoneType" "list" = some false := by kernel_rfl
theorem kb_NoneType_dict : kitB "NoneType" "dict" = some false := by kernel_rfl
theorem kb_bool_bool : kitB "bool" "bool" = some true := by kernel_rfl
theorem kb_bool_int : kitB "bool" "int" = some true := by kernel_rfl
theorem kb_bool_str : kitB "bool" "str" = some false := by kernel_rfl
theorem kb_bool_tuple : kitB "bool" "tuple" = some false := by kernel_rfl
theorem kb_bool_list : kitB "bool" "list" = some false := by kernel_rfl
theorem kb_bool_dict : kitB "bool" "dict" = some false := by kernel_rfl
theorem kb_int_bool : kitB "int" "bool" = some false := by kernel_rfl
theorem kb_int_int : kitB "int" "int" = some true := by kernel_rfl
theorem kb_int_str : kitB "int" "str" = some false := by kernel_rfl
theorem kb_int_tuple : kitB "int" "tuple" = some false := by kernel_rfl
theorem kb_int_list : kitB "int" "list" = some false := by kernel_rfl
theorem kb_int_dict : kitB "int" "dict" = some false := by kernel_rfl
theorem kb_str_bool : kitB "str" "bool" = some false := by kernel_rfl
theorem kb_str_int : kitB "str" "int" = some false := by kernel_rfl
theorem kb_str_str : kitB "str" "str" = some true := by kernel_rfl
theorem kb_str_tuple : kitB "str" "tuple" = some false := by kernel_rfl
theorem kb_str_list : kitB "str" "list" = some false := by kernel_rfl
theorem kb_str_dict : kitB "str" "dict" = some false := by kernel_rfl
theorem kb_tuple_bool : kitB "tuple" "bool" = some false := by kernel_rfl
theorem kb_tuple_int : kitB "tuple" "int" = some false := by kernel_rfl
theorem kb_tuple_str : kitB "tuple" "str" = some false := by kernel_rfl
theorem kb_tuple_tuple : kitB "tuple" "tuple" = some true := by kernel_rfl
theorem kb_tuple_list : kitB "tuple" "list" = some false := by kernel_rfl
theorem kb_tuple_dict : kitB "tuple" "dict" = some false := by kernel_rfl
theorem kb_list_bool : kitB "list" "bool" = some false := by kernel_rfl
theorem kb_list_int : kitB "list" "int" = some false := by kernel_rfl
theorem kb_list_str : kitB "list" "str" = some false := by kernel_rfl
theorem kb_list_tuple : kitB "list" "tuple" = some false := by kernel_rfl
theorem kb_list_list : kitB "list" "list" = some true := by kernel_rfl
theorem kb_list_dict : kitB "list" "dict" = some false := by kernel_rfl
theorem kb_dict_bool : kitB "dict" "bool" = some false := by kernel_rfl
theorem kb_dict_int : kitB "dict" "int" = some false := by kernel_rfl
theorem kb_dict_str : kitB "dict" "str" = some false := by kernel_rfl
theorem kb_dict_tuple : kitB "dict" "tuple" = some false := by kernel_rfl
theorem kb_dict_list : kitB "dict" "list" = some false := by kernel_rfl
theorem kb_dict_dict : kitB "dict" "dict" = some true := by kernel_rfl
theorem ex2a {α β : Type} {a : α} {b : β} {P : α → β → Prop} : (∃ x y, (a, b) = (x, y) ∧ P x y) ↔ P a b := ⟨fun ⟨x, y, e, h⟩ => by cases e; exact h, fun h => ⟨a, b, rfl, h⟩⟩
theorem ex2b {α β : Type} {a : α} {b : β} {P : α → β → Prop} : (∃ x y, (a = x ∧ b = y) ∧ P x y) ↔ P a b := ⟨fun ⟨x, y, e, h⟩ => by obtain ⟨rfl, rfl⟩ := e; exact h, fun h => ⟨a, b, ⟨rfl, rfl⟩, h⟩⟩
theorem ex2c {α β : Type} {a : α} {b : β} {P : α → β → Prop} : (∃ x y, a = x ∧ b = y ∧ P x y) ↔ P a b := ⟨fun ⟨x, y, e, e2, h⟩ => by subst e e2; exact h, fun h => ⟨a, b, rfl, rfl, h⟩⟩
theorem bools_mapF {α : Type} (p : α → Bool) : ∀ l : List α, bools (l.map fun x => DB' (p x)) = some (l.map p)
  | [] => rfl
  | x :: l => by
    show (bools (l.map fun x => DB' (p x))).map (p x :: ·) = _
    rw [bools_mapF p l]
    rfl
theorem strs_mapF : ∀ l : List Str, strsD (l.map fun x => DS' x) = some l
  | [] => rfl
  | x :: l => by
    show (strsD (l.map fun x => DS' x)).map (x :: ·) = _
    rw [strs_mapF l]
    rfl
theorem one?_sign (c : Nat) : one? (sign c) = some c := rfl
theorem seq_o {ts us : DTS} {D : DEnds} {δ : DS} (h : ∀ N : DS → Prop, N = us D → ts { D with nx := N } δ) : dSeq ts us D δ := h _ rfl
theorem comp2_flat {gt : DTG} {ti1 : DTI} {gt1 : DTG} {tt1 : DTT} {te : DTE} {vs vs1 : List Nat} (out : DL.D → List DL.D) {δ : DS} : ∀ (ds acc : List DL.D) (Q : List DL.D → DS → Prop),
    (∀ d ∈ ds, ∀ (acc : List DL.D) (K : List DL.D → DS → Prop), acc.length + (out d).length ≤ sizeLine → (∀ δ', δ'.wipe vs = δ → K (acc ++ out d) δ') → gt d δ fun δ1 => ti1 δ1 (fun ds1 δ3 => dComp gt1 tt1 te vs1 ds1 acc (δ3.wipe vs1) K) fun _ _ => False) →
    acc.length + (ds.flatMap out).length ≤ sizeLine → Q (acc ++ ds.flatMap out) δ → dComp2 gt dYes ti1 gt1 tt1 te vs vs1 ds acc δ Q
  | [], acc, Q, _, _, q => by show Q acc δ; simpa using q
  | d :: ds, acc, Q, h, hz, q => by
    rw [List.flatMap_cons, List.length_append] at hz
    have := h d (List.mem_cons_self ..) acc (fun acc' δ4 => dComp2 gt dYes ti1 gt1 tt1 te vs vs1 ds acc' (δ4.wipe vs) Q) (by omega) fun δ' e => by
      rw [e]
      refine comp2_flat out ds (acc ++ out d) Q (fun d hd => h d (List.mem_cons_of_mem _ hd)) (by rw [List.length_append]; omega) ?_
      rw [List.flatMap_cons, ← List.append_assoc] at q
      exact q
    exact this
end DL

/-! text DLO -/
set_option Elab.async false
set_option linter.all false
set_option maxRecDepth 100000
set_option maxHeartbeats 2000000
namespace DL
open PySem PySem.Spec PyProof.Rows L2 LamX
/-! ### the end: the law's def, its head -/
theorem triples_nil : TriplesOk ([] : List Value) := by
  first | exact trivial | exact .nil | (intro i; simp) | simp [TriplesOk]
/-- the state in which the law is entered -/
theorem enter_law {K : PySem.W.Frag} {xs : List (Str × Option Str)} {H : Hp} {a : Addr} {ns : List Int} (hT : ∀ p ∈ xs, H (tabAd K p) = some (.tbl #[])) (hS : SqL K H a (ns.map V.int)) :
    ∃ F, R ⟨K, tabsOf K xs, [.ref a]⟩ F H (fun _ => none) [] ⟨[], [.pu (.scr ns)]⟩ := by
  refine ⟨fun b => match H b with
    | some (.tbl _) => none
    | o => o, ⟨fun b o e => ?_, fun i w h => by simp at h, fun k w h => ?_, fun b h => absurd rfl h, fun b ps => ?_, fun q hq => ?_, rfl⟩⟩
  · split at e
    · cases e
    · exact e
  · cases k with
    | zero =>
      cases h
      refine ⟨.ref a, rfl, .scr ?_⟩
      rcases hS with h | h
      · refine .inl ?_
        rcases h with h | ⟨o, h⟩
        · refine .inl ?_
          dsimp only
          rw [h]
        · refine .inr ⟨o, ?_⟩
          dsimp only
          rw [h]
      · exact .inr h
    | succ k => cases h
  · show (match H b with
      | some (.tbl _) => none
      | o => o) ≠ _
    split
    · intro z; cases z
    · rename_i h
      exact h ps
  · obtain ⟨p, hp, rfl⟩ := List.mem_map.mp hq
    refine ⟨#[], hT p hp, triples_nil, fun pos cv h => ?_⟩
    simp [codeAmong] at h
/-- tables behind each other -/
theorem lamAt_of {K : PySem.W.Frag} {mg : Str → Option Value} {base : Heap} {xs : List (Str × Option Str)} {cs : List (Addr × Addr)} (hcs : cs = xs.map fun p => (codeAd K p, tabAd K p)) (h : ∀ p ∈ cs, TabB base mg p.1 p.2) (inj : ∀ p ∈ xs, ∀ q ∈ xs, tabAd K q = tabAd K p → q = p) {p : Str × Option Str} (hp : p ∈ xs) : LamAt K mg base xs p :=
  ⟨hp, h (codeAd K p, tabAd K p) (by rw [hcs]; exact List.mem_map.mpr ⟨p, hp, rfl⟩), fun q hq => inj p hp q hq⟩
theorem glaw {l : PySem.W.OpenLaw} {w : World} {K : PySem.W.Frag} {mg : Str → Option Value} {fa : Addr} {h : Heap} {fas : List He.Fa} {fns : List He.DefD} {xs : DL.Ex} {k n : Nat} {sp : DSp} {fd : FuncData} (hK : SaysL fas fns xs h K) (hb : ∀ (s : Shared) (u : Value), BindsTo s fd ⟨[u], []⟩ [("script", u)])
    (hsp : ∀ ns : List Int, ns.length ≤ n → sp [.pu (.scr ns)] (fun w _ => w = .pu (.sc (.bl true))) fun _ _ => False)
    (F : ∀ base : Heap, K.In base → base.Ns mainGlobals mg → (∀ p ∈ xs.lams, LamAt K mg base xs.lams p) → GFn l.prog w K mg base (L2.CX l.prog w) k fa fd ["script"] (lift K (tabsOf K xs.lams) sp)) (hm : MonoP sp) :
    GLaw l w K (L2.CX l.prog w) k n "script" mg fa h fd (xs.lams.map fun p => (codeAd K p, tabAd K p)) (lift K (tabsOf K xs.lams) sp) := by
  obtain ⟨hK, hs, ht, hl⟩ := hK
  refine ⟨fun q hq => ?_, fun q hq => ?_, fun q hq => ?_, hb, fun H a ns hn hT hS => ?_, fun base hKb hNs hTb => ?_⟩
  · obtain ⟨p, hp, rfl⟩ := List.mem_map.mp hq
    exact (hl p hp).2.1
  · obtain ⟨p, hp, rfl⟩ := List.mem_map.mp hq
    exact (hl p hp).2.2.1
  · obtain ⟨p, hp, rfl⟩ := List.mem_map.mp hq
    exact PySem.W.codeHd_of_K hK (hl p hp).1
  · obtain ⟨F, r⟩ := enter_law (xs := xs.lams) (fun p hp => hT _ (List.mem_map.mpr ⟨p, hp, rfl⟩)) hS
    refine ⟨F, fun _ => none, [.pu (.scr ns)], r, rfl, hm _ _ _ _ _ (fun w ws e v F' H' O' _ _ x => ?_) (fun c ws z => z.elim) (hsp ns hn)⟩
    subst e
    cases x
    rfl
  · exact F base hKb hNs fun p hp => lamAt_of rfl hTb (fun p hp q hq => (hl p hp).2.2.2.2 q hq) hp
end DL

/-! text DLL -/
set_option Elab.async false
set_option linter.all false
set_option maxRecDepth 100000
set_option maxHeartbeats 2000000
namespace DL
open PySem PySem.Spec PyProof.Rows L2 LamX
/-! ### what goes on with a value, left alone until the value is known -/
def onS {α : Type} (o : Option α) (k : α → Prop) : Prop := match o with
  | some a => k a
  | none => False
def onB (k : Bool) (a b : Prop) : Prop := match k with
  | true => a
  | false => b
def onBl (o : Option D) (k : Bool → Prop) : Prop := match o with
  | some (.sc (.bl b)) => k b
  | _ => False
def onInt (o : Option D) (k : Int → Prop) : Prop := match o with
  | some (.sc (.int b)) => k b
  | _ => False
def isSD (o : Option D) (k : Prop) : Prop := match o with
  | some (.sc (.str _)) => k
  | _ => False
def isLD (o : Option D) (k : Prop) : Prop := match o with
  | some (.lst _) => k
  | _ => False
def onLM (o : Option M) (k : List D → Prop) : Prop := match o with
  | some (.lst xs) => k xs
  | _ => False
def isLM (o : Option M) (k : Prop) : Prop := match o with
  | some (.lst _) => k
  | _ => False
def onBw (w : Wv) (k : Bool → Prop) : Prop := match w with
  | .pu (.sc (.bl b)) => k b
  | _ => False
def onPu (w : Wv) (k : D → Prop) : Prop := match w with
  | .pu d => k d
  | _ => False
def onPair (ds : List D) (k : D → D → Prop) : Prop := match ds with
  | [a, b] => k a b
  | _ => False
def onOne (ds : List D) (k : D → Prop) : Prop := match ds with
  | [a] => k a
  | _ => False
def onI1 (ds : List D) (k : Int → Prop) : Prop := match ds with
  | [.sc (.int i)] => k i
  | _ => False
def onI2 (ds : List D) (k : Int → Int → Prop) : Prop := match ds with
  | [.sc (.int i), .sc (.int j)] => k i j
  | _ => False
def onTup (d : D) (k : List D → Prop) : Prop := match d with
  | .tup ds => k ds
  | _ => False
def onLst (d : D) (k : List D → Prop) : Prop := match d with
  | .lst ds => k ds
  | _ => False
def onTxt (d : D) (k : Str → Prop) : Prop := match d with
  | .sc (.str z) => k z
  | _ => False
def onCons (ds : List D) (k : D → List D → Prop) : Prop := match ds with
  | d :: r => k d r
  | [] => False
def onNil (ds : List D) (k : Prop) : Prop := match ds with
  | [] => k
  | _ => False
/-- the same, what goes on standing apart as an instance: simp does not look into it -/
class K0 where
  k : Prop
class K1 (α : Type) where
  k : α → Prop
class K2 (α β : Type) where
  k : α → β → Prop
class KB where
  a : Prop
  b : Prop
class KC where
  q : Wv → List Wv → Prop
  y : Value → List Wv → Prop
def cS {α : Type} (o : Option α) [c : K1 α] : Prop := onS o c.k
def cB (k : Bool) [c : KB] : Prop := onB k c.a c.b
def cBl (o : Option D) [c : K1 Bool] : Prop := onBl o c.k
def cInt (o : Option D) [c : K1 Int] : Prop := onInt o c.k
def cSD (o : Option D) [c : K0] : Prop := isSD o c.k
def cLD (o : Option D) [c : K0] : Prop := isLD o c.k
def cLM (o : Option M) [c : K1 (List D)] : Prop := onLM o c.k
def dLM (o : Option M) [c : K0] : Prop := isLM o c.k
def cBw (w : Wv) [c : K1 Bool] : Prop := onBw w c.k
def cPair (ds : List D) [c : K2 D D] : Prop := onPair ds c.k
def cOne (ds : List D) [c : K1 D] : Prop := onOne ds c.k
def cI1 (ds : List D) [c : K1 Int] : Prop := onI1 ds c.k
def cI2 (ds : List D) [c : K2 Int Int] : Prop := onI2 ds c.k
def cTup (d : D) [c : K1 (List D)] : Prop := onTup d c.k
def cLst (d : D) [c : K1 (List D)] : Prop := onLst d c.k
def cTxt (d : D) [c : K1 Str] : Prop := onTxt d c.k
def cCons (ds : List D) [c : K2 D (List D)] : Prop := onCons ds c.k
def cNil (ds : List D) [c : K0] : Prop := onNil ds c.k
abbrev callC (sp : DSp) (as : List Wv) [c : KC] : Prop := sp as c.q c.y
def p1K (p : P1) (x : D) [c : K1 Wv] : Prop := p x c.k
def p2K (p : P2) (x y : D) [c : K1 Wv] : Prop := p x y c.k
def pnK (p : PN) (ds : List D) [c : K1 Wv] : Prop := p ds c.k
def psK (p : PS3) (d : D) (lo hi : Option Int) [c : K1 Wv] : Prop := p d lo hi c.k
def pmK (p : PM) (d : D) (ds : List D) [c : K1 Wv] : Prop := p d ds c.k
def plK (p : PL) (xs ds : List D) [c : K2 D (List D)] : Prop := p xs ds c.k
abbrev compC (gt : DTG) (tt : DTT) (te : DTE) (vs : List Nat) (ds acc : List D) (δ : DS) [c : K2 (List D) DS] : Prop := dComp gt tt te vs ds acc δ c.k
abbrev compC2 (gt : DTG) (tt : DTT) (ti1 : DTI) (gt1 : DTG) (tt1 : DTT) (te : DTE) (vs vs1 : List Nat) (ds acc : List D) (δ : DS) [c : K2 (List D) DS] : Prop := dComp2 gt tt ti1 gt1 tt1 te vs vs1 ds acc δ c.k
theorem kc_q {q : Wv → List Wv → Prop} {y : Value → List Wv → Prop} : @KC.q ⟨q, y⟩ = q := rfl
theorem kc_y {q : Wv → List Wv → Prop} {y : Value → List Wv → Prop} : @KC.y ⟨q, y⟩ = y := rfl
theorem k1_k {α : Type} {k : α → Prop} : @K1.k α ⟨k⟩ = k := rfl
theorem k2_k {α β : Type} {k : α → β → Prop} : @K2.k α β ⟨k⟩ = k := rfl
theorem k0_k {k : Prop} : @K0.k ⟨k⟩ = k := rfl
theorem kb_a {a b : Prop} : @KB.a ⟨a, b⟩ = a := rfl
theorem kb_b {a b : Prop} : @KB.b ⟨a, b⟩ = b := rfl
theorem cS_some {α : Type} {a : α} {k : α → Prop} : @cS α (some a) ⟨k⟩ = k a := rfl
theorem cB_t {a b : Prop} : @cB true ⟨a, b⟩ = a := rfl
theorem cB_f {a b : Prop} : @cB false ⟨a, b⟩ = b := rfl
theorem cB_y {x : Bool} {a b : Prop} (h : x = true) (q : a) : @cB x ⟨a, b⟩ := by rw [h]; exact q
theorem cB_n {x : Bool} {a b : Prop} (h : x = false) (q : b) : @cB x ⟨a, b⟩ := by rw [h]; exact q
theorem cS_i {α : Type} {o : Option α} {a : α} {k : α → Prop} (h : o = some a) (q : k a) : @cS α o ⟨k⟩ := by rw [h]; exact q
theorem cBl_i {b : Bool} {k : Bool → Prop} : @cBl (some (.sc (.bl b))) ⟨k⟩ = k b := rfl
theorem cInt_i {b : Int} {k : Int → Prop} : @cInt (some (.sc (.int b))) ⟨k⟩ = k b := rfl
theorem cSD_i {z : Str} {k : Prop} : @cSD (some (.sc (.str z))) ⟨k⟩ = k := rfl
theorem cLD_i {z : List D} {k : Prop} : @cLD (some (.lst z)) ⟨k⟩ = k := rfl
theorem cLM_i {z : List D} {k : List D → Prop} : @cLM (some (.lst z)) ⟨k⟩ = k z := rfl
theorem dLM_i {z : List D} {k : Prop} : @dLM (some (.lst z)) ⟨k⟩ = k := rfl
theorem cBw_i {b : Bool} {k : Bool → Prop} : @cBw (.pu (.sc (.bl b))) ⟨k⟩ = k b := rfl
theorem cPair_i {a b : D} {k : D → D → Prop} : @cPair [a, b] ⟨k⟩ = k a b := rfl
theorem cOne_i {a : D} {k : D → Prop} : @cOne [a] ⟨k⟩ = k a := rfl
theorem cI1_i {i : Int} {k : Int → Prop} : @cI1 [.sc (.int i)] ⟨k⟩ = k i := rfl
theorem cI2_i {i j : Int} {k : Int → Int → Prop} : @cI2 [.sc (.int i), .sc (.int j)] ⟨k⟩ = k i j := rfl
theorem cTup_i {ds : List D} {k : List D → Prop} : @cTup (.tup ds) ⟨k⟩ = k ds := rfl
theorem cLst_i {ds : List D} {k : List D → Prop} : @cLst (.lst ds) ⟨k⟩ = k ds := rfl
theorem cTxt_i {z : Str} {k : Str → Prop} : @cTxt (.sc (.str z)) ⟨k⟩ = k z := rfl
theorem cCons_i {d : D} {r : List D} {k : D → List D → Prop} : @cCons (d :: r) ⟨k⟩ = k d r := rfl
theorem cNil_i {k : Prop} : @cNil [] ⟨k⟩ = k := rfl
/-- a call of a contract -/
abbrev callK (sp : DSp) (as : List Wv) (Q : Wv → List Wv → Prop) (Y : Value → List Wv → Prop) : Prop := sp as Q Y

theorem onS_some {α : Type} {a : α} {k : α → Prop} : onS (some a) k = k a := rfl
theorem onB_t {a b : Prop} : onB true a b = a := rfl
theorem onB_f {a b : Prop} : onB false a b = b := rfl
theorem onB_y {c : Bool} {a b : Prop} (h : c = true) (q : a) : onB c a b := by rw [h]; exact q
theorem onB_n {c : Bool} {a b : Prop} (h : c = false) (q : b) : onB c a b := by rw [h]; exact q
theorem onS_i {α : Type} {o : Option α} {a : α} {k : α → Prop} (h : o = some a) (q : k a) : onS o k := by rw [h]; exact q
theorem onBl_i {b : Bool} {k : Bool → Prop} : onBl (some (.sc (.bl b))) k = k b := rfl
theorem onInt_i {b : Int} {k : Int → Prop} : onInt (some (.sc (.int b))) k = k b := rfl
theorem isSD_i {z : Str} {k : Prop} : isSD (some (.sc (.str z))) k = k := rfl
theorem isLD_i {z : List D} {k : Prop} : isLD (some (.lst z)) k = k := rfl
theorem onLM_i {z : List D} {k : List D → Prop} : onLM (some (.lst z)) k = k z := rfl
theorem isLM_i {z : List D} {k : Prop} : isLM (some (.lst z)) k = k := rfl
theorem onBw_i {b : Bool} {k : Bool → Prop} : onBw (.pu (.sc (.bl b))) k = k b := rfl
theorem onPu_i {d : D} {k : D → Prop} : onPu (.pu d) k = k d := rfl
theorem onPair_i {a b : D} {k : D → D → Prop} : onPair [a, b] k = k a b := rfl
theorem onOne_i {a : D} {k : D → Prop} : onOne [a] k = k a := rfl
theorem onI1_i {i : Int} {k : Int → Prop} : onI1 [.sc (.int i)] k = k i := rfl
theorem onI2_i {i j : Int} {k : Int → Int → Prop} : onI2 [.sc (.int i), .sc (.int j)] k = k i j := rfl
theorem onTup_i {ds : List D} {k : List D → Prop} : onTup (.tup ds) k = k ds := rfl
theorem onLst_i {ds : List D} {k : List D → Prop} : onLst (.lst ds) k = k ds := rfl
theorem onTxt_i {z : Str} {k : Str → Prop} : onTxt (.sc (.str z)) k = k z := rfl
theorem onCons_i {d : D} {r : List D} {k : D → List D → Prop} : onCons (d :: r) k = k d r := rfl
theorem onNil_i {k : Prop} : onNil [] k = k := rfl
theorem ex_onS {α : Type} {o : Option α} {k : α → Prop} : (∃ a, o = some a ∧ k a) = onS o k := by
  cases o <;> simp [onS]
theorem ex_onS2 {α β : Type} {o : Option (α × β)} {k : α → β → Prop} : (∃ a b, o = some (a, b) ∧ k a b) = onS o fun p => k p.1 p.2 := by
  cases o with
  | none => simp [onS]
  | some p =>
    obtain ⟨a, b⟩ := p
    simp only [onS, Option.some.injEq, Prod.mk.injEq, eq_iff_iff]
    exact ⟨fun ⟨x, y, ⟨e1, e2⟩, h⟩ => by subst e1 e2; exact h, fun h => ⟨a, b, ⟨rfl, rfl⟩, h⟩⟩
theorem if_onB {k : Bool} {a b : Prop} : (if k = true then a else b) = onB k a b := by cases k <;> simp [onB]
theorem ex_onBl {o : Option D} {k : Bool → Prop} : (∃ b, o = some (.sc (.bl b)) ∧ k b) = onBl o k := by
  unfold onBl
  split
  · simp
  · rename_i h
    simp only [eq_iff_iff, iff_false]
    rintro ⟨b, e, _⟩
    exact h b e
theorem ex_onInt {o : Option D} {k : Int → Prop} : (∃ b, o = some (.sc (.int b)) ∧ k b) = onInt o k := by
  unfold onInt
  split
  · simp
  · rename_i h
    simp only [eq_iff_iff, iff_false]
    rintro ⟨b, e, _⟩
    exact h b e
theorem ex_isSD {o : Option D} {k : Prop} : ((∃ z, o = some (.sc (.str z))) ∧ k) = isSD o k := by
  unfold isSD
  split
  · simp
  · rename_i h
    simp only [eq_iff_iff, iff_false]
    rintro ⟨⟨b, e⟩, _⟩
    exact h b e
theorem ex_isLD {o : Option D} {k : Prop} : ((∃ z, o = some (.lst z)) ∧ k) = isLD o k := by
  unfold isLD
  split
  · simp
  · rename_i h
    simp only [eq_iff_iff, iff_false]
    rintro ⟨⟨b, e⟩, _⟩
    exact h b e
theorem ex_onLM {o : Option M} {k : List D → Prop} : (∃ z, o = some (.lst z) ∧ k z) = onLM o k := by
  unfold onLM
  split
  · simp
  · rename_i h
    simp only [eq_iff_iff, iff_false]
    rintro ⟨b, e, _⟩
    exact h b e
theorem ex_isLM {o : Option M} {k : Prop} : ((∃ z, o = some (.lst z)) ∧ k) = isLM o k := by
  unfold isLM
  split
  · simp
  · rename_i h
    simp only [eq_iff_iff, iff_false]
    rintro ⟨⟨b, e⟩, _⟩
    exact h b e
theorem ex_onBw {w : Wv} {k : Bool → Prop} : (∃ b, w = .pu (.sc (.bl b)) ∧ k b) = onBw w k := by
  unfold onBw
  split
  · simp
  · rename_i h
    simp only [eq_iff_iff, iff_false]
    rintro ⟨b, e, _⟩
    exact h b e
theorem ex_onPu {w : Wv} {k : D → Prop} : (∃ b, w = .pu b ∧ k b) = onPu w k := by
  unfold onPu
  split
  · simp
  · rename_i h
    simp only [eq_iff_iff, iff_false]
    rintro ⟨b, e, _⟩
    exact h b e
theorem ex_onTup {d : D} {k : List D → Prop} : (∃ ds, d = .tup ds ∧ k ds) = onTup d k := by
  cases d <;> simp [onTup]
theorem ex_onLst {d : D} {k : List D → Prop} : (∃ ds, d = .lst ds ∧ k ds) = onLst d k := by
  cases d <;> simp [onLst]
theorem ex_onCons {ds : List D} {k : D → List D → Prop} : (∃ d r, ds = d :: r ∧ k d r) = onCons ds k := by
  cases ds with
  | nil => simp [onCons]
  | cons d r =>
    simp only [onCons, List.cons.injEq, eq_iff_iff]
    exact ⟨fun ⟨a, b, ⟨e1, e2⟩, h⟩ => by subst e1 e2; exact h, fun h => ⟨d, r, ⟨rfl, rfl⟩, h⟩⟩
theorem ex_onNil {ds : List D} {k : Prop} : (ds = [] ∧ k) = onNil ds k := by
  cases ds <;> simp [onNil]
theorem ex_pair {o : Option (List D)} {k : D → D → Prop} : (∃ a b, o = some [a, b] ∧ k a b) = onS o fun ds => onPair ds k := by
  cases o with
  | none => simp [onS]
  | some ds =>
    simp only [onS, onPair, eq_iff_iff, Option.some.injEq]
    constructor
    · rintro ⟨a, b, rfl, h⟩; exact h
    · intro h
      split at h
      · exact ⟨_, _, rfl, h⟩
      · exact h.elim
theorem ex_one {o : Option (List D)} {k : D → Prop} : (∃ a, o = some [a] ∧ k a) = onS o fun ds => onOne ds k := by
  cases o with
  | none => simp [onS]
  | some ds =>
    simp only [onS, onOne, eq_iff_iff, Option.some.injEq]
    constructor
    · rintro ⟨a, rfl, h⟩; exact h
    · intro h
      split at h
      · exact ⟨_, rfl, h⟩
      · exact h.elim
theorem ex_i1 {o : Option (List D)} {k : Int → Prop} : (∃ a, o = some [.sc (.int a)] ∧ k a) = onS o fun ds => onI1 ds k := by
  cases o with
  | none => simp [onS]
  | some ds =>
    simp only [onS, onI1, eq_iff_iff, Option.some.injEq]
    constructor
    · rintro ⟨a, rfl, h⟩; exact h
    · intro h
      split at h
      · exact ⟨_, rfl, h⟩
      · exact h.elim
theorem ex_i2 {o : Option (List D)} {k : Int → Int → Prop} : (∃ a b, o = some [.sc (.int a), .sc (.int b)] ∧ k a b) = onS o fun ds => onI2 ds k := by
  cases o with
  | none => simp [onS]
  | some ds =>
    simp only [onS, onI2, eq_iff_iff, Option.some.injEq]
    constructor
    · rintro ⟨a, b, rfl, h⟩; exact h
    · intro h
      split at h
      · exact ⟨_, _, rfl, h⟩
      · exact h.elim
theorem ex_txt {d : D} {k : Str → Nat → Nat → Prop} : (∃ z a b, d = .sc (.str z) ∧ two? z = some (a, b) ∧ k z a b) = onTxt d fun z => onS (two? z) fun p => k z p.1 p.2 := by
  unfold onTxt
  split
  · rename_i z
    show _ = onS (two? z) fun p => k z p.1 p.2
    rw [← ex_onS2 (k := fun a b => k z a b)]
    simp only [eq_iff_iff, D.sc.injEq, V.str.injEq]
    constructor
    · rintro ⟨z', a, b, rfl, e, h⟩; exact ⟨a, b, e, h⟩
    · rintro ⟨a, b, e, h⟩; exact ⟨z, a, b, rfl, e, h⟩
  · rename_i h
    simp only [eq_iff_iff, iff_false]
    rintro ⟨z, a, b, e, _⟩
    exact h z e
section
variable {p p' : P2} {p1 : P1} {pn : PN} {ps : PS3} {pm : PM} {pl : PL} {ta tb tc : DTE} {t u : DTT} {tA : DTA} {ti ti1 : DTI} {tl th : DTO} {gt gt1 : DTG} {gs : DTGs} {tt tt1 : DTT} {te : DTE} {ts us : DTS} {vs vs1 : List Nat} {i j : Nat} {v : V} {d d' : DL.D} {ds ds' acc : List DL.D} {δ δ' : DS} {sp : DSp} {K : PySem.W.Frag} {cl : List (Addr × Str)} {last : Str} {C : Addr} {st : Bool} {neg : Bool}
  {Q : Wv → DS → Prop} {QT : Bool → DS → Prop} {QA : List Wv → DS → Prop} {QI : List DL.D → DS → Prop} {QO : Option Int → DS → Prop} {QG : DS → Prop} {Y : Value → DS → Prop} {E : DEnds} {Qp : Wv → Prop} {Ql : DL.D → List DL.D → Prop} {lo hi : Option Int}
theorem z_dC : dC v δ Q Y = Q (.pu (.sc v)) δ := rfl
theorem y_dC : dC v δ Q Y = Q (.pu (.sc v)) δ := z_dC
theorem z_dG : dG d δ Q Y = Q (.pu d) δ := rfl
theorem y_dG : dG d δ Q Y = Q (.pu d) δ := z_dG
theorem z_dOp : dOp p ta tb δ Q Y = ta δ (fun x δ1 => tb δ1 (fun y δ2 => onS (val δ2 x) fun dx => onS (val δ2 y) fun dy => p dx dy fun w => Q w δ2) Y) Y := by simp only [dOp, ex_onS]
theorem y_dOp : dOp p ta tb δ Q Y = ta δ (fun x δ1 => tb δ1 (fun y δ2 => @cS _ (val δ2 x) ⟨fun dx => @cS _ (val δ2 y) ⟨fun dy => @p2K p dx dy ⟨fun w => Q w δ2⟩⟩⟩) Y) Y := z_dOp
theorem z_dUn : dUn p1 ta δ Q Y = ta δ (fun x δ1 => onS (val δ1 x) fun dx => p1 dx fun w => Q w δ1) Y := by simp only [dUn, ex_onS]
theorem y_dUn : dUn p1 ta δ Q Y = ta δ (fun x δ1 => @cS _ (val δ1 x) ⟨fun dx => @p1K p1 dx ⟨fun w => Q w δ1⟩⟩) Y := z_dUn
theorem z_dNil : dNil δ QA Y = QA [] δ := rfl
theorem y_dNil : dNil δ QA Y = QA [] δ := z_dNil
theorem z_dCons : dCons ta tA δ QA Y = ta δ (fun x δ1 => tA δ1 (fun xs δ2 => QA (x :: xs) δ2) Y) Y := rfl
theorem y_dCons : dCons ta tA δ QA Y = ta δ (fun x δ1 => tA δ1 (fun xs δ2 => QA (x :: xs) δ2) Y) Y := z_dCons
theorem z_dCallP : dCallP pn tA δ Q Y = tA δ (fun ws δ1 => onS (vals δ1 ws) fun ds => pn ds fun w => Q w δ1) Y := by simp only [dCallP, ex_onS]
theorem y_dCallP : dCallP pn tA δ Q Y = tA δ (fun ws δ1 => @cS _ (vals δ1 ws) ⟨fun ds => @pnK pn ds ⟨fun w => Q w δ1⟩⟩) Y := z_dCallP
theorem z_dTst : dTst ta δ QT Y = ta δ (fun x δ1 => onBl (val δ1 x) fun k => QT k δ1) Y := by simp only [dTst, ex_onBl]
theorem y_dTst : dTst ta δ QT Y = ta δ (fun x δ1 => @cBl (val δ1 x) ⟨fun k => QT k δ1⟩) Y := z_dTst
theorem z_dAnd : dAnd t u δ QT Y = t δ (fun k δ1 => onB k (u δ1 QT Y) (QT false δ1)) Y := by simp only [dAnd, if_onB]
theorem y_dAnd : dAnd t u δ QT Y = t δ (fun k δ1 => @cB k ⟨(u δ1 QT Y), (QT false δ1)⟩) Y := z_dAnd
theorem z_dOr : dOr t u δ QT Y = t δ (fun k δ1 => onB k (QT true δ1) (u δ1 QT Y)) Y := by simp only [dOr, if_onB]
theorem y_dOr : dOr t u δ QT Y = t δ (fun k δ1 => @cB k ⟨(QT true δ1), (u δ1 QT Y)⟩) Y := z_dOr
theorem z_dNot : dNot t δ QT Y = t δ (fun k δ1 => QT (!k) δ1) Y := rfl
theorem y_dNot : dNot t δ QT Y = t δ (fun k δ1 => QT (!k) δ1) Y := z_dNot
theorem z_dAndV : dAndV ta tb δ Q Y = ta δ (fun x δ1 => onBl (val δ1 x) fun k => onB k (tb δ1 Q Y) (Q (.pu (.sc (.bl false))) δ1)) Y := by simp only [dAndV, ex_onBl, if_onB]
theorem y_dAndV : dAndV ta tb δ Q Y = ta δ (fun x δ1 => @cBl (val δ1 x) ⟨fun k => @cB k ⟨(tb δ1 Q Y), (Q (.pu (.sc (.bl false))) δ1)⟩⟩) Y := z_dAndV
theorem z_dOrV : dOrV ta tb δ Q Y = ta δ (fun x δ1 => onBl (val δ1 x) fun k => onB k (Q (.pu (.sc (.bl true))) δ1) (tb δ1 Q Y)) Y := by simp only [dOrV, ex_onBl, if_onB]
theorem y_dOrV : dOrV ta tb δ Q Y = ta δ (fun x δ1 => @cBl (val δ1 x) ⟨fun k => @cB k ⟨(Q (.pu (.sc (.bl true))) δ1), (tb δ1 Q Y)⟩⟩) Y := z_dOrV
theorem z_dNotV : dNotV ta δ Q Y = ta δ (fun x δ1 => onBl (val δ1 x) fun k => Q (.pu (.sc (.bl (!k)))) δ1) Y := by simp only [dNotV, ex_onBl]
theorem y_dNotV : dNotV ta δ Q Y = ta δ (fun x δ1 => @cBl (val δ1 x) ⟨fun k => Q (.pu (.sc (.bl (!k)))) δ1⟩) Y := z_dNotV
theorem z_dIf : dIf t ta tb δ Q Y = t δ (fun k δ1 => onB k (ta δ1 Q Y) (tb δ1 Q Y)) Y := by simp only [dIf, if_onB]
theorem y_dIf : dIf t ta tb δ Q Y = t δ (fun k δ1 => @cB k ⟨(ta δ1 Q Y), (tb δ1 Q Y)⟩) Y := z_dIf
theorem z_dFz : dFz ta δ Q Y = ta δ (fun w δ1 => onS (frz1 δ1 w) fun p => Q (.pu p.1) p.2) Y := by simp only [dFz, ex_onS2]
theorem y_dFz : dFz ta δ Q Y = ta δ (fun w δ1 => @cS _ (frz1 δ1 w) ⟨fun p => Q (.pu p.1) p.2⟩) Y := z_dFz
theorem z_dTup : dTup tA δ Q Y = tA δ (fun ws δ1 => onS (pures ws) fun ds => ds.length ≤ sizeLine ∧ Q (.pu (.tup ds)) δ1) Y := by simp only [dTup, ex_onS]
theorem y_dTup : dTup tA δ Q Y = tA δ (fun ws δ1 => @cS _ (pures ws) ⟨fun ds => ds.length ≤ sizeLine ∧ Q (.pu (.tup ds)) δ1⟩) Y := z_dTup
theorem z_dLst : dLst tA δ Q Y = tA δ (fun ws δ1 => onS (pures ws) fun ds => ds.length ≤ sizeLine ∧ Q (.ow (.lst ds)) δ1) Y := by simp only [dLst, ex_onS]
theorem y_dLst : dLst tA δ Q Y = tA δ (fun ws δ1 => @cS _ (pures ws) ⟨fun ds => ds.length ≤ sizeLine ∧ Q (.ow (.lst ds)) δ1⟩) Y := z_dLst
theorem z_dCall : dCall sp tA δ Q Y = tA δ (fun ws δ1 => onS (dargs δ1 ws) fun as => callK sp as (fun r as' => onS (dback δ1 ws as') fun δ2 => Q r δ2) (fun c as' => onS (dback δ1 ws as') fun δ2 => Y c δ2)) Y := by simp only [dCall, ex_onS, callK]
theorem y_dCall : dCall sp tA δ Q Y = tA δ (fun ws δ1 => @cS _ (dargs δ1 ws) ⟨fun as => @callC sp as ⟨(fun r as' => @cS _ (dback δ1 ws as') ⟨fun δ2 => Q r δ2⟩), (fun c as' => @cS _ (dback δ1 ws as') ⟨fun δ2 => Y c δ2⟩)⟩⟩) Y := z_dCall
theorem z_dLam : dLam K cl last te δ Q Y = te δ (fun _ δ1 => Q (.pu (.sc (.str last))) δ1) (fun c δ1 => pickK K c (fun r => Q (.pu (.sc (.str r))) δ1) cl) := rfl
theorem y_dLam : dLam K cl last te δ Q Y = te δ (fun _ δ1 => Q (.pu (.sc (.str last))) δ1) (fun c δ1 => pickK K c (fun r => Q (.pu (.sc (.str r))) δ1) cl) := z_dLam
theorem z_dNext : dNext E δ = E.nx δ := rfl
theorem y_dNext : dNext E δ = E.nx δ := z_dNext
theorem z_dBrk : dBrk E δ = E.bk δ := rfl
theorem y_dBrk : dBrk E δ = E.bk δ := z_dBrk
theorem z_dCnt : dCnt E δ = E.ct δ := rfl
theorem y_dCnt : dCnt E δ = E.ct δ := z_dCnt
theorem z_dDrop : dDrop ta E δ = ta δ (fun _ δ1 => E.nx δ1) E.ex := rfl
theorem y_dDrop : dDrop ta E δ = ta δ (fun _ δ1 => E.nx δ1) E.ex := z_dDrop
theorem z_dRet : dRet ta E δ = ta δ (fun w δ1 => onS (out1 δ1 w) fun p => E.rt p.1 p.2) E.ex := by simp only [dRet, ex_onS2]
theorem y_dRet : dRet ta E δ = ta δ (fun w δ1 => @cS _ (out1 δ1 w) ⟨fun p => E.rt p.1 p.2⟩) E.ex := z_dRet
theorem z_dRetN : dRetN E δ = E.rt (.pu (.sc .non)) δ := rfl
theorem y_dRetN : dRetN E δ = E.rt (.pu (.sc .non)) δ := z_dRetN
theorem z_dIfS : dIfS t ts us E δ = t δ (fun k δ1 => onB k (ts E δ1) (us E δ1)) E.ex := by simp only [dIfS, if_onB]
theorem y_dIfS : dIfS t ts us E δ = t δ (fun k δ1 => @cB k ⟨(ts E δ1), (us E δ1)⟩) E.ex := z_dIfS
theorem z_dSet : dSet i ta E δ = ta δ (fun w δ1 => onS (put1 δ1 i w) E.nx) E.ex := by simp only [dSet, ex_onS]
theorem y_dSet : dSet i ta E δ = ta δ (fun w δ1 => @cS _ (put1 δ1 i w) ⟨E.nx⟩) E.ex := z_dSet
theorem z_dgName : dgName i d δ QG = QG (δ.put i (some (.pu d))) := rfl
theorem y_dgName : dgName i d δ QG = QG (δ.put i (some (.pu d))) := z_dgName
theorem z_dgNil : dgNil ds δ QG = onNil ds (QG δ) := by simp only [dgNil, ex_onNil]
theorem y_dgNil : dgNil ds δ QG = @cNil ds ⟨(QG δ)⟩ := z_dgNil
theorem z_dgCons : dgCons gt gs ds δ QG = onCons ds fun d r => gt d δ fun δ1 => gs r δ1 QG := by simp only [dgCons, ex_onCons]
theorem y_dgCons : dgCons gt gs ds δ QG = @cCons ds ⟨fun d r => gt d δ fun δ1 => gs r δ1 QG⟩ := z_dgCons
theorem z_dgTup : dgTup gs d δ QG = onTup d fun ds => gs ds δ QG := by simp only [dgTup, ex_onTup]
theorem y_dgTup : dgTup gs d δ QG = @cTup d ⟨fun ds => gs ds δ QG⟩ := z_dgTup
theorem z_dgLst : dgLst gs d δ QG = onLst d fun ds => gs ds δ QG := by simp only [dgLst, ex_onLst]
theorem y_dgLst : dgLst gs d δ QG = @cLst d ⟨fun ds => gs ds δ QG⟩ := z_dgLst
theorem z_dgTxt : dgTxt gs d δ QG = onTxt d fun z => onS (two? z) fun p => gs [.sc (.str (sign p.1)), .sc (.str (sign p.2))] δ QG := by simp only [dgTxt]; exact ex_txt (k := fun _ a b => gs [.sc (.str (sign a)), .sc (.str (sign b))] δ QG)
theorem y_dgTxt : dgTxt gs d δ QG = @cTxt d ⟨fun z => @cS _ (two? z) ⟨fun p => gs [.sc (.str (sign p.1)), .sc (.str (sign p.2))] δ QG⟩⟩ := z_dgTxt
theorem z_dAsg : dAsg ta gt E δ = ta δ (fun w δ1 => onS (frz1 δ1 w) fun p => gt p.1 p.2 E.nx) E.ex := by simp only [dAsg, ex_onS2]
theorem y_dAsg : dAsg ta gt E δ = ta δ (fun w δ1 => @cS _ (frz1 δ1 w) ⟨fun p => gt p.1 p.2 E.nx⟩) E.ex := z_dAsg
theorem z_dIt : dIt ta δ QI Y = ta δ (fun w δ1 => onS (frz1 δ1 w) fun p => onS (itemsD p.1) fun ds => QI ds p.2) Y := by simp only [dIt, ex_onS2, ex_onS]
theorem y_dIt : dIt ta δ QI Y = ta δ (fun w δ1 => @cS _ (frz1 δ1 w) ⟨fun p => @cS _ (itemsD p.1) ⟨fun ds => QI ds p.2⟩⟩) Y := z_dIt
theorem z_dRng1 : dRng1 tA δ QI Y = tA δ (fun ws δ1 => onS (vals δ1 ws) fun ds => onI1 ds fun j => -(2 ^ 62) ≤ j ∧ j < 2 ^ 62 ∧ QI (rngL 0 j.toNat) δ1) Y := by simp only [dRng1, ex_i1]
theorem y_dRng1 : dRng1 tA δ QI Y = tA δ (fun ws δ1 => @cS _ (vals δ1 ws) ⟨fun ds => @cI1 ds ⟨fun j => -(2 ^ 62) ≤ j ∧ j < 2 ^ 62 ∧ QI (rngL 0 j.toNat) δ1⟩⟩) Y := z_dRng1
theorem z_dRng2 : dRng2 tA δ QI Y = tA δ (fun ws δ1 => onS (vals δ1 ws) fun ds => onI2 ds fun i j => (-(2 ^ 62) ≤ i ∧ i < 2 ^ 62 ∧ -(2 ^ 62) ≤ j ∧ j < 2 ^ 62) ∧ QI (rngL i (j - i).toNat) δ1) Y := by simp only [dRng2, ex_i2]
theorem y_dRng2 : dRng2 tA δ QI Y = tA δ (fun ws δ1 => @cS _ (vals δ1 ws) ⟨fun ds => @cI2 ds ⟨fun i j => (-(2 ^ 62) ≤ i ∧ i < 2 ^ 62 ∧ -(2 ^ 62) ≤ j ∧ j < 2 ^ 62) ∧ QI (rngL i (j - i).toNat) δ1⟩⟩) Y := z_dRng2
theorem z_dEnum : dEnum tA δ QI Y = tA δ (fun ws δ1 => onS (pures ws) fun ds => onOne ds fun d => onS (itemsD d) fun ds => QI (enD 0 ds) δ1) Y := by simp only [dEnum, ex_one, ex_onS]
theorem y_dEnum : dEnum tA δ QI Y = tA δ (fun ws δ1 => @cS _ (pures ws) ⟨fun ds => @cOne ds ⟨fun d => @cS _ (itemsD d) ⟨fun ds => QI (enD 0 ds) δ1⟩⟩⟩) Y := z_dEnum
theorem z_dZip : dZip st tA δ QI Y = tA δ (fun ws δ1 => onS (pures ws) fun ds => onPair ds fun d1 d2 => onS (itemsD d1) fun ds1 => onS (itemsD d2) fun ds2 => (st = true → ds1.length = ds2.length) ∧ QI (zipD ds1 ds2) δ1) Y := by simp only [dZip, ex_pair, ex_onS]
theorem y_dZip : dZip st tA δ QI Y = tA δ (fun ws δ1 => @cS _ (pures ws) ⟨fun ds => @cPair ds ⟨fun d1 d2 => @cS _ (itemsD d1) ⟨fun ds1 => @cS _ (itemsD d2) ⟨fun ds2 => (st = true → ds1.length = ds2.length) ∧ QI (zipD ds1 ds2) δ1⟩⟩⟩⟩) Y := z_dZip
theorem z_dFor : dFor ti gt ts E δ = ti δ (fun ds δ1 => dForL gt ts E ds δ1) E.ex := rfl
theorem y_dFor : dFor ti gt ts E δ = ti δ (fun ds δ1 => dForL gt ts E ds δ1) E.ex := z_dFor
theorem z_dRaise : dRaise C E δ = E.ex (.ref C) δ := rfl
theorem y_dRaise : dRaise C E δ = E.ex (.ref C) δ := z_dRaise
theorem z_dLc : dLc ti gt tt te vs δ Q Y = ti δ (fun ds δ1 => dComp gt tt te vs ds [] (δ1.wipe vs) fun acc δ2 => Q (.ow (.lst acc)) (δ2.rest δ1 vs)) Y := rfl
theorem y_dLc : dLc ti gt tt te vs δ Q Y = ti δ (fun ds δ1 => @compC gt tt te vs ds [] (δ1.wipe vs) ⟨fun acc δ2 => Q (.ow (.lst acc)) (δ2.rest δ1 vs)⟩) Y := z_dLc
theorem z_dLc2 : dLc2 ti gt tt ti1 gt1 tt1 te vs vs1 δ Q Y = ti δ (fun ds δ1 => dComp2 gt tt ti1 gt1 tt1 te vs vs1 ds [] (δ1.wipe vs) fun acc δ2 => Q (.ow (.lst acc)) (δ2.rest δ1 vs)) Y := rfl
theorem y_dLc2 : dLc2 ti gt tt ti1 gt1 tt1 te vs vs1 δ Q Y = ti δ (fun ds δ1 => @compC2 gt tt ti1 gt1 tt1 te vs vs1 ds [] (δ1.wipe vs) ⟨fun acc δ2 => Q (.ow (.lst acc)) (δ2.rest δ1 vs)⟩) Y := z_dLc2
theorem z_dYes : dYes δ QT Y = QT true δ := rfl
theorem y_dYes : dYes δ QT Y = QT true δ := z_dYes
theorem z_dNewD : dNewD δ Q Y = Q (.ow (.dic [])) δ := rfl
theorem y_dNewD : dNewD δ Q Y = Q (.ow (.dic [])) δ := z_dNewD
theorem z_dMi : dMi pl ta tA δ Q Y = ta δ (fun x δ1 => isLM (getM δ1 x) (tA δ1 (fun ws δ2 => onLM (getM δ2 x) fun xs => onS (pures ws) fun ds => pl xs ds fun d xs' => Q (.pu d) (setM δ2 x (.lst xs'))) Y)) Y := by simp only [dMi, ex_isLM, ex_onLM, ex_onS]
theorem y_dMi : dMi pl ta tA δ Q Y = ta δ (fun x δ1 => @dLM (getM δ1 x) ⟨(tA δ1 (fun ws δ2 => @cLM (getM δ2 x) ⟨fun xs => @cS _ (pures ws) ⟨fun ds => @plK pl xs ds ⟨fun d xs' => Q (.pu d) (setM δ2 x (.lst xs'))⟩⟩⟩) Y)⟩) Y := z_dMi
theorem z_dMs : dMs pm ta tA δ Q Y = ta δ (fun x δ1 => isSD (val δ1 x) (tA δ1 (fun ws δ2 => onS (val δ2 x) fun dx => onS (vals δ2 ws) fun ds => pm dx ds fun w => Q w δ2) Y)) Y := by simp only [dMs, ex_isSD, ex_onS]
theorem y_dMs : dMs pm ta tA δ Q Y = ta δ (fun x δ1 => @cSD (val δ1 x) ⟨(tA δ1 (fun ws δ2 => @cS _ (val δ2 x) ⟨fun dx => @cS _ (vals δ2 ws) ⟨fun ds => @pmK pm dx ds ⟨fun w => Q w δ2⟩⟩⟩) Y)⟩) Y := z_dMs
theorem z_dMl : dMl pm ta tA δ Q Y = ta δ (fun x δ1 => isLD (val δ1 x) (tA δ1 (fun ws δ2 => onS (val δ2 x) fun dx => onS (vals δ2 ws) fun ds => pm dx ds fun w => Q w δ2) Y)) Y := by simp only [dMl, ex_isLD, ex_onS]
theorem y_dMl : dMl pm ta tA δ Q Y = ta δ (fun x δ1 => @cLD (val δ1 x) ⟨(tA δ1 (fun ws δ2 => @cS _ (val δ2 x) ⟨fun dx => @cS _ (vals δ2 ws) ⟨fun ds => @pmK pm dx ds ⟨fun w => Q w δ2⟩⟩⟩) Y)⟩) Y := z_dMl
theorem z_dgSet : dgSet ta tb d δ QG = ta δ (fun x δ1 => tb δ1 (fun y δ2 => onLM (getM δ2 x) fun xs => onInt (val δ2 y) fun k => onS (ixN xs.length k) fun j => QG (setM δ2 x (.lst (xs.set j d)))) fun _ _ => False) fun _ _ => False := by simp only [dgSet, ex_onLM, ex_onInt, ex_onS]
theorem y_dgSet : dgSet ta tb d δ QG = ta δ (fun x δ1 => tb δ1 (fun y δ2 => @cLM (getM δ2 x) ⟨fun xs => @cInt (val δ2 y) ⟨fun k => @cS _ (ixN xs.length k) ⟨fun j => QG (setM δ2 x (.lst (xs.set j d)))⟩⟩⟩) fun _ _ => False) fun _ _ => False := z_dgSet
theorem z_dPar : dPar i j tA E δ = tA δ (fun ws δ1 => onS (pures ws) fun ds => onPair ds fun d1 d2 => E.nx ((δ1.put i (some (.pu d1))).put j (some (.pu d2)))) E.ex := by simp only [dPar, ex_pair]
theorem y_dPar : dPar i j tA E δ = tA δ (fun ws δ1 => @cS _ (pures ws) ⟨fun ds => @cPair ds ⟨fun d1 d2 => E.nx ((δ1.put i (some (.pu d1))).put j (some (.pu d2)))⟩⟩) E.ex := z_dPar
theorem z_dONo : dONo δ QO Y = QO none δ := rfl
theorem y_dONo : dONo δ QO Y = QO none δ := z_dONo
theorem z_dOSome : dOSome ta δ QO Y = ta δ (fun w δ1 => onInt (val δ1 w) fun i => QO (some i) δ1) Y := by simp only [dOSome, ex_onInt]
theorem y_dOSome : dOSome ta δ QO Y = ta δ (fun w δ1 => @cInt (val δ1 w) ⟨fun i => QO (some i) δ1⟩) Y := z_dOSome
theorem z_dSl : dSl ps ta tl th δ Q Y = ta δ (fun x δ1 => tl δ1 (fun l δ2 => th δ2 (fun u δ3 => onS (val δ3 x) fun dx => ps dx l u fun w => Q w δ3) Y) Y) Y := by simp only [dSl, ex_onS]
theorem y_dSl : dSl ps ta tl th δ Q Y = ta δ (fun x δ1 => tl δ1 (fun l δ2 => th δ2 (fun u δ3 => @cS _ (val δ3 x) ⟨fun dx => @psK ps dx l u ⟨fun w => Q w δ3⟩⟩) Y) Y) Y := z_dSl
theorem z_dChain : dChain p p' ta tb tc δ Q Y = ta δ (fun x δ1 => tb δ1 (fun y δ2 => onS (val δ2 x) fun dx => onS (val δ2 y) fun dy => p dx dy fun w => onBw w fun k => onB k (tc δ2 (fun z δ3 => onS (val δ3 y) fun dy' => onS (val δ3 z) fun dz => p' dy' dz fun w => Q w δ3) Y) (Q (.pu (.sc (.bl false))) δ2)) Y) Y := by simp only [dChain, ex_onS, ex_onBw, if_onB]
theorem y_dChain : dChain p p' ta tb tc δ Q Y = ta δ (fun x δ1 => tb δ1 (fun y δ2 => @cS _ (val δ2 x) ⟨fun dx => @cS _ (val δ2 y) ⟨fun dy => @p2K p dx dy ⟨fun w => @cBw w ⟨fun k => @cB k ⟨(tc δ2 (fun z δ3 => @cS _ (val δ3 y) ⟨fun dy' => @cS _ (val δ3 z) ⟨fun dz => @p2K p' dy' dz ⟨fun w => Q w δ3⟩⟩⟩) Y), (Q (.pu (.sc (.bl false))) δ2)⟩⟩⟩⟩⟩) Y) Y := z_dChain
theorem z_subP {i j : Int} : subP (.sc (.int i)) (.sc (.int j)) Qp = (Qp (.pu (.sc (.int (i - j))))) := rfl
theorem z_divP {i j : Int} : divP (.sc (.int i)) (.sc (.int j)) Qp = ((0 < j ∧ j.natAbs.log2 < 9000) ∧ Qp (.pu (.sc (.int (i / j))))) := rfl
theorem z_modP {i j : Int} : modP (.sc (.int i)) (.sc (.int j)) Qp = (0 < j ∧ Qp (.pu (.sc (.int (i % j))))) := rfl
theorem z_powP {i j : Int} : powP (.sc (.int i)) (.sc (.int j)) Qp = ((0 ≤ j ∧ j ≤ 1000000 ∧ i.natAbs < 2 ^ 64) ∧ Qp (.pu (.sc (.int (i ^ j.toNat))))) := rfl
theorem z_ltP {i j : Int} : DL.ltP (.sc (.int i)) (.sc (.int j)) Qp = (Qp (.pu (.sc (.bl (decide (i < j)))))) := rfl
theorem z_leP {i j : Int} : DL.leP (.sc (.int i)) (.sc (.int j)) Qp = (Qp (.pu (.sc (.bl (decide (i ≤ j)))))) := rfl
theorem z_gtP {i j : Int} : DL.gtP (.sc (.int i)) (.sc (.int j)) Qp = (Qp (.pu (.sc (.bl (decide (j < i)))))) := rfl
theorem z_geP {i j : Int} : DL.geP (.sc (.int i)) (.sc (.int j)) Qp = (Qp (.pu (.sc (.bl (decide (j ≤ i)))))) := rfl
theorem z_addP_i {i j : Int} : addP (.sc (.int i)) (.sc (.int j)) Qp = (Qp (.pu (.sc (.int (i + j))))) := rfl
theorem z_addP_s {a b : Str} : addP (.sc (.str a)) (.sc (.str b)) Qp = (a.length + b.length ≤ sizeLine ∧ Qp (.pu (.sc (.str (a ++ b))))) := rfl
theorem z_addP_l {xs ys : List DL.D} : addP (.lst xs) (.lst ys) Qp = (xs.length + ys.length ≤ sizeLine ∧ Qp (.ow (.lst (xs ++ ys)))) := rfl
theorem z_addP_t {xs ys : List DL.D} : addP (.tup xs) (.tup ys) Qp = (xs.length + ys.length ≤ sizeLine ∧ Qp (.pu (.tup (xs ++ ys)))) := rfl
theorem z_mulP_i {i j : Int} : mulP (.sc (.int i)) (.sc (.int j)) Qp = (i.natAbs.log2 + j.natAbs.log2 < 1000000 ∧ Qp (.pu (.sc (.int (i * j))))) := rfl
theorem z_mulP_s {z : Str} {n : Int} : mulP (.sc (.str z)) (.sc (.int n)) Qp = ((-(2 ^ 63) ≤ n ∧ n < 2 ^ 63 ∧ z.length * n.toNat ≤ 16777216) ∧ Qp (.pu (.sc (.str (repS z n))))) := rfl
theorem z_mulP_l {xs : List DL.D} {n : Int} : mulP (.lst xs) (.sc (.int n)) Qp = ((-(2 ^ 63) ≤ n ∧ n < 2 ^ 63 ∧ xs.length * n.toNat ≤ sizeLine) ∧ Qp (.ow (.lst (List.replicate n.toNat xs).flatten))) := rfl
theorem z_mulP_t {xs : List DL.D} {n : Int} : mulP (.tup xs) (.sc (.int n)) Qp = ((xs ≠ [] ∧ 2 ≤ n ∧ n ≤ 1000 ∧ xs.length ≤ 1000) ∧ Qp (.pu (.tup (List.replicate n.toNat xs).flatten))) := rfl
theorem z_eqP_s {x y : V} : eqP neg (.sc x) (.sc y) Qp = (scal x y = true ∧ Qp (.pu (.sc (.bl (neg ^^ decide (x = y)))))) := rfl
theorem z_eqP_ll {xs : List DL.D} {ys : List DL.D} : eqP neg (.lst xs) (.lst ys) Qp = onS (toPD (.lst xs)) fun a => onS (toPD (.lst ys)) fun b => (SeqAt.shaped a = true ∧ SeqAt.shaped b = true) ∧ Qp (.pu (.sc (.bl (neg ^^ PyData.eqv a b)))) := by simp only [eqP, ex_onS]
theorem z_eqP_lt {xs : List DL.D} {ys : List DL.D} : eqP neg (.lst xs) (.tup ys) Qp = onS (toPD (.lst xs)) fun a => onS (toPD (.tup ys)) fun b => (SeqAt.shaped a = true ∧ SeqAt.shaped b = true) ∧ Qp (.pu (.sc (.bl (neg ^^ PyData.eqv a b)))) := by simp only [eqP, ex_onS]
theorem z_eqP_ls {xs : List DL.D} {y : V} : eqP neg (.lst xs) (.sc y) Qp = onS (toPD (.lst xs)) fun a => onS (toPD (.sc y)) fun b => (SeqAt.shaped a = true ∧ SeqAt.shaped b = true) ∧ Qp (.pu (.sc (.bl (neg ^^ PyData.eqv a b)))) := by simp only [eqP, ex_onS]
theorem z_eqP_ld {xs : List DL.D} {ky : List (Key × DL.D)} : eqP neg (.lst xs) (.dic ky) Qp = onS (toPD (.lst xs)) fun a => onS (toPD (.dic ky)) fun b => (SeqAt.shaped a = true ∧ SeqAt.shaped b = true) ∧ Qp (.pu (.sc (.bl (neg ^^ PyData.eqv a b)))) := by simp only [eqP, ex_onS]
theorem z_eqP_tl {xs : List DL.D} {ys : List DL.D} : eqP neg (.tup xs) (.lst ys) Qp = onS (toPD (.tup xs)) fun a => onS (toPD (.lst ys)) fun b => (SeqAt.shaped a = true ∧ SeqAt.shaped b = true) ∧ Qp (.pu (.sc (.bl (neg ^^ PyData.eqv a b)))) := by simp only [eqP, ex_onS]
theorem z_eqP_tt {xs : List DL.D} {ys : List DL.D} : eqP neg (.tup xs) (.tup ys) Qp = onS (toPD (.tup xs)) fun a => onS (toPD (.tup ys)) fun b => (SeqAt.shaped a = true ∧ SeqAt.shaped b = true) ∧ Qp (.pu (.sc (.bl (neg ^^ PyData.eqv a b)))) := by simp only [eqP, ex_onS]
theorem z_eqP_ts {xs : List DL.D} {y : V} : eqP neg (.tup xs) (.sc y) Qp = onS (toPD (.tup xs)) fun a => onS (toPD (.sc y)) fun b => (SeqAt.shaped a = true ∧ SeqAt.shaped b = true) ∧ Qp (.pu (.sc (.bl (neg ^^ PyData.eqv a b)))) := by simp only [eqP, ex_onS]
theorem z_eqP_td {xs : List DL.D} {ky : List (Key × DL.D)} : eqP neg (.tup xs) (.dic ky) Qp = onS (toPD (.tup xs)) fun a => onS (toPD (.dic ky)) fun b => (SeqAt.shaped a = true ∧ SeqAt.shaped b = true) ∧ Qp (.pu (.sc (.bl (neg ^^ PyData.eqv a b)))) := by simp only [eqP, ex_onS]
theorem z_eqP_sl {x : V} {ys : List DL.D} : eqP neg (.sc x) (.lst ys) Qp = onS (toPD (.sc x)) fun a => onS (toPD (.lst ys)) fun b => (SeqAt.shaped a = true ∧ SeqAt.shaped b = true) ∧ Qp (.pu (.sc (.bl (neg ^^ PyData.eqv a b)))) := by simp only [eqP, ex_onS]
theorem z_eqP_st {x : V} {ys : List DL.D} : eqP neg (.sc x) (.tup ys) Qp = onS (toPD (.sc x)) fun a => onS (toPD (.tup ys)) fun b => (SeqAt.shaped a = true ∧ SeqAt.shaped b = true) ∧ Qp (.pu (.sc (.bl (neg ^^ PyData.eqv a b)))) := by simp only [eqP, ex_onS]
theorem z_eqP_sd {x : V} {ky : List (Key × DL.D)} : eqP neg (.sc x) (.dic ky) Qp = onS (toPD (.sc x)) fun a => onS (toPD (.dic ky)) fun b => (SeqAt.shaped a = true ∧ SeqAt.shaped b = true) ∧ Qp (.pu (.sc (.bl (neg ^^ PyData.eqv a b)))) := by simp only [eqP, ex_onS]
theorem z_eqP_dl {kx : List (Key × DL.D)} {ys : List DL.D} : eqP neg (.dic kx) (.lst ys) Qp = onS (toPD (.dic kx)) fun a => onS (toPD (.lst ys)) fun b => (SeqAt.shaped a = true ∧ SeqAt.shaped b = true) ∧ Qp (.pu (.sc (.bl (neg ^^ PyData.eqv a b)))) := by simp only [eqP, ex_onS]
theorem z_eqP_dt {kx : List (Key × DL.D)} {ys : List DL.D} : eqP neg (.dic kx) (.tup ys) Qp = onS (toPD (.dic kx)) fun a => onS (toPD (.tup ys)) fun b => (SeqAt.shaped a = true ∧ SeqAt.shaped b = true) ∧ Qp (.pu (.sc (.bl (neg ^^ PyData.eqv a b)))) := by simp only [eqP, ex_onS]
theorem z_eqP_ds {kx : List (Key × DL.D)} {y : V} : eqP neg (.dic kx) (.sc y) Qp = onS (toPD (.dic kx)) fun a => onS (toPD (.sc y)) fun b => (SeqAt.shaped a = true ∧ SeqAt.shaped b = true) ∧ Qp (.pu (.sc (.bl (neg ^^ PyData.eqv a b)))) := by simp only [eqP, ex_onS]
theorem z_eqP_dd {kx : List (Key × DL.D)} {ky : List (Key × DL.D)} : eqP neg (.dic kx) (.dic ky) Qp = onS (toPD (.dic kx)) fun a => onS (toPD (.dic ky)) fun b => (SeqAt.shaped a = true ∧ SeqAt.shaped b = true) ∧ Qp (.pu (.sc (.bl (neg ^^ PyData.eqv a b)))) := by simp only [eqP, ex_onS]
theorem z_inP_s {s z : Str} : inP neg (.sc (.str s)) (.sc (.str z)) Qp = onS (one? s) fun c => Qp (.pu (.sc (.bl (neg ^^ decide (c ∈ z.cps.toList))))) := by simp only [inP, ex_onS]
theorem z_inP_t {x : V} {ys : List DL.D} : inP neg (.sc x) (.tup ys) Qp = onS (flats ys) fun us => flatV x = true ∧ Qp (.pu (.sc (.bl (neg ^^ inV x us)))) := by cases x <;> simp only [inP, ex_onS]
theorem z_inP_l {x : V} {ys : List DL.D} : inP neg (.sc x) (.lst ys) Qp = onS (flats ys) fun us => flatV x = true ∧ Qp (.pu (.sc (.bl (neg ^^ inV x us)))) := by cases x <;> simp only [inP, ex_onS]
theorem z_isNP_s {x : V} : isNP neg (.sc x) (.sc .non) Qp = (Qp (.pu (.sc (.bl (neg ^^ decide (x = .non)))))) := rfl
theorem z_isNP_t {xs : List DL.D} : isNP neg (.tup xs) (.sc .non) Qp = (Qp (.pu (.sc (.bl neg)))) := rfl
theorem z_isNP_l {xs : List DL.D} : isNP neg (.lst xs) (.sc .non) Qp = (Qp (.pu (.sc (.bl neg)))) := rfl
theorem z_isNP_d {xs : List (Key × DL.D)} : isNP neg (.dic xs) (.sc .non) Qp = (Qp (.pu (.sc (.bl neg)))) := rfl
theorem z_isBP {a b : Bool} : isBP neg (.sc (.bl a)) (.sc (.bl b)) Qp = (Qp (.pu (.sc (.bl (neg ^^ decide (a = b)))))) := rfl
theorem z_ixP_l {xs : List DL.D} {i : Int} : ixP (.lst xs) (.sc (.int i)) Qp = onS (L2.atI xs i) fun d => Qp (.pu d) := by simp only [ixP, ex_onS]
theorem z_ixP_t {xs : List DL.D} {i : Int} : ixP (.tup xs) (.sc (.int i)) Qp = onS (L2.atI xs i) fun d => Qp (.pu d) := by simp only [ixP, ex_onS]
theorem z_ixP_s {z : Str} {i : Int} : ixP (.sc (.str z)) (.sc (.int i)) Qp = (z.length ≤ sizeLine ∧ onS (L2.atI z.cps.toList i) fun c => Qp (.pu (.sc (.str (sign c))))) := by simp only [ixP, ex_onS]
theorem z_lenP : lenP [d] Qp = onS (lenD d) fun n => Qp (.pu (.sc (.int n))) := by simp only [lenP, ex_onS]
theorem z_isiP {T : String} : isiP [d, .sc (.ty T)] Qp = onS (tyD d) fun t => onS (kitB t T) fun b => Qp (.pu (.sc (.bl b))) := by simp only [isiP, ex_onS]
theorem z_allP : allP [.lst ds] Qp = onS (bools ds) fun bs => Qp (.pu (.sc (.bl (bs.all id)))) := by simp only [allP, ex_onS]
theorem z_anyP : anyP [.lst ds] Qp = onS (bools ds) fun bs => Qp (.pu (.sc (.bl (bs.any id)))) := by simp only [anyP, ex_onS]
theorem z_intP_i {i : Int} : intP [.sc (.int i)] Qp = (Qp (.pu (.sc (.int i)))) := rfl
theorem z_intP_b {b : Bool} : intP [.sc (.bl b)] Qp = (Qp (.pu (.sc (.int (if b then 1 else 0))))) := rfl
theorem z_listP_l : listP [.lst ds] Qp = (Qp (.ow (.lst ds))) := rfl
theorem z_listP_t : listP [.tup ds] Qp = (Qp (.ow (.lst ds))) := rfl
theorem z_tupleP_l : tupleP [.lst ds] Qp = (Qp (.pu (.tup ds))) := rfl
theorem z_tupleP_t : tupleP [.tup ds] Qp = (Qp (.pu (.tup ds))) := rfl
theorem z_sortedSP : sortedSP [.lst ds] Qp = onS (strsD ds) fun zs => zs.length < 64 ∧ ∀ ys : List Str, ys.Perm zs → PyProof.Rows.sortedS ys = true → Qp (.ow (.lst (ys.map fun z => .sc (.str z)))) := by simp only [sortedSP, ex_onS]
def shows (p : PyData) : Prop := PyData.showable p = true ∧ p.depth ≤ 64 ∧ p.shown.length ≤ sizeLine
theorem z_reprP : reprP [d] Qp = onS (toPD d) fun p => shows p ∧ Qp (.pu (.sc (.str p.shown))) := by simp only [reprP, ex_onS, shows, and_assoc]
theorem z_negP {i : Int} : negP (.sc (.int i)) Qp = (Qp (.pu (.sc (.int (-i))))) := rfl
theorem z_revP_s {z : Str} : revP (.sc (.str z)) Qp = (z.length ≤ sizeLine ∧ Qp (.pu (.sc (.str (revS z))))) := rfl
theorem z_revP_l : revP (.lst ds) Qp = (Qp (.ow (.lst ds.reverse))) := rfl
theorem z_slP_l : slP (.lst ds) lo hi Qp = (Qp (.ow (.lst (cutL ds lo hi)))) := rfl
theorem z_slP_t : slP (.tup ds) lo hi Qp = (Qp (.pu (.tup (cutL ds lo hi)))) := rfl
theorem z_slP_r {ns : List Int} : slP (.scr ns) lo hi Qp = (Qp (.ow (.lst ((cutL ns lo hi).map fun n => .sc (.int n))))) := rfl
theorem z_slP_s {z : Str} : slP (.sc (.str z)) lo hi Qp = (z.length ≤ sizeLine ∧ Qp (.pu (.sc (.str (cutS z lo hi))))) := rfl
theorem z_findP {a b : Str} : findP (.sc (.str a)) [.sc (.str b)] Qp = (Qp (.pu (.sc (.int (Txt.find a b))))) := rfl
theorem z_countP {a b : Str} : countP (.sc (.str a)) [.sc (.str b)] Qp = (Qp (.pu (.sc (.int (Txt.count a b))))) := rfl
theorem z_joinP {a : Str} : joinP (.sc (.str a)) [.lst ds] Qp = onS (strsD ds) fun ys => (ys.map (·.length)).sum + ys.length * a.length ≤ 16777216 ∧ Qp (.pu (.sc (.str (Txt.join a ys)))) := by simp only [joinP, ex_onS]
theorem z_lcountP_s {a : Str} : lcountP (.lst ds) [.sc (.str a)] Qp = onS (strsD ds) fun ys => Qp (.pu (.sc (.int (ys.count a : Nat)))) := by simp only [lcountP, ex_onS]
theorem z_lcountP_i {a : Int} : lcountP (.lst ds) [.sc (.int a)] Qp = onS (intsD ds) fun ys => Qp (.pu (.sc (.int (ys.count a : Nat)))) := by simp only [lcountP, ex_onS]
theorem z_appP {xs : List DL.D} : appP xs [d] Ql = (xs.length < sizeLine ∧ Ql (.sc .non) (xs ++ [d])) := by
  unfold appP
  simp only [eq_iff_iff, List.cons.injEq, and_true]
  exact ⟨fun ⟨_, e, h⟩ => by subst e; exact h, fun h => ⟨d, rfl, h⟩⟩
theorem z_insP {xs : List DL.D} {i : Int} : insP xs [.sc (.int i), d] Ql = (xs.length < sizeLine ∧ 0 ≤ i ∧ i < 2 ^ 63 ∧ Ql (.sc .non) (xs.take i.toNat ++ [d] ++ xs.drop i.toNat)) := by
  unfold insP
  simp only [eq_iff_iff, List.cons.injEq, and_true, D.sc.injEq, V.int.injEq]
  exact ⟨fun ⟨_, _, ⟨e, e2⟩, h⟩ => by subst e e2; exact h, fun h => ⟨i, d, ⟨rfl, rfl⟩, h⟩⟩
theorem y_subP {i j : Int} : @p2K subP (.sc (.int i)) (.sc (.int j)) ⟨Qp⟩ = (Qp (.pu (.sc (.int (i - j))))) := z_subP
theorem y_divP {i j : Int} : @p2K divP (.sc (.int i)) (.sc (.int j)) ⟨Qp⟩ = ((0 < j ∧ j.natAbs.log2 < 9000) ∧ Qp (.pu (.sc (.int (i / j))))) := z_divP
theorem y_modP {i j : Int} : @p2K modP (.sc (.int i)) (.sc (.int j)) ⟨Qp⟩ = (0 < j ∧ Qp (.pu (.sc (.int (i % j))))) := z_modP
theorem y_powP {i j : Int} : @p2K powP (.sc (.int i)) (.sc (.int j)) ⟨Qp⟩ = ((0 ≤ j ∧ j ≤ 1000000 ∧ i.natAbs < 2 ^ 64) ∧ Qp (.pu (.sc (.int (i ^ j.toNat))))) := z_powP
theorem y_ltP {i j : Int} : @p2K DL.ltP (.sc (.int i)) (.sc (.int j)) ⟨Qp⟩ = (Qp (.pu (.sc (.bl (decide (i < j)))))) := z_ltP
theorem y_leP {i j : Int} : @p2K DL.leP (.sc (.int i)) (.sc (.int j)) ⟨Qp⟩ = (Qp (.pu (.sc (.bl (decide (i ≤ j)))))) := z_leP
theorem y_gtP {i j : Int} : @p2K DL.gtP (.sc (.int i)) (.sc (.int j)) ⟨Qp⟩ = (Qp (.pu (.sc (.bl (decide (j < i)))))) := z_gtP
theorem y_geP {i j : Int} : @p2K DL.geP (.sc (.int i)) (.sc (.int j)) ⟨Qp⟩ = (Qp (.pu (.sc (.bl (decide (j ≤ i)))))) := z_geP
theorem y_addP_i {i j : Int} : @p2K addP (.sc (.int i)) (.sc (.int j)) ⟨Qp⟩ = (Qp (.pu (.sc (.int (i + j))))) := z_addP_i
theorem y_addP_s {a b : Str} : @p2K addP (.sc (.str a)) (.sc (.str b)) ⟨Qp⟩ = (a.length + b.length ≤ sizeLine ∧ Qp (.pu (.sc (.str (a ++ b))))) := z_addP_s
theorem y_addP_l {xs ys : List DL.D} : @p2K addP (.lst xs) (.lst ys) ⟨Qp⟩ = (xs.length + ys.length ≤ sizeLine ∧ Qp (.ow (.lst (xs ++ ys)))) := z_addP_l
theorem y_addP_t {xs ys : List DL.D} : @p2K addP (.tup xs) (.tup ys) ⟨Qp⟩ = (xs.length + ys.length ≤ sizeLine ∧ Qp (.pu (.tup (xs ++ ys)))) := z_addP_t
theorem y_mulP_i {i j : Int} : @p2K mulP (.sc (.int i)) (.sc (.int j)) ⟨Qp⟩ = (i.natAbs.log2 + j.natAbs.log2 < 1000000 ∧ Qp (.pu (.sc (.int (i * j))))) := z_mulP_i
theorem y_mulP_s {z : Str} {n : Int} : @p2K mulP (.sc (.str z)) (.sc (.int n)) ⟨Qp⟩ = ((-(2 ^ 63) ≤ n ∧ n < 2 ^ 63 ∧ z.length * n.toNat ≤ 16777216) ∧ Qp (.pu (.sc (.str (repS z n))))) := z_mulP_s
theorem y_mulP_l {xs : List DL.D} {n : Int} : @p2K mulP (.lst xs) (.sc (.int n)) ⟨Qp⟩ = ((-(2 ^ 63) ≤ n ∧ n < 2 ^ 63 ∧ xs.length * n.toNat ≤ sizeLine) ∧ Qp (.ow (.lst (List.replicate n.toNat xs).flatten))) := z_mulP_l
theorem y_mulP_t {xs : List DL.D} {n : Int} : @p2K mulP (.tup xs) (.sc (.int n)) ⟨Qp⟩ = ((xs ≠ [] ∧ 2 ≤ n ∧ n ≤ 1000 ∧ xs.length ≤ 1000) ∧ Qp (.pu (.tup (List.replicate n.toNat xs).flatten))) := z_mulP_t
theorem y_eqP_s {x y : V} : @p2K (eqP neg) (.sc x) (.sc y) ⟨Qp⟩ = (scal x y = true ∧ Qp (.pu (.sc (.bl (neg ^^ decide (x = y)))))) := z_eqP_s
theorem y_eqP_ll {xs : List DL.D} {ys : List DL.D} : @p2K (eqP neg) (.lst xs) (.lst ys) ⟨Qp⟩ = @cS _ (toPD (.lst xs)) ⟨fun a => @cS _ (toPD (.lst ys)) ⟨fun b => (SeqAt.shaped a = true ∧ SeqAt.shaped b = true) ∧ Qp (.pu (.sc (.bl (neg ^^ PyData.eqv a b))))⟩⟩ := z_eqP_ll
theorem y_eqP_lt {xs : List DL.D} {ys : List DL.D} : @p2K (eqP neg) (.lst xs) (.tup ys) ⟨Qp⟩ = @cS _ (toPD (.lst xs)) ⟨fun a => @cS _ (toPD (.tup ys)) ⟨fun b => (SeqAt.shaped a = true ∧ SeqAt.shaped b = true) ∧ Qp (.pu (.sc (.bl (neg ^^ PyData.eqv a b))))⟩⟩ := z_eqP_lt
theorem y_eqP_ls {xs : List DL.D} {y : V} : @p2K (eqP neg) (.lst xs) (.sc y) ⟨Qp⟩ = @cS _ (toPD (.lst xs)) ⟨fun a => @cS _ (toPD (.sc y)) ⟨fun b => (SeqAt.shaped a = true ∧ SeqAt.shaped b = true) ∧ Qp (.pu (.sc (.bl (neg ^^ PyData.eqv a b))))⟩⟩ := z_eqP_ls
theorem y_eqP_ld {xs : List DL.D} {ky : List (Key × DL.D)} : @p2K (eqP neg) (.lst xs) (.dic ky) ⟨Qp⟩ = @cS _ (toPD (.lst xs)) ⟨fun a => @cS _ (toPD (.dic ky)) ⟨fun b => (SeqAt.shaped a = true ∧ SeqAt.shaped b = true) ∧ Qp (.pu (.sc (.bl (neg ^^ PyData.eqv a b))))⟩⟩ := z_eqP_ld
theorem y_eqP_tl {xs : List DL.D} {ys : List DL.D} : @p2K (eqP neg) (.tup xs) (.lst ys) ⟨Qp⟩ = @cS _ (toPD (.tup xs)) ⟨fun a => @cS _ (toPD (.lst ys)) ⟨fun b => (SeqAt.shaped a = true ∧ SeqAt.shaped b = true) ∧ Qp (.pu (.sc (.bl (neg ^^ PyData.eqv a b))))⟩⟩ := z_eqP_tl
theorem y_eqP_tt {xs : List DL.D} {ys : List DL.D} : @p2K (eqP neg) (.tup xs) (.tup ys) ⟨Qp⟩ = @cS _ (toPD (.tup xs)) ⟨fun a => @cS _ (toPD (.tup ys)) ⟨fun b => (SeqAt.shaped a = true ∧ SeqAt.shaped b = true) ∧ Qp (.pu (.sc (.bl (neg ^^ PyData.eqv a b))))⟩⟩ := z_eqP_tt
theorem y_eqP_ts {xs : List DL.D} {y : V} : @p2K (eqP neg) (.tup xs) (.sc y) ⟨Qp⟩ = @cS _ (toPD (.tup xs)) ⟨fun a => @cS _ (toPD (.sc y)) ⟨fun b => (SeqAt.shaped a = true ∧ SeqAt.shaped b = true) ∧ Qp (.pu (.sc (.bl (neg ^^ PyData.eqv a b))))⟩⟩ := z_eqP_ts
theorem y_eqP_td {xs : List DL.D} {ky : List (Key × DL.D)} : @p2K (eqP neg) (.tup xs) (.dic ky) ⟨Qp⟩ = @cS _ (toPD (.tup xs)) ⟨fun a => @cS _ (toPD (.dic ky)) ⟨fun b => (SeqAt.shaped a = true ∧ SeqAt.shaped b = true) ∧ Qp (.pu (.sc (.bl (neg ^^ PyData.eqv a b))))⟩⟩ := z_eqP_td
theorem y_eqP_sl {x : V} {ys : List DL.D} : @p2K (eqP neg) (.sc x) (.lst ys) ⟨Qp⟩ = @cS _ (toPD (.sc x)) ⟨fun a => @cS _ (toPD (.lst ys)) ⟨fun b => (SeqAt.shaped a = true ∧ SeqAt.shaped b = true) ∧ Qp (.pu (.sc (.bl (neg ^^ PyData.eqv a b))))⟩⟩ := z_eqP_sl
theorem y_eqP_st {x : V} {ys : List DL.D} : @p2K (eqP neg) (.sc x) (.tup ys) ⟨Qp⟩ = @cS _ (toPD (.sc x)) ⟨fun a => @cS _ (toPD (.tup ys)) ⟨fun b => (SeqAt.shaped a = true ∧ SeqAt.shaped b = true) ∧ Qp (.pu (.sc (.bl (neg ^^ PyData.eqv a b))))⟩⟩ := z_eqP_st
theorem y_eqP_sd {x : V} {ky : List (Key × DL.D)} : @p2K (eqP neg) (.sc x) (.dic ky) ⟨Qp⟩ = @cS _ (toPD (.sc x)) ⟨fun a => @cS _ (toPD (.dic ky)) ⟨fun b => (SeqAt.shaped a = true ∧ SeqAt.shaped b = true) ∧ Qp (.pu (.sc (.bl (neg ^^ PyData.eqv a b))))⟩⟩ := z_eqP_sd
theorem y_eqP_dl {kx : List (Key × DL.D)} {ys : List DL.D} : @p2K (eqP neg) (.dic kx) (.lst ys) ⟨Qp⟩ = @cS _ (toPD (.dic kx)) ⟨fun a => @cS _ (toPD (.lst ys)) ⟨fun b => (SeqAt.shaped a = true ∧ SeqAt.shaped b = true) ∧ Qp (.pu (.sc (.bl (neg ^^ PyData.eqv a b))))⟩⟩ := z_eqP_dl
theorem y_eqP_dt {kx : List (Key × DL.D)} {ys : List DL.D} : @p2K (eqP neg) (.dic kx) (.tup ys) ⟨Qp⟩ = @cS _ (toPD (.dic kx)) ⟨fun a => @cS _ (toPD (.tup ys)) ⟨fun b => (SeqAt.shaped a = true ∧ SeqAt.shaped b = true) ∧ Qp (.pu (.sc (.bl (neg ^^ PyData.eqv a b))))⟩⟩ := z_eqP_dt
theorem y_eqP_ds {kx : List (Key × DL.D)} {y : V} : @p2K (eqP neg) (.dic kx) (.sc y) ⟨Qp⟩ = @cS _ (toPD (.dic kx)) ⟨fun a => @cS _ (toPD (.sc y)) ⟨fun b => (SeqAt.shaped a = true ∧ SeqAt.shaped b = true) ∧ Qp (.pu (.sc (.bl (neg ^^ PyData.eqv a b))))⟩⟩ := z_eqP_ds
theorem y_eqP_dd {kx : List (Key × DL.D)} {ky : List (Key × DL.D)} : @p2K (eqP neg) (.dic kx) (.dic ky) ⟨Qp⟩ = @cS _ (toPD (.dic kx)) ⟨fun a => @cS _ (toPD (.dic ky)) ⟨fun b => (SeqAt.shaped a = true ∧ SeqAt.shaped b = true) ∧ Qp (.pu (.sc (.bl (neg ^^ PyData.eqv a b))))⟩⟩ := z_eqP_dd
theorem y_inP_s {s z : Str} : @p2K (inP neg) (.sc (.str s)) (.sc (.str z)) ⟨Qp⟩ = @cS _ (one? s) ⟨fun c => Qp (.pu (.sc (.bl (neg ^^ decide (c ∈ z.cps.toList)))))⟩ := z_inP_s
theorem y_inP_t {x : V} {ys : List DL.D} : @p2K (inP neg) (.sc x) (.tup ys) ⟨Qp⟩ = @cS _ (flats ys) ⟨fun us => flatV x = true ∧ Qp (.pu (.sc (.bl (neg ^^ inV x us))))⟩ := z_inP_t
theorem y_inP_l {x : V} {ys : List DL.D} : @p2K (inP neg) (.sc x) (.lst ys) ⟨Qp⟩ = @cS _ (flats ys) ⟨fun us => flatV x = true ∧ Qp (.pu (.sc (.bl (neg ^^ inV x us))))⟩ := z_inP_l
theorem y_isNP_s {x : V} : @p2K (isNP neg) (.sc x) (.sc .non) ⟨Qp⟩ = (Qp (.pu (.sc (.bl (neg ^^ decide (x = .non)))))) := z_isNP_s
theorem y_isNP_t {xs : List DL.D} : @p2K (isNP neg) (.tup xs) (.sc .non) ⟨Qp⟩ = (Qp (.pu (.sc (.bl neg)))) := z_isNP_t
theorem y_isNP_l {xs : List DL.D} : @p2K (isNP neg) (.lst xs) (.sc .non) ⟨Qp⟩ = (Qp (.pu (.sc (.bl neg)))) := z_isNP_l
theorem y_isNP_d {xs : List (Key × DL.D)} : @p2K (isNP neg) (.dic xs) (.sc .non) ⟨Qp⟩ = (Qp (.pu (.sc (.bl neg)))) := z_isNP_d
theorem y_isBP {a b : Bool} : @p2K (isBP neg) (.sc (.bl a)) (.sc (.bl b)) ⟨Qp⟩ = (Qp (.pu (.sc (.bl (neg ^^ decide (a = b)))))) := z_isBP
theorem y_ixP_l {xs : List DL.D} {i : Int} : @p2K ixP (.lst xs) (.sc (.int i)) ⟨Qp⟩ = @cS _ (L2.atI xs i) ⟨fun d => Qp (.pu d)⟩ := z_ixP_l
theorem y_ixP_t {xs : List DL.D} {i : Int} : @p2K ixP (.tup xs) (.sc (.int i)) ⟨Qp⟩ = @cS _ (L2.atI xs i) ⟨fun d => Qp (.pu d)⟩ := z_ixP_t
theorem y_ixP_s {z : Str} {i : Int} : @p2K ixP (.sc (.str z)) (.sc (.int i)) ⟨Qp⟩ = (z.length ≤ sizeLine ∧ @cS _ (L2.atI z.cps.toList i) ⟨fun c => Qp (.pu (.sc (.str (sign c))))⟩) := z_ixP_s
theorem y_lenP : @pnK lenP [d] ⟨Qp⟩ = @cS _ (lenD d) ⟨fun n => Qp (.pu (.sc (.int n)))⟩ := z_lenP
theorem y_isiP {T : String} : @pnK isiP [d, .sc (.ty T)] ⟨Qp⟩ = @cS _ (tyD d) ⟨fun t => @cS _ (kitB t T) ⟨fun b => Qp (.pu (.sc (.bl b)))⟩⟩ := z_isiP
theorem y_allP : @pnK allP [.lst ds] ⟨Qp⟩ = @cS _ (bools ds) ⟨fun bs => Qp (.pu (.sc (.bl (bs.all id))))⟩ := z_allP
theorem y_anyP : @pnK anyP [.lst ds] ⟨Qp⟩ = @cS _ (bools ds) ⟨fun bs => Qp (.pu (.sc (.bl (bs.any id))))⟩ := z_anyP
theorem y_intP_i {i : Int} : @pnK intP [.sc (.int i)] ⟨Qp⟩ = (Qp (.pu (.sc (.int i)))) := z_intP_i
theorem y_intP_b {b : Bool} : @pnK intP [.sc (.bl b)] ⟨Qp⟩ = (Qp (.pu (.sc (.int (if b then 1 else 0))))) := z_intP_b
theorem y_listP_l : @pnK listP [.lst ds] ⟨Qp⟩ = (Qp (.ow (.lst ds))) := z_listP_l
theorem y_listP_t : @pnK listP [.tup ds] ⟨Qp⟩ = (Qp (.ow (.lst ds))) := z_listP_t
theorem y_tupleP_l : @pnK tupleP [.lst ds] ⟨Qp⟩ = (Qp (.pu (.tup ds))) := z_tupleP_l
theorem y_tupleP_t : @pnK tupleP [.tup ds] ⟨Qp⟩ = (Qp (.pu (.tup ds))) := z_tupleP_t
theorem y_sortedSP : @pnK sortedSP [.lst ds] ⟨Qp⟩ = @cS _ (strsD ds) ⟨fun zs => zs.length < 64 ∧ ∀ ys : List Str, ys.Perm zs → PyProof.Rows.sortedS ys = true → Qp (.ow (.lst (ys.map fun z => .sc (.str z))))⟩ := z_sortedSP
theorem y_reprP : @pnK reprP [d] ⟨Qp⟩ = @cS _ (toPD d) ⟨fun p => shows p ∧ Qp (.pu (.sc (.str p.shown)))⟩ := z_reprP
theorem y_negP {i : Int} : @p1K negP (.sc (.int i)) ⟨Qp⟩ = (Qp (.pu (.sc (.int (-i))))) := z_negP
theorem y_revP_s {z : Str} : @p1K revP (.sc (.str z)) ⟨Qp⟩ = (z.length ≤ sizeLine ∧ Qp (.pu (.sc (.str (revS z))))) := z_revP_s
theorem y_revP_l : @p1K revP (.lst ds) ⟨Qp⟩ = (Qp (.ow (.lst ds.reverse))) := z_revP_l
theorem y_slP_l : @psK slP (.lst ds) lo hi ⟨Qp⟩ = (Qp (.ow (.lst (cutL ds lo hi)))) := z_slP_l
theorem y_slP_t : @psK slP (.tup ds) lo hi ⟨Qp⟩ = (Qp (.pu (.tup (cutL ds lo hi)))) := z_slP_t
theorem y_slP_r {ns : List Int} : @psK slP (.scr ns) lo hi ⟨Qp⟩ = (Qp (.ow (.lst ((cutL ns lo hi).map fun n => .sc (.int n))))) := z_slP_r
theorem y_slP_s {z : Str} : @psK slP (.sc (.str z)) lo hi ⟨Qp⟩ = (z.length ≤ sizeLine ∧ Qp (.pu (.sc (.str (cutS z lo hi))))) := z_slP_s
theorem y_findP {a b : Str} : @pmK findP (.sc (.str a)) [.sc (.str b)] ⟨Qp⟩ = (Qp (.pu (.sc (.int (Txt.find a b))))) := z_findP
theorem y_countP {a b : Str} : @pmK countP (.sc (.str a)) [.sc (.str b)] ⟨Qp⟩ = (Qp (.pu (.sc (.int (Txt.count a b))))) := z_countP
theorem y_joinP {a : Str} : @pmK joinP (.sc (.str a)) [.lst ds] ⟨Qp⟩ = @cS _ (strsD ds) ⟨fun ys => (ys.map (·.length)).sum + ys.length * a.length ≤ 16777216 ∧ Qp (.pu (.sc (.str (Txt.join a ys))))⟩ := z_joinP
theorem y_lcountP_s {a : Str} : @pmK lcountP (.lst ds) [.sc (.str a)] ⟨Qp⟩ = @cS _ (strsD ds) ⟨fun ys => Qp (.pu (.sc (.int (ys.count a : Nat))))⟩ := z_lcountP_s
theorem y_lcountP_i {a : Int} : @pmK lcountP (.lst ds) [.sc (.int a)] ⟨Qp⟩ = @cS _ (intsD ds) ⟨fun ys => Qp (.pu (.sc (.int (ys.count a : Nat))))⟩ := z_lcountP_i
theorem y_appP {xs : List DL.D} : @plK appP xs [d] ⟨Ql⟩ = (xs.length < sizeLine ∧ Ql (.sc .non) (xs ++ [d])) := z_appP
theorem y_insP {xs : List DL.D} {i : Int} : @plK insP xs [.sc (.int i), d] ⟨Ql⟩ = (xs.length < sizeLine ∧ 0 ≤ i ∧ i < 2 ^ 63 ∧ Ql (.sc .non) (xs.take i.toNat ++ [d] ++ xs.drop i.toNat)) := z_insP
theorem y_dSeq : dSeq ts us E δ = ts { E with nx := us E } δ := rfl
end
end DL

/-! text DLSt -/
set_option Elab.async false
set_option linter.all false
set_option maxRecDepth 100000
namespace DL
open PySem PySem.Spec PyProof.Rows L2 LamX
/-! ### sets of texts: len(set(t)), t a tuple of texts -/
def ddS (acc : List Str) (x : Str) : List Str := if x ∈ acc then acc else acc ++ [x]
/-- each text once -/
def dd (xs : List Str) : List Str := xs.foldl ddS []
theorem dd_snoc (xs : List Str) (x : Str) : dd (xs ++ [x]) = ddS (dd xs) x := by
  unfold dd
  rw [List.foldl_append]
  rfl
theorem ddS_mem (l : List Str) (x k : Str) : k ∈ ddS l x ↔ k ∈ l ∨ k = x := by
  unfold ddS
  split
  · exact ⟨.inl, fun h => h.elim id fun e => by rw [e]; assumption⟩
  · simp
theorem ddS_len (l : List Str) (x : Str) : (ddS l x).length = if x ∈ l then l.length else l.length + 1 := by
  unfold ddS
  split <;> simp
theorem dd_le (xs : List Str) : (dd xs).length ≤ xs.length := by
  have : ∀ (xs acc : List Str), (xs.foldl ddS acc).length ≤ acc.length + xs.length := by
    intro xs
    induction xs with
    | nil => intro acc; exact Nat.le_refl _
    | cons x xs ih =>
      intro acc
      have h1 := ih (ddS acc x)
      have h2 := ddS_len acc x
      rw [List.foldl_cons, List.length_cons]
      split at h2 <;> omega
  simpa [dd] using this xs []
section
variable {prog : Program} {w : World} {A : Around}
/-- a set that grows by each thing that is walked: mem, num tell what it holds behind i turns -/
theorem set_fills {KT : Type} [DecidableEq KT] {knd : PySem.KeyKind prog w KT} {R : Result → Shared → Prop} {I S : Addr} {fp wr : List Addr} {G : Array GenState → Array GenState → Prop} {n : Nat} {P : Nat → Value → Prop} {St : Nat → Shared → Prop} (W : WalksS prog w A.in1 I fp wr G n P St) (out : S ∉ fp)
    (mem : Nat → KT → Bool) (num : Nat → Nat) (key : Nat → KT) (few : ∀ i, i < n → num i + 1 < scanBound) (isKey : ∀ i v, P i v → knd.is (key i) v = true ∧ v.scannable = true)
    (grows : ∀ i, i < n → (fun k => mem i k || decide (k = key i)) = mem (i + 1) ∧ (if mem i (key i) then num i else num i + 1) = num (i + 1)) (i : Nat) (s : Shared) (hi : i ≤ n) (st : St i s) (holds : s.heap.SetOf knd S (mem i) (num i))
    (fin : ∀ s', Moved (S :: wr) G s s' → s'.heap.SetOf knd S (mem n) (num n) → R (.ok (.ret .none)) s') : codeAny (model prog w) A (.builtin "set.update.loop" ⟨[.ref S, .ref I], []⟩) R s := by
  have apart : S ∉ wr := fun h => out (W.sub _ h)
  have wider : ∀ b ∈ wr, b ∈ S :: wr := fun b => List.mem_cons_of_mem _
  have stands : ∀ {s s' : Shared} {m : KT → Bool} {k : Nat}, Moved wr G s s' → s.heap.SetOf knd S m k → s'.heap.SetOf knd S m k := fun mv ⟨o, es, ep, t, ho, r⟩ => ⟨o, es, ep, t, mv.heap S _ apart ho, r⟩
  refine codeAny_builtin PyProof.Rows.F.entry_set_update_loop ?_
  rw [Around.under_plainId PyProof.Rows.F.plain_set_update_loop _]
  show wpAny _ A.in1 (pyNext (.ref I) >>= _) _ _ s
  by_cases last : i = n
  · subst last
    refine wpAny_bind (W.done s _ _ st fun s' mv => ?_)
    show wpAny _ A.in1 (ret Value.none) _ _ s'
    exact wpAny_pure (fin s' (mv.mono wider) (stands mv holds))
  · have lt : i < n := by omega
    obtain ⟨g1, g2⟩ := grows i lt
    refine wpAny_bind (W.item i s _ _ lt st fun v s1 hP st1 mv => ?_)
    obtain ⟨k1, k2⟩ := isKey i v hP
    show wpAny _ A.in1 (holding [v] (setAdd S v) >>= _) _ _ s1
    refine wpAny_bind (wpAny_holding ?_)
    unfold setAdd
    refine wpAny_holding (wpAny_bind (knd.pyHash k1 ?_))
    refine wpAny_setAddHashed_of (s := { s1 with toks := s1.toks + 1 }) k1 k2 (show s1.heap.SetOf knd S (mem i) (num i) from stands mv holds) (few i lt) fun h2 but holds2 => ?_
    rw [g1, g2] at holds2
    have keep : ∀ b, b ≠ S → h2.get? b = s1.heap.get? b := but.2
    refine wpAny_pure ⟨plainId_quiet PyProof.Rows.F.plain_set_update_loop _, ?_⟩
    refine set_fills W out mem num key few isKey grows (i + 1) _ lt (W.frame _ s1 h2 _ st1 (Nat.le_succ _) fun b hb o e => ?_) holds2 fun s3 mv3 => fin s3 (Moved.trans W.gtrans ((mv.mono wider).then_heap (Nat.le_succ _) fun b o hb e => ?_) mv3)
    · rw [keep b fun z => out (z ▸ hb)]; exact e
    · rw [keep b fun z => hb (by rw [z]; exact List.mem_cons_self)]; exact e
termination_by n - i
end

section
variable {prog : Program} {w : World} {A : Around} {E : Value → Shared → Prop} {s : Shared}
abbrev freshSet (led : Bool) : Obj := { cls := .type "set", dict := none, data := .set #[] 0 (.fresh 0 0 led) }
set_option maxHeartbeats 3200000 in
theorem call_set_by {v : Value} {Q : Value → Shared → Prop} (init : ∀ led, codeAny (model prog w) A.in1 (.call (.builtin "set.__init__") ⟨[.ref s.heap.objs.size, v], []⟩) (fun r s' => r = .ok (.ret .none) ∧ Q (.ref s.heap.objs.size) s') { s with heap := s.heap.push (freshSet led) }) : wpAny (model prog w) A (call (.type "set") [v]) Q E s := by
  obtain ⟨c, tl, hmro⟩ := PySem.F.called_set.mro
  have made := PySem.F.called_set.made
  have sub := PySem.F.called_set.sub
  have h1 := PySem.F.called_set.notType
  have h2 := PySem.F.called_set.canCreate
  have hct := PySem.F.typeCall_set_1 v
  refine wpAny_call (codeAny_of_tree (wpAny_pure ⟨Code.quiet_builtin _ (by decide +kernel), codeAny_builtin PySem.F.entry_type_call ?_⟩))
  rw [Around.under_plain (weight_type_call_type "set" [v] []) rfl]
  repeat (any_goals (first | assumption | wp_step))
  refine codeAny_mono (code_set_new_1 v (E := E) (Q₁ := fun obj s₁ => ∃ led : Bool, obj = .ref s.heap.objs.size ∧ s₁ = { s with heap := s.heap.push (freshSet led) }) fun led => ⟨led, rfl, rfl⟩) fun r s₁ hr => ?_
  cases r with
  | error e => exact hr
  | ok fl =>
    cases fl with
    | ret obj =>
      obtain ⟨led, rfl, rfl⟩ := hr
      have hli := PySem.F.called_set.init.lookup
      have hbi := PySem.F.called_set.init.bind (.ref s.heap.objs.size)
      have hT : Shared.TypeIs { s with heap := s.heap.push (freshSet led) } (.ref s.heap.objs.size) "set" := ⟨_, Heap.get?_push_size _ rfl, rfl⟩
      repeat (any_goals (first | assumption | wp_step))
      refine codeAny_mono (init led) fun r s2 hq => ?_
      obtain ⟨rfl, q⟩ := hq
      refine wpAny_pure ?_
      exact wpAny_pure q
    | next => exact hr
    | brk => exact hr
    | cont => exact hr
theorem strs_get {vs : List Value} {ys : List Str} (h : StrsAre vs ys) (i : Nat) (v : Value) (e : vs[i]? = some v) : ∃ t, v = .str (ys.getD i "") t := by
  induction h generalizing i with
  | nil => cases e
  | cons y t _ ih =>
    cases i with
    | zero => cases e; exact ⟨t, rfl⟩
    | succ i => exact ih i e
theorem take_grow (xs : List Str) {i : Nat} (h : i < xs.length) : xs.take (i + 1) = xs.take i ++ [xs.getD i ""] := by
  rw [List.take_succ, List.getD_eq_getElem?_getD, List.getElem?_eq_getElem h]
  rfl
set_option maxHeartbeats 3200000 in
/-- set(t) -/
theorem set_of_tuple {l : Addr} {items : Array Value} {xs : List Str} {Q : Value → Shared → Prop} (hd : A.handled = none) (tu : s.heap.IsTuple l items) (ss : StrsAre items.toList xs) (few : xs.length + 1 < scanBound)
    (q : ∀ (h' : Heap) (tk : Nat), h'.SetOf (PySem.strKind prog w) s.heap.objs.size (fun k => decide (k ∈ dd xs)) (dd xs).length → (∀ b o, b < s.heap.objs.size → s.heap.get? b = some o → h'.get? b = some o) → Q (.ref s.heap.objs.size) { s with heap := h', toks := tk }) :
    wpAny (model prog w) A (call (.type "set") [.ref l]) Q E s := by
  refine call_set_by fun led => ?_
  have lt : l < s.heap.objs.size := by obtain ⟨o, ho, _⟩ := tu; exact Heap.lt_size ho
  have hT : Shared.TypeIs { s with heap := s.heap.push (freshSet led) } (.ref s.heap.objs.size) "set" := ⟨_, Heap.get?_push_size _ rfl, rfl⟩
  have tu1 := tu.push (freshSet led)
  refine codeAny_mono (codeAny_call_builtin (R := wants (fun r s2 => r = .none ∧ Q (.ref s.heap.objs.size) s2) fun _ _ => False) PySem.F.called_set.init.plain PySem.F.entry_set_init (check_set_init_1 hT ?_)) fun r s2 hr => ?_
  rotate_left
  · cases r with
    | error e => exact hr.elim
    | ok fl =>
      cases fl with
      | ret u => exact ⟨by rw [hr.1], hr.2⟩
      | _ => exact hr.elim
  · have notSet := PySem.F.sub_tuple_set
    have notFrozen := PySem.F.sub_tuple_frozenset
    have notDict : (Value.type "tuple" == Value.type "dict") = false := by decide
    obtain ⟨⟨cls, dct, dt, sl⟩, at1, k1, n, k2⟩ := id tu1
    simp only at k1 k2
    subst k1 k2
    unfold Builtin.«set.__init__» noKeywords Builtin.Frozenset.updateFrom
    generalize toIter : pyIter = it
    wp_walk
    subst toIter
    refine wpAny_pyIter_tuple tu1 (wpAny_bind (wpAny_runValue ?_))
    have hsz : xs.length = items.size := by rw [← StrsAre.len_eq ss, Array.length_toList]
    have h3 : A.in1.in1.in1.handled = none := by simp [hd]
    have psz : (s.heap.push (freshSet led)).objs.size = s.heap.objs.size + 1 := Heap.size_push _ _
    refine set_fills (knd := PySem.strKind prog w) ((Walks.tuple h3 _ l (Nat.ne_of_lt (Nat.lt_of_lt_of_eq (Nat.lt_succ_of_lt lt) psz.symm)) items).toS) (S := s.heap.objs.size) ?_ (fun i k => decide (k ∈ dd (xs.take i))) (fun i => (dd (xs.take i)).length) (fun i => xs.getD i "")
      (fun i hi => ?_) (fun i v hv => ?_) (fun i hi => ?_) 0 _ (Nat.zero_le _) ⟨⟨_, Heap.get?_push_size _ rfl, rfl, rfl⟩, tu1.push _⟩ ?_ fun s3 mv holds => ?_
    · show s.heap.objs.size ∉ [(s.heap.push (freshSet led)).objs.size, l]
      simp only [List.mem_cons, List.not_mem_nil, or_false, not_or]
      exact ⟨Nat.ne_of_lt (Nat.lt_of_lt_of_eq (Nat.lt_succ_self _) psz.symm), Nat.ne_of_gt lt⟩
    · have := dd_le (xs.take i)
      rw [List.length_take] at this
      omega
    · obtain ⟨t, rfl⟩ := strs_get ss i v (by rw [Array.getElem?_toList]; exact hv)
      exact ⟨strKind_is _ _ _ _, rfl⟩
    · have e := take_grow xs (show i < xs.length by omega)
      refine ⟨funext fun k => ?_, ?_⟩
      · rw [e, dd_snoc, Bool.eq_iff_iff]
        simp only [Bool.or_eq_true, decide_eq_true_eq, ddS_mem]
      · rw [e, dd_snoc, ddS_len]
        simp only [decide_eq_true_eq]
    · have at2 : ((s.heap.push (freshSet led)).push { cls := .type "tuple_iterator", data := .fields #[.ref l, .int 0 0] }).get? s.heap.objs.size = some (freshSet led) := Heap.get?_push_of_some _ (Heap.get?_push_size _ rfl)
      exact PyProof.Rows.SetOf_congr ((PyProof.Rows.setObjOf_fresh (knd := PySem.strKind prog w) led).setOf at2 (by decide)) (fun _ => rfl) rfl
    · rw [show xs.take items.size = xs from List.take_of_length_le (by omega)] at holds
      obtain ⟨h', gs, dr, tk, os⟩ := s3
      obtain rfl : gs = s.gens := mv.gens
      obtain rfl : dr = s.drawn := mv.drawn
      obtain rfl : os = s.os := mv.os
      refine wpAny_pure (show wpAny _ _ (ret Value.none) _ _ _ from wpAny_pure ⟨rfl, q h' tk holds fun b o hb e => ?_⟩)
      refine mv.heap b o ?_ (Heap.get?_push_of_some _ (Heap.get?_push_of_some _ e))
      simp only [List.mem_cons, List.not_mem_nil, or_false, not_or]
      exact ⟨Nat.ne_of_lt hb, Nat.ne_of_lt (Nat.lt_of_lt_of_eq (Nat.lt_succ_of_lt hb) psz.symm)⟩
end
/-! ### .. over data; list(range(n)) -/
section
variable {X : Cx} {g : Gd} {Wx : WX} {a e : Expr} {ta : TE} {da : DTE} {p p2 pos pos2 : Pos}
def tLSet (K : PySem.W.Frag) (ta : TE) : TE := fun σ H Q => ta σ H fun x H1 => ∃ l, ∃ xs : List Str, x = .ref l ∧ SqT K H1 l (xs.map V.str) ∧ xs.length + 1 < scanBound ∧ Q (.int (dd xs).length) H1
theorem pe_lset (hc : X.calm = true) (hg : Gl X "len") (hm : X.mg "len" = none) (hg2 : Gl X "set") (hm2 : X.mg "set" = none) (ha : PE X a ta)
    (na : starEach [a] X.env = (false, eval a X.env) :: starEach [] X.env := by rfl) : PE X (.Call (.Name "len" p) [.Call (.Name "set" p2) [a] [] pos2] [] pos) (tLSet X.K ta) := by
  refine ⟨fun pins s σ H Q I h => Call_ (ld_blt I hg hm PySem.boot_len (PyProof.Rows.callWith_builtin1 (PyProof.Rows.args_cons ?_ rfl) rfl rfl))⟩
  refine Call_ (ld_blt I hg2 hm2 PyProof.Rows.boot_set (PyProof.Rows.callWith_type1 (PyProof.Rows.args_cons (thn (ha.run pins s σ H _ I h) fun v s1 ⟨x, H1, I1, r1, l, xs, ex, sq, few, q⟩ => PyProof.Rows.args_nil ?_) na) na rfl))
  subst ex
  cases r1
  obtain ⟨its, r, tu, _⟩ := I1.tuple sq
  refine set_of_tuple (I1.ok.hd hc) tu (strs_of_vals (by simpa using r)) few fun h' tk holds keep => PyProof.Rows.args_nil ?_
  obtain ⟨o, es, ep, t, ho, hx, hd, _, _, _, hf, hn⟩ := holds
  have I2 : Inv X pins σ H1 { s1 with heap := h', toks := tk } := I1.kept fun b o e => keep b o (Heap.lt_size e) e
  have small := dd_le xs
  refine call_len_set ho hx hd hf (by rw [hn]; unfold scanBound at few; omega) ⟨.int (dd xs).length, H1, I2.tok _, ⟨_, by rw [hn]⟩, q⟩
def dLSet (da : DTE) : DTE := fun δ Q Y => da δ (fun x δ1 => ∃ xs, val δ1 x = some (.tup xs) ∧ ∃ zs, strsD xs = some zs ∧ zs.length < 4000 ∧ Q (.pu (.sc (.int (dd zs).length))) δ1) Y
theorem de_lset (gK : g.K = X.K) (hc : X.calm = true) (hg : Gl X "len") (hm : X.mg "len" = none) (hg2 : Gl X "set") (hm2 : X.mg "set" = none) (ha : DE X g Wx a da)
    (na : starEach [a] X.env = (false, eval a X.env) :: starEach [] X.env := by rfl) : DE X g Wx (.Call (.Name "len" p) [.Call (.Name "set" p2) [a] [] pos2] [] pos) (dLSet da) := by
  refine ⟨fun δ Q Q' Y Y' hQ hY h => ha.mono _ _ _ _ _ (fun w δ1 ⟨xs, e, zs, e2, n, h⟩ => ⟨xs, e, zs, e2, n, hQ _ _ h⟩) hY h, peMono (pe_lset hc hg hm hg2 hm2 ha.pe na) ?_⟩
  rintro σ H Q ⟨F, O, δ, r, q⟩
  refine ⟨F, O, δ, r, ha.mono _ _ _ _ _ (fun w δ1 q v F1 H1 O1 s1 r1 x1 => ?_) (fun _ _ z => z) q⟩
  obtain ⟨xs, e, zs, e2, n, q⟩ := q
  obtain ⟨l, vs, rfl, h1, h2⟩ := r1.cont x1 e
  have e1 := strs_eq e2
  subst e1
  have e3 := h2.scI
  subst e3
  exact ⟨l, zs, rfl, by rw [← gK]; exact r1.sub.sqT h1, by unfold scanBound; omega, q _ F1 H1 O1 s1 r1 (.sc _)⟩
def dLRg (da : DTE) : DTE := fun δ Q Y => da δ (fun x δ1 => ∃ j, val δ1 x = some (.sc (.int j)) ∧ (0 ≤ j ∧ j ≤ 16777216) ∧ Q (.ow (.lst (rngL 0 j.toNat))) δ1) Y
theorem de_lrg (hc : X.calm = true) (hg : Gl X "list") (hm : X.mg "list" = none) (hg2 : Gl X "range") (hm2 : X.mg "range" = none) (ha : DE X g Wx a da)
    (na : starEach [a] X.env = (false, eval a X.env) :: starEach [] X.env := by rfl) : DE X g Wx (.Call (.Name "list" p) [.Call (.Name "range" p2) [a] [] pos2] [] pos) (dLRg da) := by
  refine ⟨fun δ Q Q' Y Y' hQ hY h => ha.mono _ _ _ _ _ (fun w δ1 ⟨j, e, n, h⟩ => ⟨j, e, n, hQ _ _ h⟩) hY h, peMono (pe_listRg hc hg hm (prg_1 hg2 hm2 ha.pe na) rfl) ?_⟩
  rintro σ H Q ⟨F, O, δ, r, q⟩
  refine ⟨F, O, δ, r, ha.mono _ _ _ _ _ (fun w δ1 q v F1 H1 O1 s1 r1 x1 => ?_) (fun _ _ z => z) q⟩
  obtain ⟨j, e, n, q⟩ := q
  have hv : v = .int j := r1.cont x1 e
  refine ⟨j, hv, RgOk.of_le (by omega) (by omega) (by omega) (by omega), fun y hy => ?_⟩
  have eq : rgV 0 j = (List.range j.toNat).map fun (i : Nat) => V.int (0 + (i : Int)) := by unfold rgV; rw [Int.sub_zero]
  have rp : Reps g.K F1 (rgV 0 j) (rngL 0 j.toNat) := by
    have := Reps.scs (K := g.K) (F := F1) (rgV 0 j)
    rw [eq, List.map_map] at this
    rw [eq]
    exact this
  obtain ⟨s2, r2, x2⟩ := r1.newL hy rp
  exact q _ F1 _ O1 (s1.trans s2) r2 (x2.back s1)
end
end DL

/-! text H -/
set_option Elab.async false
set_option linter.all false
set_option maxRecDepth 100000
set_option maxHeartbeats 0
namespace Lw
open PySem PySem.Spec PyProof.Rows L2 LamX DL
def top (i : Nat) : Stmt := PySem.Challenge.pw_halfbits_k42_reads_of_stores.main.body.getD i (.Pass ⟨0, 0, 0, 0⟩)
abbrev st_is_within_bounds : Stmt := top 8
abbrev st_is_word : Stmt := top 9
abbrev st_need_word : Stmt := top 10
abbrev st_is_kind : Stmt := top 15
abbrev st_need_rounds : Stmt := top 16
abbrev st_raw_reads : Stmt := top 17
abbrev st_reads : Stmt := top 18
abbrev st_raw_rows : Stmt := top 19
abbrev st_are_kinds : Stmt := top 20
abbrev st_rows_of : Stmt := top 21
abbrev st__law_open : Stmt := top 23
abbrev st__law_spread : Stmt := top 24
abbrev st__law_take : Stmt := top 25
abbrev st__law_one_of : Stmt := top 26
abbrev st__law_all : Stmt := top 27
abbrev st__law_settled : Stmt := top 28
abbrev st__law_joined : Stmt := top 29
abbrev st__law_is_within : Stmt := top 30
abbrev st__law_any_word : Stmt := top 31
abbrev st__law_reads : Stmt := top 32
abbrev st__law_rows : Stmt := top 33
abbrev st__law_any_kinds : Stmt := top 34
abbrev st__law_word : Stmt := top 35
abbrev st__law_refused_right : Stmt := top 36
abbrev st_law : Stmt := top 37
def d_is_within_bounds : He.DefD := ⟨("is_within_bounds", none), "is_within_bounds", "is_within_bounds", defArgs st_is_within_bounds, defBody st_is_within_bounds, defScope st_is_within_bounds, [], []⟩
def d_is_word : He.DefD := ⟨("is_word", none), "is_word", "is_word", defArgs st_is_word, defBody st_is_word, defScope st_is_word, [], []⟩
def d_need_word : He.DefD := ⟨("need_word", none), "need_word", "need_word", defArgs st_need_word, defBody st_need_word, defScope st_need_word, [], []⟩
def d_is_kind : He.DefD := ⟨("is_kind", none), "is_kind", "is_kind", defArgs st_is_kind, defBody st_is_kind, defScope st_is_kind, [], []⟩
def d_need_rounds : He.DefD := ⟨("need_rounds", none), "need_rounds", "need_rounds", defArgs st_need_rounds, defBody st_need_rounds, defScope st_need_rounds, [], []⟩
def d_raw_reads : He.DefD := ⟨("raw_reads", none), "raw_reads", "raw_reads", defArgs st_raw_reads, defBody st_raw_reads, defScope st_raw_reads, [], []⟩
def d_reads : He.DefD := ⟨("reads", none), "reads", "reads", defArgs st_reads, defBody st_reads, defScope st_reads, [], []⟩
def d_raw_rows : He.DefD := ⟨("raw_rows", none), "raw_rows", "raw_rows", defArgs st_raw_rows, defBody st_raw_rows, defScope st_raw_rows, [], []⟩
def d_are_kinds : He.DefD := ⟨("are_kinds", none), "are_kinds", "are_kinds", defArgs st_are_kinds, defBody st_are_kinds, defScope st_are_kinds, [], []⟩
def d_rows_of : He.DefD := ⟨("rows_of", none), "rows_of", "rows_of", defArgs st_rows_of, defBody st_rows_of, defScope st_rows_of, [], []⟩
def d__law_open : He.DefD := ⟨("_law_open", none), "_law_open", "_law_open", defArgs st__law_open, defBody st__law_open, defScope st__law_open, [], []⟩
def d__law_spread : He.DefD := ⟨("_law_spread", none), "_law_spread", "_law_spread", defArgs st__law_spread, defBody st__law_spread, defScope st__law_spread, [], []⟩
def d__law_take : He.DefD := ⟨("_law_take", none), "_law_take", "_law_take", defArgs st__law_take, defBody st__law_take, defScope st__law_take, [], []⟩
def d__law_one_of : He.DefD := ⟨("_law_one_of", none), "_law_one_of", "_law_one_of", defArgs st__law_one_of, defBody st__law_one_of, defScope st__law_one_of, [], []⟩
def d__law_all : He.DefD := ⟨("_law_all", none), "_law_all", "_law_all", defArgs st__law_all, defBody st__law_all, defScope st__law_all, [], []⟩
def d__law_settled : He.DefD := ⟨("_law_settled", none), "_law_settled", "_law_settled", defArgs st__law_settled, defBody st__law_settled, defScope st__law_settled, [], []⟩
def d__law_joined : He.DefD := ⟨("_law_joined", none), "_law_joined", "_law_joined", defArgs st__law_joined, defBody st__law_joined, defScope st__law_joined, [], []⟩
def d__law_is_within : He.DefD := ⟨("_law_is_within", none), "_law_is_within", "_law_is_within", defArgs st__law_is_within, defBody st__law_is_within, defScope st__law_is_within, [], []⟩
def d__law_any_word : He.DefD := ⟨("_law_any_word", none), "_law_any_word", "_law_any_word", defArgs st__law_any_word, defBody st__law_any_word, defScope st__law_any_word, [], []⟩
def d__law_reads : He.DefD := ⟨("_law_reads", none), "_law_reads", "_law_reads", defArgs st__law_reads, defBody st__law_reads, defScope st__law_reads, [], []⟩
def d__law_rows : He.DefD := ⟨("_law_rows", none), "_law_rows", "_law_rows", defArgs st__law_rows, defBody st__law_rows, defScope st__law_rows, [], []⟩
def d__law_any_kinds : He.DefD := ⟨("_law_any_kinds", none), "_law_any_kinds", "_law_any_kinds", defArgs st__law_any_kinds, defBody st__law_any_kinds, defScope st__law_any_kinds, [], []⟩
def d__law_word : He.DefD := ⟨("_law_word", none), "_law_word", "_law_word", defArgs st__law_word, defBody st__law_word, defScope st__law_word, [], []⟩
def d__law_refused_right : He.DefD := ⟨("_law_refused_right", none), "_law_refused_right", "_law_refused_right", defArgs st__law_refused_right, defBody st__law_refused_right, defScope st__law_refused_right, [], []⟩
def d_law : He.DefD := ⟨("law", none), "law", "law", defArgs st_law, defBody st_law, defScope st_law, [], []⟩
def fns : List He.DefD := [d_is_within_bounds, d_is_word, d_need_word, d_is_kind, d_need_rounds, d_raw_reads, d_reads, d_raw_rows, d_are_kinds, d_rows_of, d__law_open, d__law_spread, d__law_take, d__law_one_of, d__law_all, d__law_settled, d__law_joined, d__law_is_within, d__law_any_word, d__law_reads, d__law_rows, d__law_any_kinds, d__law_word, d__law_refused_right, d_law]
def fas : List He.Fa := [.glo "is_within_bounds", .glo "is_word", .glo "need_word", .glo "is_kind", .glo "need_rounds", .glo "raw_reads", .glo "reads", .glo "raw_rows", .glo "are_kinds", .glo "rows_of", .glo "_law_open", .glo "_law_spread", .glo "_law_take", .glo "_law_one_of", .glo "_law_all", .glo "_law_settled", .glo "_law_joined", .glo "_law_is_within", .glo "_law_any_word", .glo "_law_reads", .glo "_law_rows", .glo "_law_any_kinds", .glo "_law_word", .glo "_law_refused_right", .glo "law", .glo "BitError", .glo "NoWord", .glo "NoCount", .glo "NoKind", .glo "NoMatch", .free "ValueError", .free "all", .free "bool", .free "enumerate", .free "int", .free "isinstance", .free "len", .free "list", .free "range", .free "repr", .free "sorted", .free "str", .free "tuple", .free "zip", .int "MOST_BITS" 32, .glo "KINDS", .int "MOST_ROUNDS" 8, .int "MOST_STORES" 3, .exc "NoWord", .exc "NoCount", .exc "NoKind", .exc "NoMatch", .exm "NoWord" "NoKind" false, .exm "NoWord" "NoCount" false, .exm "NoWord" "NoWord" true, .exm "NoWord" "NoMatch" false, .exm "NoWord" "BitError" true, .exm "NoCount" "NoKind" false, .exm "NoCount" "NoCount" true, .exm "NoCount" "NoWord" false, .exm "NoCount" "NoMatch" false, .exm "NoCount" "BitError" true, .exm "NoKind" "NoKind" true, .exm "NoKind" "NoCount" false, .exm "NoKind" "NoWord" false, .exm "NoKind" "NoMatch" false, .exm "NoKind" "BitError" true, .exm "NoMatch" "NoKind" false, .exm "NoMatch" "NoCount" false, .exm "NoMatch" "NoWord" false, .exm "NoMatch" "NoMatch" true, .exm "NoMatch" "BitError" true]
def exs : DL.Ex := ⟨[("KINDS", [.str "plain", .str "low", .str "high"])], [("_law_refused_right", none)]⟩
abbrev R : PySem.W.OpenRow := PySem.W.OpenLaw.row PySem.Challenge.rw_halfbits_k42_reads_of_stores
abbrev hk : PySem.W.Hook := DL.hookL 2 fas fns exs
def ob (s : PySem.W.SharedT) : DL.AlL := DL.obsLG 2 fas fns exs (HandSHeadRun.getT s)
theorem ob_eq (s : PySem.W.SharedT) : ob s = hk.obs s.abs := DL.obsLG_eq (HandSHeadRun.getT_eq s)
def names0 : List PySem.Str := ["is_within_bounds", "is_word", "need_word", "is_kind", "need_rounds", "raw_reads", "reads", "raw_rows", "are_kinds", "rows_of", "_law_open", "_law_spread", "_law_take", "_law_one_of", "_law_all", "_law_settled", "_law_joined", "_law_is_within", "_law_any_word", "_law_reads", "_law_rows", "_law_any_kinds", "_law_word", "_law_refused_right", "BitError", "NoWord", "NoCount", "NoKind", "NoMatch", "MOST_BITS"]
def names1 : List PySem.Str := ["KINDS", "MOST_ROUNDS", "MOST_STORES"]
def names : List PySem.Str := names0 ++ names1
theorem run (w : World) : HandSHeadRun.RunEq R (PySem.W.view R.prog [37]) hk ob 4000 names w := by
  intro os
  kernel_rfl
/-! ### the facts -/
abbrev TT (K : PySem.W.Frag) : List (Addr × Str) := DL.tabsOf K exs.lams
def tup_KINDS : List D := [.sc (.str "plain"), .sc (.str "low"), .sc (.str "high")]
def clw__law_word (K : PySem.W.Frag) : List (Addr × Str) := [(He.ga K "NoKind", "kind"), (He.ga K "NoCount", "count"), (He.ga K "NoWord", "word"), (He.ga K "NoMatch", "match"), (He.ga K "BitError", "odd")]
def Nw__law_word : List Str := ["call", "e"]
structure Fx (K : PySem.W.Frag) (mg : Str → Option Value) : Prop where
  g_is_within_bounds : mg "is_within_bounds" = some (.ref (He.ga K "is_within_bounds"))
  g_is_word : mg "is_word" = some (.ref (He.ga K "is_word"))
  g_need_word : mg "need_word" = some (.ref (He.ga K "need_word"))
  g_is_kind : mg "is_kind" = some (.ref (He.ga K "is_kind"))
  g_need_rounds : mg "need_rounds" = some (.ref (He.ga K "need_rounds"))
  g_raw_reads : mg "raw_reads" = some (.ref (He.ga K "raw_reads"))
  g_reads : mg "reads" = some (.ref (He.ga K "reads"))
  g_raw_rows : mg "raw_rows" = some (.ref (He.ga K "raw_rows"))
  g_are_kinds : mg "are_kinds" = some (.ref (He.ga K "are_kinds"))
  g_rows_of : mg "rows_of" = some (.ref (He.ga K "rows_of"))
  g__law_open : mg "_law_open" = some (.ref (He.ga K "_law_open"))
  g__law_spread : mg "_law_spread" = some (.ref (He.ga K "_law_spread"))
  g__law_take : mg "_law_take" = some (.ref (He.ga K "_law_take"))
  g__law_one_of : mg "_law_one_of" = some (.ref (He.ga K "_law_one_of"))
  g__law_all : mg "_law_all" = some (.ref (He.ga K "_law_all"))
  g__law_settled : mg "_law_settled" = some (.ref (He.ga K "_law_settled"))
  g__law_joined : mg "_law_joined" = some (.ref (He.ga K "_law_joined"))
  g__law_is_within : mg "_law_is_within" = some (.ref (He.ga K "_law_is_within"))
  g__law_any_word : mg "_law_any_word" = some (.ref (He.ga K "_law_any_word"))
  g__law_reads : mg "_law_reads" = some (.ref (He.ga K "_law_reads"))
  g__law_rows : mg "_law_rows" = some (.ref (He.ga K "_law_rows"))
  g__law_any_kinds : mg "_law_any_kinds" = some (.ref (He.ga K "_law_any_kinds"))
  g__law_word : mg "_law_word" = some (.ref (He.ga K "_law_word"))
  g__law_refused_right : mg "_law_refused_right" = some (.ref (He.ga K "_law_refused_right"))
  g_law : mg "law" = some (.ref (He.ga K "law"))
  n_ValueError : mg "ValueError" = none
  n_all : mg "all" = none
  n_bool : mg "bool" = none
  n_enumerate : mg "enumerate" = none
  n_int : mg "int" = none
  n_isinstance : mg "isinstance" = none
  n_len : mg "len" = none
  n_list : mg "list" = none
  n_range : mg "range" = none
  n_repr : mg "repr" = none
  n_sorted : mg "sorted" = none
  n_str : mg "str" = none
  n_tuple : mg "tuple" = none
  n_zip : mg "zip" = none
  c_MOST_BITS : ∃ t, mg "MOST_BITS" = some (.int 32 t)
  c_MOST_ROUNDS : ∃ t, mg "MOST_ROUNDS" = some (.int 8 t)
  c_MOST_STORES : ∃ t, mg "MOST_STORES" = some (.int 3 t)
  x_NoWord : DL.ExcOk K mg "NoWord"
  x_NoCount : DL.ExcOk K mg "NoCount"
  x_NoKind : DL.ExcOk K mg "NoKind"
  x_NoMatch : DL.ExcOk K mg "NoMatch"
  m_NoWord_NoKind : PySem.W.exmOne K (.ref (He.ga K "NoWord")) (.ref (He.ga K "NoKind")) = some false
  m_NoWord_NoCount : PySem.W.exmOne K (.ref (He.ga K "NoWord")) (.ref (He.ga K "NoCount")) = some false
  m_NoWord_NoWord : PySem.W.exmOne K (.ref (He.ga K "NoWord")) (.ref (He.ga K "NoWord")) = some true
  m_NoWord_NoMatch : PySem.W.exmOne K (.ref (He.ga K "NoWord")) (.ref (He.ga K "NoMatch")) = some false
  m_NoWord_BitError : PySem.W.exmOne K (.ref (He.ga K "NoWord")) (.ref (He.ga K "BitError")) = some true
  m_NoCount_NoKind : PySem.W.exmOne K (.ref (He.ga K "NoCount")) (.ref (He.ga K "NoKind")) = some false
  m_NoCount_NoCount : PySem.W.exmOne K (.ref (He.ga K "NoCount")) (.ref (He.ga K "NoCount")) = some true
  m_NoCount_NoWord : PySem.W.exmOne K (.ref (He.ga K "NoCount")) (.ref (He.ga K "NoWord")) = some false
  m_NoCount_NoMatch : PySem.W.exmOne K (.ref (He.ga K "NoCount")) (.ref (He.ga K "NoMatch")) = some false
  m_NoCount_BitError : PySem.W.exmOne K (.ref (He.ga K "NoCount")) (.ref (He.ga K "BitError")) = some true
  m_NoKind_NoKind : PySem.W.exmOne K (.ref (He.ga K "NoKind")) (.ref (He.ga K "NoKind")) = some true
  m_NoKind_NoCount : PySem.W.exmOne K (.ref (He.ga K "NoKind")) (.ref (He.ga K "NoCount")) = some false
  m_NoKind_NoWord : PySem.W.exmOne K (.ref (He.ga K "NoKind")) (.ref (He.ga K "NoWord")) = some false
  m_NoKind_NoMatch : PySem.W.exmOne K (.ref (He.ga K "NoKind")) (.ref (He.ga K "NoMatch")) = some false
  m_NoKind_BitError : PySem.W.exmOne K (.ref (He.ga K "NoKind")) (.ref (He.ga K "BitError")) = some true
  m_NoMatch_NoKind : PySem.W.exmOne K (.ref (He.ga K "NoMatch")) (.ref (He.ga K "NoKind")) = some false
  m_NoMatch_NoCount : PySem.W.exmOne K (.ref (He.ga K "NoMatch")) (.ref (He.ga K "NoCount")) = some false
  m_NoMatch_NoWord : PySem.W.exmOne K (.ref (He.ga K "NoMatch")) (.ref (He.ga K "NoWord")) = some false
  m_NoMatch_NoMatch : PySem.W.exmOne K (.ref (He.ga K "NoMatch")) (.ref (He.ga K "NoMatch")) = some true
  m_NoMatch_BitError : PySem.W.exmOne K (.ref (He.ga K "NoMatch")) (.ref (He.ga K "BitError")) = some true
  g_KINDS : mg "KINDS" = some (.ref (He.ga K "KINDS"))
  u_KINDS : He.tupB K "KINDS" [.str "plain", .str "low", .str "high"] = true
  f_is_within_bounds : ∃ fd, FunD K "is_within_bounds" "is_within_bounds" (defArgs st_is_within_bounds) (defBody st_is_within_bounds) (defScope st_is_within_bounds) [] [] (He.ga K "is_within_bounds") fd
  f_is_word : ∃ fd, FunD K "is_word" "is_word" (defArgs st_is_word) (defBody st_is_word) (defScope st_is_word) [] [] (He.ga K "is_word") fd
  f_need_word : ∃ fd, FunD K "need_word" "need_word" (defArgs st_need_word) (defBody st_need_word) (defScope st_need_word) [] [] (He.ga K "need_word") fd
  f_is_kind : ∃ fd, FunD K "is_kind" "is_kind" (defArgs st_is_kind) (defBody st_is_kind) (defScope st_is_kind) [] [] (He.ga K "is_kind") fd
  f_need_rounds : ∃ fd, FunD K "need_rounds" "need_rounds" (defArgs st_need_rounds) (defBody st_need_rounds) (defScope st_need_rounds) [] [] (He.ga K "need_rounds") fd
  f_raw_reads : ∃ fd, FunD K "raw_reads" "raw_reads" (defArgs st_raw_reads) (defBody st_raw_reads) (defScope st_raw_reads) [] [] (He.ga K "raw_reads") fd
  f_reads : ∃ fd, FunD K "reads" "reads" (defArgs st_reads) (defBody st_reads) (defScope st_reads) [] [] (He.ga K "reads") fd
  f_raw_rows : ∃ fd, FunD K "raw_rows" "raw_rows" (defArgs st_raw_rows) (defBody st_raw_rows) (defScope st_raw_rows) [] [] (He.ga K "raw_rows") fd
  f_are_kinds : ∃ fd, FunD K "are_kinds" "are_kinds" (defArgs st_are_kinds) (defBody st_are_kinds) (defScope st_are_kinds) [] [] (He.ga K "are_kinds") fd
  f_rows_of : ∃ fd, FunD K "rows_of" "rows_of" (defArgs st_rows_of) (defBody st_rows_of) (defScope st_rows_of) [] [] (He.ga K "rows_of") fd
  f__law_open : ∃ fd, FunD K "_law_open" "_law_open" (defArgs st__law_open) (defBody st__law_open) (defScope st__law_open) [] [] (He.ga K "_law_open") fd
  f__law_spread : ∃ fd, FunD K "_law_spread" "_law_spread" (defArgs st__law_spread) (defBody st__law_spread) (defScope st__law_spread) [] [] (He.ga K "_law_spread") fd
  f__law_take : ∃ fd, FunD K "_law_take" "_law_take" (defArgs st__law_take) (defBody st__law_take) (defScope st__law_take) [] [] (He.ga K "_law_take") fd
  f__law_one_of : ∃ fd, FunD K "_law_one_of" "_law_one_of" (defArgs st__law_one_of) (defBody st__law_one_of) (defScope st__law_one_of) [] [] (He.ga K "_law_one_of") fd
  f__law_all : ∃ fd, FunD K "_law_all" "_law_all" (defArgs st__law_all) (defBody st__law_all) (defScope st__law_all) [] [] (He.ga K "_law_all") fd
  f__law_settled : ∃ fd, FunD K "_law_settled" "_law_settled" (defArgs st__law_settled) (defBody st__law_settled) (defScope st__law_settled) [] [] (He.ga K "_law_settled") fd
  f__law_joined : ∃ fd, FunD K "_law_joined" "_law_joined" (defArgs st__law_joined) (defBody st__law_joined) (defScope st__law_joined) [] [] (He.ga K "_law_joined") fd
  f__law_is_within : ∃ fd, FunD K "_law_is_within" "_law_is_within" (defArgs st__law_is_within) (defBody st__law_is_within) (defScope st__law_is_within) [] [] (He.ga K "_law_is_within") fd
  f__law_any_word : ∃ fd, FunD K "_law_any_word" "_law_any_word" (defArgs st__law_any_word) (defBody st__law_any_word) (defScope st__law_any_word) [] [] (He.ga K "_law_any_word") fd
  f__law_reads : ∃ fd, FunD K "_law_reads" "_law_reads" (defArgs st__law_reads) (defBody st__law_reads) (defScope st__law_reads) [] [] (He.ga K "_law_reads") fd
  f__law_rows : ∃ fd, FunD K "_law_rows" "_law_rows" (defArgs st__law_rows) (defBody st__law_rows) (defScope st__law_rows) [] [] (He.ga K "_law_rows") fd
  f__law_any_kinds : ∃ fd, FunD K "_law_any_kinds" "_law_any_kinds" (defArgs st__law_any_kinds) (defBody st__law_any_kinds) (defScope st__law_any_kinds) [] [] (He.ga K "_law_any_kinds") fd
  f__law_word : ∃ fd, FunD K "_law_word" "_law_word" (defArgs st__law_word) (defBody st__law_word) (defScope st__law_word) [] [] (He.ga K "_law_word") fd
  f__law_refused_right : ∃ fd, FunD K "_law_refused_right" "_law_refused_right" (defArgs st__law_refused_right) (defBody st__law_refused_right) (defScope st__law_refused_right) [] [] (He.ga K "_law_refused_right") fd
  f_law : ∃ fd, FunD K "law" "law" (defArgs st_law) (defBody st_law) (defScope st_law) [] [] (He.ga K "law") fd
  W__law_word : DL.WordFn K mg "_law_word" st__law_word "call" "e" 1 Nw__law_word "none" (clw__law_word K)
theorem fx {K : PySem.W.Frag} {h : Heap} {mg : Str → Option Value} (X : K.In h) (Gn : h.Ns mainGlobals mg) (c : He.SaysD fas fns K) (tu : ∀ q ∈ exs.tups, He.tupB K q.1 q.2 = true) : Fx K mg where
  g_is_within_bounds := He.glo_ok X Gn (c.fact 0 (f := .glo "is_within_bounds") rfl)
  g_is_word := He.glo_ok X Gn (c.fact 1 (f := .glo "is_word") rfl)
  g_need_word := He.glo_ok X Gn (c.fact 2 (f := .glo "need_word") rfl)
  g_is_kind := He.glo_ok X Gn (c.fact 3 (f := .glo "is_kind") rfl)
  g_need_rounds := He.glo_ok X Gn (c.fact 4 (f := .glo "need_rounds") rfl)
  g_raw_reads := He.glo_ok X Gn (c.fact 5 (f := .glo "raw_reads") rfl)
  g_reads := He.glo_ok X Gn (c.fact 6 (f := .glo "reads") rfl)
  g_raw_rows := He.glo_ok X Gn (c.fact 7 (f := .glo "raw_rows") rfl)
  g_are_kinds := He.glo_ok X Gn (c.fact 8 (f := .glo "are_kinds") rfl)
  g_rows_of := He.glo_ok X Gn (c.fact 9 (f := .glo "rows_of") rfl)
  g__law_open := He.glo_ok X Gn (c.fact 10 (f := .glo "_law_open") rfl)
  g__law_spread := He.glo_ok X Gn (c.fact 11 (f := .glo "_law_spread") rfl)
  g__law_take := He.glo_ok X Gn (c.fact 12 (f := .glo "_law_take") rfl)
  g__law_one_of := He.glo_ok X Gn (c.fact 13 (f := .glo "_law_one_of") rfl)
  g__law_all := He.glo_ok X Gn (c.fact 14 (f := .glo "_law_all") rfl)
  g__law_settled := He.glo_ok X Gn (c.fact 15 (f := .glo "_law_settled") rfl)
  g__law_joined := He.glo_ok X Gn (c.fact 16 (f := .glo "_law_joined") rfl)
  g__law_is_within := He.glo_ok X Gn (c.fact 17 (f := .glo "_law_is_within") rfl)
  g__law_any_word := He.glo_ok X Gn (c.fact 18 (f := .glo "_law_any_word") rfl)
  g__law_reads := He.glo_ok X Gn (c.fact 19 (f := .glo "_law_reads") rfl)
  g__law_rows := He.glo_ok X Gn (c.fact 20 (f := .glo "_law_rows") rfl)
  g__law_any_kinds := He.glo_ok X Gn (c.fact 21 (f := .glo "_law_any_kinds") rfl)
  g__law_word := He.glo_ok X Gn (c.fact 22 (f := .glo "_law_word") rfl)
  g__law_refused_right := He.glo_ok X Gn (c.fact 23 (f := .glo "_law_refused_right") rfl)
  g_law := He.glo_ok X Gn (c.fact 24 (f := .glo "law") rfl)
  n_ValueError := He.free_ok X Gn (c.fact 30 (f := .free "ValueError") rfl)
  n_all := He.free_ok X Gn (c.fact 31 (f := .free "all") rfl)
  n_bool := He.free_ok X Gn (c.fact 32 (f := .free "bool") rfl)
  n_enumerate := He.free_ok X Gn (c.fact 33 (f := .free "enumerate") rfl)
  n_int := He.free_ok X Gn (c.fact 34 (f := .free "int") rfl)
  n_isinstance := He.free_ok X Gn (c.fact 35 (f := .free "isinstance") rfl)
  n_len := He.free_ok X Gn (c.fact 36 (f := .free "len") rfl)
  n_list := He.free_ok X Gn (c.fact 37 (f := .free "list") rfl)
  n_range := He.free_ok X Gn (c.fact 38 (f := .free "range") rfl)
  n_repr := He.free_ok X Gn (c.fact 39 (f := .free "repr") rfl)
  n_sorted := He.free_ok X Gn (c.fact 40 (f := .free "sorted") rfl)
  n_str := He.free_ok X Gn (c.fact 41 (f := .free "str") rfl)
  n_tuple := He.free_ok X Gn (c.fact 42 (f := .free "tuple") rfl)
  n_zip := He.free_ok X Gn (c.fact 43 (f := .free "zip") rfl)
  c_MOST_BITS := He.int_ok X Gn (c.fact 44 (f := .int "MOST_BITS" 32) rfl)
  c_MOST_ROUNDS := He.int_ok X Gn (c.fact 46 (f := .int "MOST_ROUNDS" 8) rfl)
  c_MOST_STORES := He.int_ok X Gn (c.fact 47 (f := .int "MOST_STORES" 3) rfl)
  x_NoWord := (let e := He.exc_ok (c.fact 48 (f := .exc "NoWord") rfl); ⟨He.glo_ok X Gn (c.fact 26 (f := .glo "NoWord") rfl), e.1, e.2.1, e.2.2.1, e.2.2.2⟩)
  x_NoCount := (let e := He.exc_ok (c.fact 49 (f := .exc "NoCount") rfl); ⟨He.glo_ok X Gn (c.fact 27 (f := .glo "NoCount") rfl), e.1, e.2.1, e.2.2.1, e.2.2.2⟩)
  x_NoKind := (let e := He.exc_ok (c.fact 50 (f := .exc "NoKind") rfl); ⟨He.glo_ok X Gn (c.fact 28 (f := .glo "NoKind") rfl), e.1, e.2.1, e.2.2.1, e.2.2.2⟩)
  x_NoMatch := (let e := He.exc_ok (c.fact 51 (f := .exc "NoMatch") rfl); ⟨He.glo_ok X Gn (c.fact 29 (f := .glo "NoMatch") rfl), e.1, e.2.1, e.2.2.1, e.2.2.2⟩)
  m_NoWord_NoKind := He.exm_ok (c.fact 52 (f := .exm "NoWord" "NoKind" false) rfl)
  m_NoWord_NoCount := He.exm_ok (c.fact 53 (f := .exm "NoWord" "NoCount" false) rfl)
  m_NoWord_NoWord := He.exm_ok (c.fact 54 (f := .exm "NoWord" "NoWord" true) rfl)
  m_NoWord_NoMatch := He.exm_ok (c.fact 55 (f := .exm "NoWord" "NoMatch" false) rfl)
  m_NoWord_BitError := He.exm_ok (c.fact 56 (f := .exm "NoWord" "BitError" true) rfl)
  m_NoCount_NoKind := He.exm_ok (c.fact 57 (f := .exm "NoCount" "NoKind" false) rfl)
  m_NoCount_NoCount := He.exm_ok (c.fact 58 (f := .exm "NoCount" "NoCount" true) rfl)
  m_NoCount_NoWord := He.exm_ok (c.fact 59 (f := .exm "NoCount" "NoWord" false) rfl)
  m_NoCount_NoMatch := He.exm_ok (c.fact 60 (f := .exm "NoCount" "NoMatch" false) rfl)
  m_NoCount_BitError := He.exm_ok (c.fact 61 (f := .exm "NoCount" "BitError" true) rfl)
  m_NoKind_NoKind := He.exm_ok (c.fact 62 (f := .exm "NoKind" "NoKind" true) rfl)
  m_NoKind_NoCount := He.exm_ok (c.fact 63 (f := .exm "NoKind" "NoCount" false) rfl)
  m_NoKind_NoWord := He.exm_ok (c.fact 64 (f := .exm "NoKind" "NoWord" false) rfl)
  m_NoKind_NoMatch := He.exm_ok (c.fact 65 (f := .exm "NoKind" "NoMatch" false) rfl)
  m_NoKind_BitError := He.exm_ok (c.fact 66 (f := .exm "NoKind" "BitError" true) rfl)
  m_NoMatch_NoKind := He.exm_ok (c.fact 67 (f := .exm "NoMatch" "NoKind" false) rfl)
  m_NoMatch_NoCount := He.exm_ok (c.fact 68 (f := .exm "NoMatch" "NoCount" false) rfl)
  m_NoMatch_NoWord := He.exm_ok (c.fact 69 (f := .exm "NoMatch" "NoWord" false) rfl)
  m_NoMatch_NoMatch := He.exm_ok (c.fact 70 (f := .exm "NoMatch" "NoMatch" true) rfl)
  m_NoMatch_BitError := He.exm_ok (c.fact 71 (f := .exm "NoMatch" "BitError" true) rfl)
  g_KINDS := He.glo_ok X Gn (c.fact 45 (f := .glo "KINDS") rfl)
  u_KINDS := tu ("KINDS", [.str "plain", .str "low", .str "high"]) (by simp [exs])
  f_is_within_bounds := c.def_ 0 (d := d_is_within_bounds) rfl
  f_is_word := c.def_ 1 (d := d_is_word) rfl
  f_need_word := c.def_ 2 (d := d_need_word) rfl
  f_is_kind := c.def_ 3 (d := d_is_kind) rfl
  f_need_rounds := c.def_ 4 (d := d_need_rounds) rfl
  f_raw_reads := c.def_ 5 (d := d_raw_reads) rfl
  f_reads := c.def_ 6 (d := d_reads) rfl
  f_raw_rows := c.def_ 7 (d := d_raw_rows) rfl
  f_are_kinds := c.def_ 8 (d := d_are_kinds) rfl
  f_rows_of := c.def_ 9 (d := d_rows_of) rfl
  f__law_open := c.def_ 10 (d := d__law_open) rfl
  f__law_spread := c.def_ 11 (d := d__law_spread) rfl
  f__law_take := c.def_ 12 (d := d__law_take) rfl
  f__law_one_of := c.def_ 13 (d := d__law_one_of) rfl
  f__law_all := c.def_ 14 (d := d__law_all) rfl
  f__law_settled := c.def_ 15 (d := d__law_settled) rfl
  f__law_joined := c.def_ 16 (d := d__law_joined) rfl
  f__law_is_within := c.def_ 17 (d := d__law_is_within) rfl
  f__law_any_word := c.def_ 18 (d := d__law_any_word) rfl
  f__law_reads := c.def_ 19 (d := d__law_reads) rfl
  f__law_rows := c.def_ 20 (d := d__law_rows) rfl
  f__law_any_kinds := c.def_ 21 (d := d__law_any_kinds) rfl
  f__law_word := c.def_ 22 (d := d__law_word) rfl
  f__law_refused_right := c.def_ 23 (d := d__law_refused_right) rfl
  f_law := c.def_ 24 (d := d_law) rfl
  W__law_word := ⟨He.glo_ok X Gn (c.fact 22 (f := .glo "_law_word") rfl), (let ⟨fd, F⟩ := c.def_ 22 (d := d__law_word) rfl; ⟨fd, F, F.bindsN fun _ _ _ _ _ _ us hl => match us, hl with | [_], _ => rfl⟩),
      ⟨_, _, _, _, _, _, _, _, _, rfl, .cons rfl rfl (He.glo_ok X Gn (c.fact 28 (f := .glo "NoKind") rfl)) (.cons rfl rfl (He.glo_ok X Gn (c.fact 27 (f := .glo "NoCount") rfl)) (.cons rfl rfl (He.glo_ok X Gn (c.fact 26 (f := .glo "NoWord") rfl)) (.cons rfl rfl (He.glo_ok X Gn (c.fact 29 (f := .glo "NoMatch") rfl)) (.cons rfl rfl (He.glo_ok X Gn (c.fact 25 (f := .glo "BitError") rfl)) (.nil))))), fun _ => rfl⟩, ⟨rfl, rfl, rfl, by decide +kernel, rfl, by decide +kernel, by decide +kernel⟩, rfl, rfl, by decide, Or.inl rfl, rfl, rfl, rfl⟩
end Lw

/-! text C -/
set_option Elab.async false
set_option linter.all false
set_option maxRecDepth 100000
set_option maxHeartbeats 2000000
namespace Lw
open PySem PySem.Spec PyProof.Rows L2 DL
section
variable {P : Program} {w : World} {base : Heap} {K : PySem.W.Frag} {ws : List Wv} {Q : Wv → List Wv → Prop} {Y : Value → List Wv → Prop} {mg : Str → Option Value}
def thing (d : D) : Prop := (∃ t, tyD d = some t) ∧ ∀ z, d = DS' z → z.length ≤ sizeLine
def bndF : List D → Except Str Wv
  | [.sc (.int i), .sc (.int a), .sc (.int b)] => .ok (.pu (DB' (decide (a ≤ i) && decide (i ≤ b))))
  | _ => .ok (.pu (DB' false))
def isW (z : Str) : Bool := decide (1 ≤ z.length) && decide (z.length ≤ 32) && z.cps.toList.all fun c => decide (c ∈ ("01?" : Str).cps.toList)
def str (d : D) : Str := match d with
  | .sc (.str z) => z
  | _ => ""
def isWD : D → Bool
  | .sc (.str z) => isW z
  | _ => false
def low (z : Str) : Bool := z.cps.toList.all fun c => decide (c < 16 ^ 8)
def isK (z : Str) : Bool := z == "plain" || (z == "low" || z == "high")
def isKD : D → Bool
  | .sc (.str z) => isK z
  | _ => false
def isRD : D → Bool
  | .sc (.int i) => decide (1 ≤ i) && decide (i ≤ 8)
  | _ => false
def isBit (z : Str) : Bool := z == "0" || (z == "1" || z == "?")
def isBitD : D → Bool
  | .sc (.str z) => isBit z
  | _ => false
def areK : D → Bool
  | .tup xs => decide (1 ≤ xs.length) && decide (xs.length ≤ 3) && xs.all isKD
  | _ => false
/-- first, then last, from a place on; the same with one undecided between -/
def flips (f l : Str) (r : Nat) : List Str := ((List.range (r + 1)).map fun (m : Nat) => repS f (m : Int) ++ repS l ((r : Int) - (m : Int))) ++ (List.range r).map fun (m : Nat) => repS f (m : Int) ++ "?" ++ repS l ((r : Int) - 1 - (m : Int))
def insS (x : Str) : List Str → List Str
  | [] => [x]
  | y :: r => if ltCps y.cps.toList x.cps.toList then y :: insS x r else x :: y :: r
def sortS : List Str → List Str
  | [] => []
  | x :: r => insS x (sortS r)
def rawReads (kind bit : Str) (r : Nat) : List Str := if bit != "?" || kind == "plain" then [repS bit r] else if kind == "low" then sortS (flips "0" "1" r) else sortS (flips "1" "0" r)
def rawRows (ks : List Str) (r : Nat) (cs : List Nat) : List Str := (ks.zip cs).foldl (fun found p => found.flatMap fun start => (rawReads p.1 (sign p.2) r).map (start ++ ·)) [""]
def strsL (zs : List Str) : Wv := .ow (.lst (zs.map fun z => DS' z))
def nat (d : D) : Nat := match d with
  | .sc (.int i) => i.toNat
  | _ => 0
def dstrs (d : D) : List Str := match d with
  | .tup xs => xs.map str
  | _ => []
abbrev sp_is_within_bounds (K : PySem.W.Frag) : DSp := spX K 3 (fun ds => ∃ d t a b, ds = [d, DI' a, DI' b] ∧ tyD d = some t) bndF
abbrev sp_is_word (K : PySem.W.Frag) : DSp := spX K 1 (fun ds => ∀ d ∈ ds, thing d) fun ds => .ok (.pu (DB' (isWD (ds.headD DN'))))
abbrev sp_need_word (K : PySem.W.Frag) : DSp := spX K 1 (fun ds => ∀ d ∈ ds, thing d) fun ds => if isWD (ds.headD DN') then .ok (.pu DN') else .error "NoWord"
abbrev sp_is_kind (K : PySem.W.Frag) : DSp := spX K 1 (fun ds => ∀ d ∈ ds, thing d) fun ds => .ok (.pu (DB' (isKD (ds.headD DN'))))
abbrev sp_need_rounds (K : PySem.W.Frag) : DSp := spX K 1 (fun ds => ∀ d ∈ ds, thing d) fun ds => if isRD (ds.headD DN') then .ok (.pu DN') else .error "NoCount"
abbrev sp_raw_reads (K : PySem.W.Frag) : DSp := spX K 3 (fun ds => ∃ (k b : Str) (r : Int), ds = [DS' k, DS' b, DI' r] ∧ isK k = true ∧ isBit b = true ∧ 1 ≤ r ∧ r ≤ 8) fun ds => .ok (strsL (rawReads (str (ds.getD 0 DN')) (str (ds.getD 1 DN')) (nat (ds.getD 2 DN'))))
abbrev sp_reads (K : PySem.W.Frag) : DSp := spX K 3 (fun ds => ∀ d ∈ ds, thing d) fun ds => if isKD (ds.getD 0 DN') then (if isBitD (ds.getD 1 DN') then (if isRD (ds.getD 2 DN') then .ok (strsL (rawReads (str (ds.getD 0 DN')) (str (ds.getD 1 DN')) (nat (ds.getD 2 DN')))) else .error "NoCount") else .error "NoKind") else .error "NoKind"
abbrev sp_raw_rows (K : PySem.W.Frag) : DSp := spX K 3 (fun ds => ∃ (ks : List Str) (r : Int) (z : Str), ds = [.tup (ks.map fun k => DS' k), DI' r, DS' z] ∧ (∀ k ∈ ks, isK k = true) ∧ ks.length ≤ 3 ∧ ks.length = z.length ∧ (∀ c ∈ z.cps.toList, isBit (sign c) = true) ∧ 1 ≤ r ∧ r ≤ 8)
  fun ds => .ok (strsL (rawRows (dstrs (ds.getD 0 DN')) (nat (ds.getD 1 DN')) (str (ds.getD 2 DN')).cps.toList))
def thingK (d : D) : Prop := thing d ∧ ∀ xs, d = .tup xs → xs.length ≤ sizeLine ∧ ∀ x ∈ xs, thing x
abbrev sp_are_kinds (K : PySem.W.Frag) : DSp := spX K 1 (fun ds => ∀ d ∈ ds, thingK d) fun ds => .ok (.pu (DB' (areK (ds.headD DN'))))
def lenT : D → Nat
  | .tup xs => xs.length
  | _ => 0
abbrev sp_rows_of (K : PySem.W.Frag) : DSp := spX K 3 (fun ds => ∀ d ∈ ds, thingK d) fun ds => if areK (ds.getD 0 DN') then (if isRD (ds.getD 1 DN') then (if isWD (ds.getD 2 DN') then (if (str (ds.getD 2 DN')).length = lenT (ds.getD 0 DN') then
    .ok (strsL (rawRows (dstrs (ds.getD 0 DN')) (nat (ds.getD 1 DN')) (str (ds.getD 2 DN')).cps.toList)) else .error "NoMatch") else .error "NoWord") else .error "NoCount") else .error "NoKind"
def PenOk (b : Nat) (pen : List D) : Prop := ∃ (cells : List Int) (k n : Int), pen = [.lst (cells.map fun c => DI' c), DI' k, DI' n] ∧ cells.length ≤ 12 ∧ 0 ≤ k ∧ k ≤ b ∧ 0 ≤ n
theorem PenOk.mono {b c : Nat} {pen : List D} (h : PenOk b pen) (l : b ≤ c) : PenOk c pen := by
  obtain ⟨cells, k, n, e, h1, h2, h3, h4⟩ := h
  exact ⟨cells, k, n, e, h1, h2, by omega, h4⟩
def sp__law_open (K : PySem.W.Frag) : DSp := fun ws Q Y => ∃ ns : List Int, ws = [.pu (.scr ns)] ∧ ns.length ≤ 63 ∧ ∀ pen, PenOk 0 pen → Q (.ow (.lst pen)) ws
def sp__law_spread (K : PySem.W.Frag) : DSp := fun ws Q Y => ∃ c k : Int, ws = [.pu (DI' c), .pu (DI' k)] ∧ 0 ≤ k ∧ k < 1073741824 ∧ ∀ v : Int, 0 ≤ v → Q (.pu (DI' v)) ws
def sp__law_take (K : PySem.W.Frag) : DSp := fun ws Q Y => ∃ (b : Nat) (pen : List D) (many : Int), ws = [.ow (.lst pen), .pu (DI' many)] ∧ PenOk b pen ∧ b < 1000000000 ∧ 0 < many ∧ many < 4294967296 ∧
  ∀ (v : Int) pen', 0 ≤ v → v < many → PenOk (b + 1) pen' → Q (.pu (DI' v)) [.ow (.lst pen'), .pu (DI' many)]
def sp__law_one_of (K : PySem.W.Frag) : DSp := fun ws Q Y => ∃ (b : Nat) (pen : List D) (some : D) (ds : List D), ws = [.ow (.lst pen), .pu some] ∧ PenOk b pen ∧ b < 1000000000 ∧ ((some = .lst ds) ∨ ∃ z, some = DS' z ∧ z.length ≤ sizeLine ∧ ds = z.cps.toList.map fun c => DS' (sign c)) ∧ ds ≠ [] ∧ ds.length < 1000000 ∧
  ∀ d pen', d ∈ ds → PenOk (b + 1) pen' → Q (.pu d) [.ow (.lst pen'), .pu some]
def sp__law_any_word (K : PySem.W.Frag) : DSp := fun ws Q Y => ∃ (b : Nat) (pen : List D) (n : Nat), ws = [.ow (.lst pen), .pu (DI' n)] ∧ PenOk b pen ∧ b + n < 999999999 ∧ n ≤ 64 ∧
  ∀ (z : Str) pen', z.length = n → (∀ c ∈ z.cps.toList, isBit (sign c) = true) → PenOk (b + 1 + n) pen' → Q (.pu (DS' z)) [.ow (.lst pen'), .pu (DI' n)]
def sp__law_any_kinds (K : PySem.W.Frag) : DSp := fun ws Q Y => ∃ (b : Nat) (pen : List D) (n : Nat), ws = [.ow (.lst pen), .pu (DI' n)] ∧ PenOk b pen ∧ b + n < 999999999 ∧ n ≤ 64 ∧
  ∀ (ks : List Str) pen', ks.length = n → (∀ k ∈ ks, isK k = true) → PenOk (b + n) pen' → Q (.pu (.tup (ks.map fun k => DS' k))) [.ow (.lst pen'), .pu (DI' n)]
def allW (bits : List Nat) : Nat → List Str
  | 0 => [""]
  | n + 1 => (allW bits n).flatMap fun w => bits.map fun c => w ++ sign c
abbrev sp__law_all (K : PySem.W.Frag) : DSp := spX K 2 (fun ds => ∃ (n : Nat) (z : Str), ds = [DI' n, DS' z] ∧ n ≤ 8 ∧ z.length ≤ 3) fun ds => .ok (strsL (allW (str (ds.getD 1 DN')).cps.toList (nat (ds.getD 0 DN'))))
def hasS (c : Nat) (z : Str) : Bool := decide (c ∈ z.cps.toList)
/-- what the law asks of a row: first one bit, then the other, one undecided at most where it turns -/
def ahead (l : Str) (row : Str) (r : Nat) : Int := if hasS 63 row then Txt.find row "?" else if hasS (l.cps.toList.headD 0) row then Txt.find row l else r
def goodRow (f l : Str) (r : Nat) (row : Str) : Bool :=
  let a := ahead l row r
  let rest := if hasS 63 row then cutS row (some (a + 1)) none else cutS row (some a) none
  decide (cutS row none (some a) = repS f a) && decide (rest = repS l rest.length)
def lawReads (kind bit : Str) (r : Nat) : List Str := if bit != "?" || kind == "plain" then [repS bit r] else (allW ("01?" : Str).cps.toList r).filter (if kind == "low" then goodRow "0" "1" r else goodRow "1" "0" r)
abbrev sp__law_reads (K : PySem.W.Frag) : DSp := spX K 3 (fun ds => ∃ (k b : Str) (r : Int), ds = [DS' k, DS' b, DI' r] ∧ isK k = true ∧ isBit b = true ∧ 1 ≤ r ∧ r ≤ 5) fun ds => .ok (strsL (lawReads (str (ds.getD 0 DN')) (str (ds.getD 1 DN')) (nat (ds.getD 2 DN'))))
def lawRows (ks : List Str) (r : Nat) (cs : List Nat) : List Str := (ks.zip cs).foldl (fun found p => found.flatMap fun start => (lawReads p.1 (sign p.2) r).map (start ++ ·)) [""]
abbrev sp__law_rows (K : PySem.W.Frag) : DSp := spX K 3 (fun ds => ∃ (ks : List Str) (r : Int) (z : Str), ds = [.tup (ks.map fun k => DS' k), DI' r, DS' z] ∧ (∀ k ∈ ks, isK k = true) ∧ ks.length ≤ 3 ∧ ks.length = z.length ∧ (∀ c ∈ z.cps.toList, isBit (sign c) = true) ∧ 1 ≤ r ∧ r ≤ 3)
  fun ds => .ok (strsL (lawRows (dstrs (ds.getD 0 DN')) (nat (ds.getD 1 DN')) (str (ds.getD 2 DN')).cps.toList))
abbrev sp__law_refused_right (K : PySem.W.Frag) : DSp := spX K 3 (fun ds => ∃ (ks : List Str) (r : Int) (z : Str), ds = [.tup (ks.map fun k => DS' k), DI' r, DS' z] ∧ (∀ k ∈ ks, isK k = true) ∧ 1 ≤ ks.length ∧ ks.length ≤ 3 ∧ ks.length = z.length ∧ (∀ c ∈ z.cps.toList, isBit (sign c) = true) ∧ 1 ≤ r ∧ r ≤ 3) fun ds => .ok (.pu (DB' true))
def sp_law (K : PySem.W.Frag) : DSp := fun ws Q Y => ∃ ns : List Int, ws = [.pu (.scr ns)] ∧ ns.length ≤ 63 ∧ Q (.pu (DB' true)) ws
end
end Lw

/-! text W -/
set_option Elab.async false
set_option linter.all false
set_option maxRecDepth 100000
set_option maxHeartbeats 0
namespace Lw
open PySem PySem.Spec PyProof.Rows L2 LamX DL
section
variable {P : Program} {w : World} {K : PySem.W.Frag} {mg : Str → Option Value} {base : Heap} {f : Addr} {cdv : Value} {A : Around} {outer : List Env} {s : Shared} {H : Hp} {vs : List V} {E : XK}
def N_is_within_bounds : List Str := ["thing", "least", "most"]
theorem sc_is_within_bounds : FnScope N_is_within_bounds ["thing", "least", "most"] (defScope st_is_within_bounds) := ⟨rfl, rfl, rfl, by decide +kernel, rfl, by decide +kernel, by decide +kernel⟩
def t_is_within_bounds (K : PySem.W.Frag) : DTS := dRet (dAndV (dCallP isiP (dCons (dVar 0) (dCons (dC (.ty "int")) (dNil)))) (dAndV (dNotV (dCallP isiP (dCons (dVar 0) (dCons (dC (.ty "bool")) (dNil))))) (dChain leP leP (dVar 1) (dVar 0) (dVar 2))))
theorem w_is_within_bounds (Z : Fx K mg)  (hr : Room 0 (A.deeper (PyProof.Rows.envOfC "is_within_bounds" (defScope st_is_within_bounds) s.heap.objs.size f cdv))) :
    DSs (cxOf (L2.CX P w) P w K mg base N_is_within_bounds "is_within_bounds" (defScope st_is_within_bounds) f cdv A outer s H E) ⟨K, TT K, vs⟩ (fun c d _ H' => E c d H') (defBody st_is_within_bounds) (t_is_within_bounds K) := by
  have nd : N_is_within_bounds.Nodup := sc_is_within_bounds.nd
  have hP : PassesOwn (model P w) (cxOf (L2.CX P w) P w K mg base N_is_within_bounds "is_within_bounds" (defScope st_is_within_bounds) f cdv A outer s H E).A (cxOf (L2.CX P w) P w K mg base N_is_within_bounds "is_within_bounds" (defScope st_is_within_bounds) f cdv A outer s H E).env (cxOf (L2.CX P w) P w K mg base N_is_within_bounds "is_within_bounds" (defScope st_is_within_bounds) f cdv A outer s H E).xe := passes_of rfl
  exact dss_one (ds_ret (de_and (de_blt call_isi (by rfl) Z.n_isinstance boot_isinstance pr_isi (da_cons (de_var 0 (pv 0)) (da_cons (de_tc (pe_bltn (v := .ty "int") (by rfl) Z.n_int boot_int (by rfl))) (da_nil)))) (de_and (de_not (de_blt call_isi (by rfl) Z.n_isinstance boot_isinstance pr_isi (da_cons (de_var 0 (pv 0)) (da_cons (de_tc (pe_bltn (v := .ty "bool") (by rfl) Z.n_bool boot_bool (by rfl))) (da_nil))))) (de_one (de_chain op_le op_le pr_le pr_le (de_var 1 (pv 1)) (de_var 0 (pv 0)) (de_var 2 (pv 2)))))))
def N_is_word : List Str := ["thing", "bit"]
theorem sc_is_word : FnScope N_is_word ["thing"] (defScope st_is_word) := ⟨rfl, rfl, rfl, by decide +kernel, rfl, by decide +kernel, by decide +kernel⟩
def t_is_word (K : PySem.W.Frag) : DTS := dRet (dAndV (dCallP isiP (dCons (dVar 0) (dCons (dC (.ty "str")) (dNil)))) (dAndV (dChain leP leP (dC (.int 1)) (dCallP lenP (dCons (dVar 0) (dNil))) (dC (.int 32))) (dCallP allP (dCons (dLc (dIt (dVar 0)) (dgName 1) (dYes) (dFz (dOp (inP false) (dVar 1) (dC (.str "01?")))) [1]) (dNil)))))
theorem w_is_word (Z : Fx K mg)  (hr : Room 0 (A.deeper (PyProof.Rows.envOfC "is_word" (defScope st_is_word) s.heap.objs.size f cdv))) :
    DSs (cxOf (L2.CX P w) P w K mg base N_is_word "is_word" (defScope st_is_word) f cdv A outer s H E) ⟨K, TT K, vs⟩ (fun c d _ H' => E c d H') (defBody st_is_word) (t_is_word K) := by
  have nd : N_is_word.Nodup := sc_is_word.nd
  have hP : PassesOwn (model P w) (cxOf (L2.CX P w) P w K mg base N_is_word "is_word" (defScope st_is_word) f cdv A outer s H E).A (cxOf (L2.CX P w) P w K mg base N_is_word "is_word" (defScope st_is_word) f cdv A outer s H E).env (cxOf (L2.CX P w) P w K mg base N_is_word "is_word" (defScope st_is_word) f cdv A outer s H E).xe := passes_of rfl
  exact dss_one (ds_ret (de_and (de_blt call_isi (by rfl) Z.n_isinstance boot_isinstance pr_isi (da_cons (de_var 0 (pv 0)) (da_cons (de_tc (pe_bltn (v := .ty "str") (by rfl) Z.n_str boot_str (by rfl))) (da_nil)))) (de_and (de_chain op_le op_le pr_le pr_le (de_tc pe_int) (de_blt call_len (by rfl) Z.n_len PySem.boot_len pr_len (da_cons (de_var 0 (pv 0)) (da_nil))) (de_tc (v := .int 32) (pe_glob (by rfl) Z.c_MOST_BITS.choose_spec ⟨_, rfl⟩))) (de_one (de_blt (cr_all rfl) (by rfl) Z.n_all boot_all pr_all (da_cons (de_lcA [("bit", 1)] rfl nd (di_any rfl (de_var 0 (pv 0))) (blkOk_by (N := N_is_word) (sc := defScope st_is_word) (by decide +kernel)) (by decide) (fun _ _ _ _ _ => dg_name (i := 1) nd rfl (by first | exact Or.inl rfl | exact Or.inr rfl)) (fun _ _ _ _ _ => dts_nil) (fun _ _ _ _ _ => de_fz (de_cmp op_inA pr_in (de_var 1 (pv 1)) (de_tc pe_str) (by with_unfolding_all rfl)))) (da_nil)))))))
def N_need_word : List Str := ["thing"]
theorem sc_need_word : FnScope N_need_word ["thing"] (defScope st_need_word) := ⟨rfl, rfl, rfl, by decide +kernel, rfl, by decide +kernel, by decide +kernel⟩
def t_need_word (K : PySem.W.Frag) : DTS := dIfS (dNot (dTst (dCall ((sp_is_word K)) (dCons (dFz (dVar 0)) (dNil))))) (dRaise (He.ga K "NoWord")) (dNext)
theorem w_need_word (Z : Fx K mg) (C_is_word : CallOk P w K mg base (TT K) 1 "is_word" ["thing"] (sp_is_word K)) (hr : Room 1 (A.deeper (PyProof.Rows.envOfC "need_word" (defScope st_need_word) s.heap.objs.size f cdv))) :
    DSs (cxOf (L2.CX P w) P w K mg base N_need_word "need_word" (defScope st_need_word) f cdv A outer s H E) ⟨K, TT K, vs⟩ (fun c d _ H' => E c d H') (defBody st_need_word) (t_need_word K) := by
  have nd : N_need_word.Nodup := sc_need_word.nd
  have hP : PassesOwn (model P w) (cxOf (L2.CX P w) P w K mg base N_need_word "need_word" (defScope st_need_word) f cdv A outer s H E).A (cxOf (L2.CX P w) P w K mg base N_need_word "need_word" (defScope st_need_word) f cdv A outer s H E).env (cxOf (L2.CX P w) P w K mg base N_need_word "need_word" (defScope st_need_word) f cdv A outer s H E).xe := passes_of rfl
  exact dss_one (ds_if (dt_not (dt_val (de_cf C_is_word rfl hr (by rfl) (takes_of rfl rfl rfl rfl) (da_cons (de_fz (de_var 0 (pv 0))) (da_nil))))) (dss_one (ds_raiseE Z.x_NoWord rfl (takes_of rfl rfl rfl rfl) (by rfl))) (dss_nil))
def N_is_kind : List Str := ["thing"]
theorem sc_is_kind : FnScope N_is_kind ["thing"] (defScope st_is_kind) := ⟨rfl, rfl, rfl, by decide +kernel, rfl, by decide +kernel, by decide +kernel⟩
def t_is_kind (K : PySem.W.Frag) : DTS := dRet (dAndV (dCallP isiP (dCons (dVar 0) (dCons (dC (.ty "str")) (dNil)))) (dOp (inP false) (dVar 0) (dG (.tup tup_KINDS))))
theorem w_is_kind (Z : Fx K mg)  (hr : Room 0 (A.deeper (PyProof.Rows.envOfC "is_kind" (defScope st_is_kind) s.heap.objs.size f cdv))) :
    DSs (cxOf (L2.CX P w) P w K mg base N_is_kind "is_kind" (defScope st_is_kind) f cdv A outer s H E) ⟨K, TT K, vs⟩ (fun c d _ H' => E c d H') (defBody st_is_kind) (t_is_kind K) := by
  have nd : N_is_kind.Nodup := sc_is_kind.nd
  have hP : PassesOwn (model P w) (cxOf (L2.CX P w) P w K mg base N_is_kind "is_kind" (defScope st_is_kind) f cdv A outer s H E).A (cxOf (L2.CX P w) P w K mg base N_is_kind "is_kind" (defScope st_is_kind) f cdv A outer s H E).env (cxOf (L2.CX P w) P w K mg base N_is_kind "is_kind" (defScope st_is_kind) f cdv A outer s H E).xe := passes_of rfl
  exact dss_one (ds_ret (de_and (de_blt call_isi (by rfl) Z.n_isinstance boot_isinstance pr_isi (da_cons (de_var 0 (pv 0)) (da_cons (de_tc (pe_bltn (v := .ty "str") (by rfl) Z.n_str boot_str (by rfl))) (da_nil)))) (de_one (de_cmp op_inA pr_in (de_var 0 (pv 0)) (de_gtup (vs := [.str "plain", .str "low", .str "high"]) rfl (by rfl) Z.g_KINDS Z.u_KINDS) (by with_unfolding_all rfl)))))
def N_need_rounds : List Str := ["r"]
theorem sc_need_rounds : FnScope N_need_rounds ["r"] (defScope st_need_rounds) := ⟨rfl, rfl, rfl, by decide +kernel, rfl, by decide +kernel, by decide +kernel⟩
def t_need_rounds (K : PySem.W.Frag) : DTS := dIfS (dNot (dTst (dCall ((sp_is_within_bounds K)) (dCons (dFz (dVar 0)) (dCons (dC (.int 1)) (dCons (dC (.int 8)) (dNil))))))) (dRaise (He.ga K "NoCount")) (dNext)
theorem w_need_rounds (Z : Fx K mg) (C_is_within_bounds : CallOk P w K mg base (TT K) 1 "is_within_bounds" ["thing", "least", "most"] (sp_is_within_bounds K)) (hr : Room 1 (A.deeper (PyProof.Rows.envOfC "need_rounds" (defScope st_need_rounds) s.heap.objs.size f cdv))) :
    DSs (cxOf (L2.CX P w) P w K mg base N_need_rounds "need_rounds" (defScope st_need_rounds) f cdv A outer s H E) ⟨K, TT K, vs⟩ (fun c d _ H' => E c d H') (defBody st_need_rounds) (t_need_rounds K) := by
  have nd : N_need_rounds.Nodup := sc_need_rounds.nd
  have hP : PassesOwn (model P w) (cxOf (L2.CX P w) P w K mg base N_need_rounds "need_rounds" (defScope st_need_rounds) f cdv A outer s H E).A (cxOf (L2.CX P w) P w K mg base N_need_rounds "need_rounds" (defScope st_need_rounds) f cdv A outer s H E).env (cxOf (L2.CX P w) P w K mg base N_need_rounds "need_rounds" (defScope st_need_rounds) f cdv A outer s H E).xe := passes_of rfl
  exact dss_one (ds_if (dt_not (dt_val (de_cf C_is_within_bounds rfl hr (by rfl) (takes_of rfl rfl rfl rfl) (da_cons (de_fz (de_var 0 (pv 0))) (da_cons (de_tc pe_int) (da_cons (de_tc (v := .int 8) (pe_glob (by rfl) Z.c_MOST_ROUNDS.choose_spec ⟨_, rfl⟩)) (da_nil))))))) (dss_one (ds_raiseE Z.x_NoCount rfl (takes_of rfl rfl rfl rfl) (by rfl))) (dss_nil))
def N_raw_reads : List Str := ["kind", "bit", "r", "first", "last", "found", "many"]
theorem sc_raw_reads : FnScope N_raw_reads ["kind", "bit", "r"] (defScope st_raw_reads) := ⟨rfl, rfl, rfl, by decide +kernel, rfl, by decide +kernel, by decide +kernel⟩
def t_raw_reads (K : PySem.W.Frag) : DTS := dSeq (dIfS (dOr (dTst (dOp (eqP true) (dVar 1) (dC (.str "?")))) (dTst (dOp (eqP false) (dVar 0) (dC (.str "plain"))))) (dRet (dLst (dCons (dFz (dOp mulP (dVar 1) (dVar 2))) (dNil)))) (dNext))
  (dSeq (dAsg (dIf (dTst (dOp (eqP false) (dVar 0) (dC (.str "low")))) (dC (.str "01")) (dC (.str "10"))) (dgTxt (dgCons (dgName 3) (dgCons (dgName 4) (dgNil)))))
  (dSeq (dSet 5 (dLc (dRng1 (dCons (dOp addP (dVar 2) (dC (.int 1))) (dNil))) (dgName 6) (dYes) (dFz (dOp addP (dOp mulP (dVar 3) (dVar 6)) (dOp mulP (dVar 4) (dOp subP (dVar 2) (dVar 6))))) [6]))
  (dRet (dCallP sortedSP (dCons (dOp addP (dVar 5) (dLc (dRng1 (dCons (dVar 2) (dNil))) (dgName 6) (dYes) (dFz (dOp addP (dOp addP (dOp mulP (dVar 3) (dVar 6)) (dC (.str "?"))) (dOp mulP (dVar 4) (dOp subP (dOp subP (dVar 2) (dC (.int 1))) (dVar 6))))) [6])) (dNil))))))
theorem w_raw_reads (Z : Fx K mg)  (hr : Room 0 (A.deeper (PyProof.Rows.envOfC "raw_reads" (defScope st_raw_reads) s.heap.objs.size f cdv))) :
    DSs (cxOf (L2.CX P w) P w K mg base N_raw_reads "raw_reads" (defScope st_raw_reads) f cdv A outer s H E) ⟨K, TT K, vs⟩ (fun c d _ H' => E c d H') (defBody st_raw_reads) (t_raw_reads K) := by
  have nd : N_raw_reads.Nodup := sc_raw_reads.nd
  have hP : PassesOwn (model P w) (cxOf (L2.CX P w) P w K mg base N_raw_reads "raw_reads" (defScope st_raw_reads) f cdv A outer s H E).A (cxOf (L2.CX P w) P w K mg base N_raw_reads "raw_reads" (defScope st_raw_reads) f cdv A outer s H E).env (cxOf (L2.CX P w) P w K mg base N_raw_reads "raw_reads" (defScope st_raw_reads) f cdv A outer s H E).xe := passes_of rfl
  exact dss_cons (ds_if (DW.dt (dw_or (dt_cmp (op_neA (hu64 hr)) pr_ne (de_var 1 (pv 1)) (de_tc pe_str) (nomark _)) (dw_or1 (dt_cmp (op_eqA (hu64 hr)) pr_eq (de_var 0 (pv 0)) (de_tc pe_str) (nomark _))))) (dss_one (ds_ret (de_lst (da_cons (de_fz (de_op op_mulD pr_mul (de_var 1 (pv 1)) (de_var 2 (pv 2)))) (da_nil))))) (dss_nil))
    (dss_cons (ds_asg (de_if (dt_cmp (op_eqA (hu64 hr)) pr_eq (de_var 0 (pv 0)) (de_tc pe_str) (nomark _)) (de_tc pe_str) (de_tc pe_str)) (dg_txt rfl (dgs_cons (dg_name (i := 3) nd rfl (by first | exact Or.inl rfl | exact Or.inr rfl)) (dgs_cons (dg_name (i := 4) nd rfl (by first | exact Or.inl rfl | exact Or.inr rfl)) (dgs_nil)))))
    (dss_cons ((by first | exact ds_setLcA [("many", 6)] rfl nd (i := 5) rfl rfl (sw_true rfl rfl rfl (by decide +kernel)) (di_rng1 (by rfl) Z.n_range (da_cons (de_op op_addD pr_add (de_var 2 (pv 2)) (de_tc pe_int)) (da_nil))) (blkOk_by (N := N_raw_reads) (sc := defScope st_raw_reads) (by decide +kernel)) (by decide) (fun _ _ _ _ _ => dg_name (i := 6) nd rfl (by first | exact Or.inl rfl | exact Or.inr rfl)) (fun _ _ _ _ _ => dts_nil) (fun _ _ _ _ _ => de_fz (de_op op_addD pr_add (de_op op_mulD pr_mul (de_var 3 (pv 3)) (de_var 6 (pv 6))) (de_op op_mulD pr_mul (de_var 4 (pv 4)) (de_op op_sub pr_sub (de_var 2 (pv 2)) (de_var 6 (pv 6)))))) | exact ds_set (i := 5) nd rfl (by first | exact Or.inl rfl | exact Or.inr rfl) (de_lcA [("many", 6)] rfl nd  (di_rng1 (by rfl) Z.n_range (da_cons (de_op op_addD pr_add (de_var 2 (pv 2)) (de_tc pe_int)) (da_nil))) (blkOk_by (N := N_raw_reads) (sc := defScope st_raw_reads) (by decide +kernel)) (by decide) (fun _ _ _ _ _ => dg_name (i := 6) nd rfl (by first | exact Or.inl rfl | exact Or.inr rfl)) (fun _ _ _ _ _ => dts_nil) (fun _ _ _ _ _ => de_fz (de_op op_addD pr_add (de_op op_mulD pr_mul (de_var 3 (pv 3)) (de_var 6 (pv 6))) (de_op op_mulD pr_mul (de_var 4 (pv 4)) (de_op op_sub pr_sub (de_var 2 (pv 2)) (de_var 6 (pv 6)))))))))
    (dss_one (ds_ret (de_blt cr_sortedS (by rfl) Z.n_sorted boot_sorted pr_sortedS (da_cons (de_op op_addD pr_add (de_var 5 (pv 5)) (de_lcA [("many", 6)] rfl nd (di_rng1 (by rfl) Z.n_range (da_cons (de_var 2 (pv 2)) (da_nil))) (blkOk_by (N := N_raw_reads) (sc := defScope st_raw_reads) (by decide +kernel)) (by decide) (fun _ _ _ _ _ => dg_name (i := 6) nd rfl (by first | exact Or.inl rfl | exact Or.inr rfl)) (fun _ _ _ _ _ => dts_nil) (fun _ _ _ _ _ => de_fz (de_op op_addD pr_add (de_op op_addD pr_add (de_op op_mulD pr_mul (de_var 3 (pv 3)) (de_var 6 (pv 6))) (de_tc pe_str)) (de_op op_mulD pr_mul (de_var 4 (pv 4)) (de_op op_sub pr_sub (de_op op_sub pr_sub (de_var 2 (pv 2)) (de_tc pe_int)) (de_var 6 (pv 6)))))))) (da_nil)))))))
def N_reads : List Str := ["kind", "bit", "r"]
theorem sc_reads : FnScope N_reads ["kind", "bit", "r"] (defScope st_reads) := ⟨rfl, rfl, rfl, by decide +kernel, rfl, by decide +kernel, by decide +kernel⟩
def t_reads (K : PySem.W.Frag) : DTS := dSeq (dIfS (dNot (dTst (dCall ((sp_is_kind K)) (dCons (dFz (dVar 0)) (dNil))))) (dRaise (He.ga K "NoKind")) (dNext))
  (dSeq (dIfS (dOr (dNot (dTst (dCallP isiP (dCons (dVar 1) (dCons (dC (.ty "str")) (dNil)))))) (dTst (dOp (inP true) (dVar 1) (dTup (dCons (dC (.str "0")) (dCons (dC (.str "1")) (dCons (dC (.str "?")) (dNil)))))))) (dRaise (He.ga K "NoKind")) (dNext))
  (dSeq (dDrop (dCall ((sp_need_rounds K)) (dCons (dFz (dVar 2)) (dNil))))
  (dRet (dCall ((sp_raw_reads K)) (dCons (dFz (dVar 0)) (dCons (dFz (dVar 1)) (dCons (dFz (dVar 2)) (dNil))))))))
theorem w_reads (Z : Fx K mg) (C_is_kind : CallOk P w K mg base (TT K) 1 "is_kind" ["thing"] (sp_is_kind K)) (C_need_rounds : CallOk P w K mg base (TT K) 2 "need_rounds" ["r"] (sp_need_rounds K)) (C_raw_reads : CallOk P w K mg base (TT K) 1 "raw_reads" ["kind", "bit", "r"] (sp_raw_reads K)) (hr : Room 2 (A.deeper (PyProof.Rows.envOfC "reads" (defScope st_reads) s.heap.objs.size f cdv))) :
    DSs (cxOf (L2.CX P w) P w K mg base N_reads "reads" (defScope st_reads) f cdv A outer s H E) ⟨K, TT K, vs⟩ (fun c d _ H' => E c d H') (defBody st_reads) (t_reads K) := by
  have nd : N_reads.Nodup := sc_reads.nd
  have hP : PassesOwn (model P w) (cxOf (L2.CX P w) P w K mg base N_reads "reads" (defScope st_reads) f cdv A outer s H E).A (cxOf (L2.CX P w) P w K mg base N_reads "reads" (defScope st_reads) f cdv A outer s H E).env (cxOf (L2.CX P w) P w K mg base N_reads "reads" (defScope st_reads) f cdv A outer s H E).xe := passes_of rfl
  exact dss_cons (ds_if (dt_not (dt_val (de_cf C_is_kind rfl hr (by rfl) (takes_of rfl rfl rfl rfl) (da_cons (de_fz (de_var 0 (pv 0))) (da_nil))))) (dss_one (ds_raiseE Z.x_NoKind rfl (takes_of rfl rfl rfl rfl) (by rfl))) (dss_nil))
    (dss_cons (ds_if (DW.dt (dw_or (dt_not (dt_val (de_blt call_isi (by rfl) Z.n_isinstance boot_isinstance pr_isi (da_cons (de_var 1 (pv 1)) (da_cons (de_tc (pe_bltn (v := .ty "str") (by rfl) Z.n_str boot_str (by rfl))) (da_nil)))))) (dw_or1 (dt_cmp op_notInA pr_notIn (de_var 1 (pv 1)) (de_tup (da_cons (de_tc pe_str) (da_cons (de_tc pe_str) (da_cons (de_tc pe_str) (da_nil))))) (by with_unfolding_all rfl))))) (dss_one (ds_raiseE Z.x_NoKind rfl (takes_of rfl rfl rfl rfl) (by rfl))) (dss_nil))
    (dss_cons (ds_expr (de_cf C_need_rounds rfl hr (by rfl) (takes_of rfl rfl rfl rfl) (da_cons (de_fz (de_var 2 (pv 2))) (da_nil))))
    (dss_one (ds_ret (de_cf C_raw_reads rfl hr (by rfl) (takes_of rfl rfl rfl rfl) (da_cons (de_fz (de_var 0 (pv 0))) (da_cons (de_fz (de_var 1 (pv 1))) (da_cons (de_fz (de_var 2 (pv 2))) (da_nil)))))))))
def N_raw_rows : List Str := ["kinds", "r", "word", "found", "kind", "bit", "start", "row"]
theorem sc_raw_rows : FnScope N_raw_rows ["kinds", "r", "word"] (defScope st_raw_rows) := ⟨rfl, rfl, rfl, by decide +kernel, rfl, by decide +kernel, by decide +kernel⟩
def t_raw_rows (K : PySem.W.Frag) : DTS := dSeq (dSet 3 (dLst (dCons (dC (.str "")) (dNil))))
  (dSeq (dFor (dZip true (dCons (dFz (dVar 0)) (dCons (dFz (dVar 2)) (dNil)))) (dgTup (dgCons (dgName 4) (dgCons (dgName 5) (dgNil)))) (dSet 3 (dLc2 (dIt (dVar 3)) (dgName 6) (dYes) (dIt (dCall ((sp_raw_reads K)) (dCons (dFz (dVar 4)) (dCons (dFz (dVar 5)) (dCons (dFz (dVar 1)) (dNil)))))) (dgName 7) (dYes) (dFz (dOp addP (dVar 6) (dVar 7))) [6, 7] [7])))
  (dRet (dVar 3)))
theorem w_raw_rows (Z : Fx K mg) (C_raw_reads : CallOk P w K mg base (TT K) 1 "raw_reads" ["kind", "bit", "r"] (sp_raw_reads K)) (hr : Room 1 (A.deeper (PyProof.Rows.envOfC "raw_rows" (defScope st_raw_rows) s.heap.objs.size f cdv))) :
    DSs (cxOf (L2.CX P w) P w K mg base N_raw_rows "raw_rows" (defScope st_raw_rows) f cdv A outer s H E) ⟨K, TT K, vs⟩ (fun c d _ H' => E c d H') (defBody st_raw_rows) (t_raw_rows K) := by
  have nd : N_raw_rows.Nodup := sc_raw_rows.nd
  have hP : PassesOwn (model P w) (cxOf (L2.CX P w) P w K mg base N_raw_rows "raw_rows" (defScope st_raw_rows) f cdv A outer s H E).A (cxOf (L2.CX P w) P w K mg base N_raw_rows "raw_rows" (defScope st_raw_rows) f cdv A outer s H E).env (cxOf (L2.CX P w) P w K mg base N_raw_rows "raw_rows" (defScope st_raw_rows) f cdv A outer s H E).xe := passes_of rfl
  exact dss_cons (ds_set (i := 3) nd rfl (by first | exact Or.inl rfl | exact Or.inr rfl) (de_lst (da_cons (de_tc pe_str) (da_nil))))
    (dss_cons (ds_for hP rfl (di_zipS rfl (by rfl) Z.n_zip (da_cons (de_fz (de_var 0 (pv 0))) (da_cons (de_fz (de_var 2 (pv 2))) (da_nil))) pe_bl) (dg_tup rfl rfl (dgs_cons (dg_name (i := 4) nd rfl (by first | exact Or.inl rfl | exact Or.inr rfl)) (dgs_cons (dg_name (i := 5) nd rfl (by first | exact Or.inl rfl | exact Or.inr rfl)) (dgs_nil))) (GL.len (gl_cons (gv_name) (gl_cons (gv_name) (gl_nil))))) (dss_one ((by first | exact ds_setLc2A [("start", 6), ("row", 7)] [7] rfl nd (i := 3) rfl rfl (sw_true rfl rfl rfl (by decide +kernel)) (di_any rfl (de_var 3 (pv 3))) (blkOk_by (N := N_raw_rows) (sc := defScope st_raw_rows) (by decide +kernel)) (by decide) (by decide) (by decide) (fun _ _ _ _ _ => dg_name (i := 6) nd rfl (by first | exact Or.inl rfl | exact Or.inr rfl)) (fun _ _ _ _ _ => dts_nil) (fun _ _ _ _ _ => di_any rfl (de_cf C_raw_reads rfl hr (by rfl) takesF (da_cons (de_fz (de_var 4 (pv 4))) (da_cons (de_fz (de_var 5 (pv 5))) (da_cons (de_fz (de_var 1 (pv 1))) (da_nil)))))) (fun _ _ _ _ _ => dg_name (i := 7) nd rfl (by first | exact Or.inl rfl | exact Or.inr rfl)) (fun _ _ _ _ _ => dts_nil) (fun _ _ _ _ _ => de_fz (de_op op_addD pr_add (de_var 6 (pv 6)) (de_var 7 (pv 7)))) | exact ds_set (i := 3) nd rfl (by first | exact Or.inl rfl | exact Or.inr rfl) (de_lc2A [("start", 6), ("row", 7)] [7] rfl nd  (di_any rfl (de_var 3 (pv 3))) (blkOk_by (N := N_raw_rows) (sc := defScope st_raw_rows) (by decide +kernel)) (by decide) (by decide) (by decide) (fun _ _ _ _ _ => dg_name (i := 6) nd rfl (by first | exact Or.inl rfl | exact Or.inr rfl)) (fun _ _ _ _ _ => dts_nil) (fun _ _ _ _ _ => di_any rfl (de_cf C_raw_reads rfl hr (by rfl) takesF (da_cons (de_fz (de_var 4 (pv 4))) (da_cons (de_fz (de_var 5 (pv 5))) (da_cons (de_fz (de_var 1 (pv 1))) (da_nil)))))) (fun _ _ _ _ _ => dg_name (i := 7) nd rfl (by first | exact Or.inl rfl | exact Or.inr rfl)) (fun _ _ _ _ _ => dts_nil) (fun _ _ _ _ _ => de_fz (de_op op_addD pr_add (de_var 6 (pv 6)) (de_var 7 (pv 7)))))))))
    (dss_one (ds_ret (de_var 3 (pv 3)))))
def N_are_kinds : List Str := ["thing", "kind"]
theorem sc_are_kinds : FnScope N_are_kinds ["thing"] (defScope st_are_kinds) := ⟨rfl, rfl, rfl, by decide +kernel, rfl, by decide +kernel, by decide +kernel⟩
def t_are_kinds (K : PySem.W.Frag) : DTS := dRet (dAndV (dCallP isiP (dCons (dVar 0) (dCons (dC (.ty "tuple")) (dNil)))) (dAndV (dChain leP leP (dC (.int 1)) (dCallP lenP (dCons (dVar 0) (dNil))) (dC (.int 3))) (dCallP allP (dCons (dLc (dIt (dVar 0)) (dgName 1) (dYes) (dFz (dCall ((sp_is_kind K)) (dCons (dFz (dVar 1)) (dNil)))) [1]) (dNil)))))
theorem w_are_kinds (Z : Fx K mg) (C_is_kind : CallOk P w K mg base (TT K) 1 "is_kind" ["thing"] (sp_is_kind K)) (hr : Room 1 (A.deeper (PyProof.Rows.envOfC "are_kinds" (defScope st_are_kinds) s.heap.objs.size f cdv))) :
    DSs (cxOf (L2.CX P w) P w K mg base N_are_kinds "are_kinds" (defScope st_are_kinds) f cdv A outer s H E) ⟨K, TT K, vs⟩ (fun c d _ H' => E c d H') (defBody st_are_kinds) (t_are_kinds K) := by
  have nd : N_are_kinds.Nodup := sc_are_kinds.nd
  have hP : PassesOwn (model P w) (cxOf (L2.CX P w) P w K mg base N_are_kinds "are_kinds" (defScope st_are_kinds) f cdv A outer s H E).A (cxOf (L2.CX P w) P w K mg base N_are_kinds "are_kinds" (defScope st_are_kinds) f cdv A outer s H E).env (cxOf (L2.CX P w) P w K mg base N_are_kinds "are_kinds" (defScope st_are_kinds) f cdv A outer s H E).xe := passes_of rfl
  exact dss_one (ds_ret (de_and (de_blt call_isi (by rfl) Z.n_isinstance boot_isinstance pr_isi (da_cons (de_var 0 (pv 0)) (da_cons (de_tc (pe_bltn (v := .ty "tuple") (by rfl) Z.n_tuple bootT (by rfl))) (da_nil)))) (de_and (de_chain op_le op_le pr_le pr_le (de_tc pe_int) (de_blt call_len (by rfl) Z.n_len PySem.boot_len pr_len (da_cons (de_var 0 (pv 0)) (da_nil))) (de_tc (v := .int 3) (pe_glob (by rfl) Z.c_MOST_STORES.choose_spec ⟨_, rfl⟩))) (de_one (de_blt (cr_all rfl) (by rfl) Z.n_all boot_all pr_all (da_cons (de_lcA [("kind", 1)] rfl nd (di_any rfl (de_var 0 (pv 0))) (blkOk_by (N := N_are_kinds) (sc := defScope st_are_kinds) (by decide +kernel)) (by decide) (fun _ _ _ _ _ => dg_name (i := 1) nd rfl (by first | exact Or.inl rfl | exact Or.inr rfl)) (fun _ _ _ _ _ => dts_nil) (fun _ _ _ _ _ => de_fz (de_cf C_is_kind rfl hr (by rfl) takesF (da_cons (de_fz (de_var 1 (pv 1))) (da_nil))))) (da_nil)))))))
def N_rows_of : List Str := ["kinds", "r", "word"]
theorem sc_rows_of : FnScope N_rows_of ["kinds", "r", "word"] (defScope st_rows_of) := ⟨rfl, rfl, rfl, by decide +kernel, rfl, by decide +kernel, by decide +kernel⟩
def t_rows_of (K : PySem.W.Frag) : DTS := dSeq (dIfS (dNot (dTst (dCall ((sp_are_kinds K)) (dCons (dFz (dVar 0)) (dNil))))) (dRaise (He.ga K "NoKind")) (dNext))
  (dSeq (dDrop (dCall ((sp_need_rounds K)) (dCons (dFz (dVar 1)) (dNil))))
  (dSeq (dDrop (dCall ((sp_need_word K)) (dCons (dFz (dVar 2)) (dNil))))
  (dSeq (dIfS (dTst (dOp (eqP true) (dCallP lenP (dCons (dVar 2) (dNil))) (dCallP lenP (dCons (dVar 0) (dNil))))) (dRaise (He.ga K "NoMatch")) (dNext))
  (dRet (dCall ((sp_raw_rows K)) (dCons (dFz (dVar 0)) (dCons (dFz (dVar 1)) (dCons (dFz (dVar 2)) (dNil)))))))))
theorem w_rows_of (Z : Fx K mg) (C_are_kinds : CallOk P w K mg base (TT K) 2 "are_kinds" ["thing"] (sp_are_kinds K)) (C_need_rounds : CallOk P w K mg base (TT K) 2 "need_rounds" ["r"] (sp_need_rounds K)) (C_need_word : CallOk P w K mg base (TT K) 2 "need_word" ["thing"] (sp_need_word K)) (C_raw_rows : CallOk P w K mg base (TT K) 2 "raw_rows" ["kinds", "r", "word"] (sp_raw_rows K)) (hr : Room 2 (A.deeper (PyProof.Rows.envOfC "rows_of" (defScope st_rows_of) s.heap.objs.size f cdv))) :
    DSs (cxOf (L2.CX P w) P w K mg base N_rows_of "rows_of" (defScope st_rows_of) f cdv A outer s H E) ⟨K, TT K, vs⟩ (fun c d _ H' => E c d H') (defBody st_rows_of) (t_rows_of K) := by
  have nd : N_rows_of.Nodup := sc_rows_of.nd
  have hP : PassesOwn (model P w) (cxOf (L2.CX P w) P w K mg base N_rows_of "rows_of" (defScope st_rows_of) f cdv A outer s H E).A (cxOf (L2.CX P w) P w K mg base N_rows_of "rows_of" (defScope st_rows_of) f cdv A outer s H E).env (cxOf (L2.CX P w) P w K mg base N_rows_of "rows_of" (defScope st_rows_of) f cdv A outer s H E).xe := passes_of rfl
  exact dss_cons (ds_if (dt_not (dt_val (de_cf C_are_kinds rfl hr (by rfl) (takes_of rfl rfl rfl rfl) (da_cons (de_fz (de_var 0 (pv 0))) (da_nil))))) (dss_one (ds_raiseE Z.x_NoKind rfl (takes_of rfl rfl rfl rfl) (by rfl))) (dss_nil))
    (dss_cons (ds_expr (de_cf C_need_rounds rfl hr (by rfl) (takes_of rfl rfl rfl rfl) (da_cons (de_fz (de_var 1 (pv 1))) (da_nil))))
    (dss_cons (ds_expr (de_cf C_need_word rfl hr (by rfl) (takes_of rfl rfl rfl rfl) (da_cons (de_fz (de_var 2 (pv 2))) (da_nil))))
    (dss_cons (ds_if (dt_cmp (op_neA (hu64 hr)) pr_ne (de_blt call_len (by rfl) Z.n_len PySem.boot_len pr_len (da_cons (de_var 2 (pv 2)) (da_nil))) (de_blt call_len (by rfl) Z.n_len PySem.boot_len pr_len (da_cons (de_var 0 (pv 0)) (da_nil))) (nomark _)) (dss_one (ds_raiseE Z.x_NoMatch rfl (takes_of rfl rfl rfl rfl) (by rfl))) (dss_nil))
    (dss_one (ds_ret (de_cf C_raw_rows rfl hr (by rfl) (takes_of rfl rfl rfl rfl) (da_cons (de_fz (de_var 0 (pv 0))) (da_cons (de_fz (de_var 1 (pv 1))) (da_cons (de_fz (de_var 2 (pv 2))) (da_nil))))))))))
def N__law_open : List Str := ["script", "cells", "k", "cell"]
theorem sc__law_open : FnScope N__law_open ["script"] (defScope st__law_open) := ⟨rfl, rfl, rfl, by decide +kernel, rfl, by decide +kernel, by decide +kernel⟩
def t__law_open (K : PySem.W.Frag) : DTS := dSeq (dSet 1 (dCallP listP (dCons (dSl slP (dVar 0) dONo (dOSome (dC (.int 12)))) (dNil))))
  (dSeq (dFor (dEnum (dCons (dFz (dSl slP (dVar 0) (dOSome (dC (.int 12))) (dOSome (dC (.int 63))))) (dNil))) (dgTup (dgCons (dgName 2) (dgCons (dgName 3) (dgNil)))) (dAsg (dOp addP (dOp ixP (dVar 1) (dOp modP (dCallP intP (dCons (dVar 2) (dNil))) (dC (.int 12)))) (dVar 3)) (dgSet (dVar 1) (dOp modP (dCallP intP (dCons (dVar 2) (dNil))) (dC (.int 12))))))
  (dRet (dLst (dCons (dFz (dVar 1)) (dCons (dC (.int 0)) (dCons (dC (.int 0)) (dNil)))))))
theorem w__law_open (Z : Fx K mg)  (hr : Room 0 (A.deeper (PyProof.Rows.envOfC "_law_open" (defScope st__law_open) s.heap.objs.size f cdv))) :
    DSs (cxOf (L2.CX P w) P w K mg base N__law_open "_law_open" (defScope st__law_open) f cdv A outer s H E) ⟨K, TT K, vs⟩ (fun c d _ H' => E c d H') (defBody st__law_open) (t__law_open K) := by
  have nd : N__law_open.Nodup := sc__law_open.nd
  have hP : PassesOwn (model P w) (cxOf (L2.CX P w) P w K mg base N__law_open "_law_open" (defScope st__law_open) f cdv A outer s H E).A (cxOf (L2.CX P w) P w K mg base N__law_open "_law_open" (defScope st__law_open) f cdv A outer s H E).env (cxOf (L2.CX P w) P w K mg base N__law_open "_law_open" (defScope st__law_open) f cdv A outer s H E).xe := passes_of rfl
  exact dss_cons (ds_set (i := 1) nd rfl (by first | exact Or.inl rfl | exact Or.inr rfl) (de_bty call_list_of (by rfl) Z.n_list bootL pr_list (da_cons (de_slice sl_all pr_sl (de_var 0 (pv 0)) do_none (do_some (de_tc pe_int))) (da_nil))))
    (dss_cons (ds_for hP rfl (di_en rfl (by rfl) Z.n_enumerate (da_cons (de_fz (de_slice sl_all pr_sl (de_var 0 (pv 0)) (do_some (de_tc pe_int)) (do_some (de_tc pe_int)))) (da_nil))) (dg_tup rfl rfl (dgs_cons (dg_name (i := 2) nd rfl (by first | exact Or.inl rfl | exact Or.inr rfl)) (dgs_cons (dg_name (i := 3) nd rfl (by first | exact Or.inl rfl | exact Or.inr rfl)) (dgs_nil))) (GL.len (gl_cons (gv_name) (gl_cons (gv_name) (gl_nil))))) (dss_one (ds_asg (de_op op_addD pr_add (de_ix ix_seq pr_ix (de_var 1 (pv 1)) (de_op op_mod pr_mod (de_bty call_int1 (by rfl) Z.n_int boot_int pr_int (da_cons (de_var 2 (pv 2)) (da_nil))) (de_tc pe_int)) (fun _ _ => rfl)) (de_var 3 (pv 3))) (dg_set (Wx := WxF) (de_var 1 (pv 1)) (de_op op_mod pr_mod (de_bty call_int1 (by rfl) Z.n_int boot_int pr_int (da_cons (de_var 2 (pv 2)) (da_nil))) (de_tc pe_int))))))
    (dss_one (ds_ret (de_lst (da_cons (de_fz (de_var 1 (pv 1))) (da_cons (de_tc pe_int) (da_cons (de_tc pe_int) (da_nil))))))))
def N__law_spread : List Str := ["cell", "k", "primes", "one", "two", "three"]
theorem sc__law_spread : FnScope N__law_spread ["cell", "k"] (defScope st__law_spread) := ⟨rfl, rfl, rfl, by decide +kernel, rfl, by decide +kernel, by decide +kernel⟩
def t__law_spread (K : PySem.W.Frag) : DTS := dSeq (dIfS (dTst (dOp geP (dVar 0) (dOp powP (dC (.int 10)) (dC (.int 18))))) (dRet (dVar 0)) (dNext))
  (dSeq (dSet 2 (dLst (dCons (dC (.int 2147483629)) (dCons (dC (.int 2147483587)) (dCons (dC (.int 2147483579)) (dCons (dC (.int 2147483563)) (dCons (dC (.int 2147483549)) (dCons (dC (.int 2147483543)) (dCons (dC (.int 2147483497)) (dCons (dC (.int 2147483489)) (dNil)))))))))))
  (dSeq (dSet 2 (dOp addP (dVar 2) (dLst (dCons (dC (.int 2147483477)) (dCons (dC (.int 2147483423)) (dCons (dC (.int 2147483399)) (dCons (dC (.int 2147483353)) (dCons (dC (.int 2147483323)) (dNil)))))))))
  (dSeq (dSet 3 (dOp mulP (dOp modP (dCallP intP (dCons (dVar 0) (dNil))) (dC (.int 1000000007))) (dOp addP (dOp mulP (dC (.int 2)) (dVar 1)) (dC (.int 69069)))))
  (dSeq (dSet 3 (dOp modP (dCallP intP (dCons (dOp powP (dOp addP (dOp addP (dVar 3) (dOp mulP (dVar 1) (dC (.int 40503)))) (dC (.int 977))) (dC (.int 3))) (dNil))) (dOp ixP (dVar 2) (dOp modP (dCallP intP (dCons (dVar 1) (dNil))) (dC (.int 13))))))
  (dSeq (dSet 4 (dOp modP (dCallP intP (dCons (dOp powP (dOp addP (dOp addP (dOp mulP (dVar 3) (dOp addP (dVar 1) (dC (.int 3)))) (dOp modP (dCallP intP (dCons (dVar 0) (dNil))) (dC (.int 65537)))) (dC (.int 5))) (dC (.int 5))) (dNil))) (dOp ixP (dVar 2) (dOp modP (dCallP intP (dCons (dOp addP (dVar 1) (dC (.int 5))) (dNil))) (dC (.int 13))))))
  (dSeq (dSet 5 (dOp modP (dCallP intP (dCons (dOp powP (dOp addP (dOp addP (dVar 4) (dOp modP (dCallP intP (dCons (dVar 3) (dNil))) (dC (.int 1009)))) (dVar 1)) (dC (.int 3))) (dNil))) (dOp ixP (dVar 2) (dOp modP (dCallP intP (dCons (dOp addP (dVar 1) (dC (.int 7))) (dNil))) (dC (.int 13))))))
  (dRet (dOp addP (dOp mulP (dOp addP (dOp mulP (dVar 3) (dC (.int 2147483647))) (dVar 4)) (dC (.int 2147483647))) (dVar 5)))))))))
theorem w__law_spread (Z : Fx K mg)  (hr : Room 0 (A.deeper (PyProof.Rows.envOfC "_law_spread" (defScope st__law_spread) s.heap.objs.size f cdv))) :
    DSs (cxOf (L2.CX P w) P w K mg base N__law_spread "_law_spread" (defScope st__law_spread) f cdv A outer s H E) ⟨K, TT K, vs⟩ (fun c d _ H' => E c d H') (defBody st__law_spread) (t__law_spread K) := by
  have nd : N__law_spread.Nodup := sc__law_spread.nd
  have hP : PassesOwn (model P w) (cxOf (L2.CX P w) P w K mg base N__law_spread "_law_spread" (defScope st__law_spread) f cdv A outer s H E).A (cxOf (L2.CX P w) P w K mg base N__law_spread "_law_spread" (defScope st__law_spread) f cdv A outer s H E).env (cxOf (L2.CX P w) P w K mg base N__law_spread "_law_spread" (defScope st__law_spread) f cdv A outer s H E).xe := passes_of rfl
  exact dss_cons (ds_if (dt_cmp op_ge pr_ge (de_var 0 (pv 0)) (de_op op_pow pr_pow (de_tc pe_int) (de_tc pe_int)) (nomark _)) (dss_one (ds_ret (de_var 0 (pv 0)))) (dss_nil))
    (dss_cons (ds_set (i := 2) nd rfl (by first | exact Or.inl rfl | exact Or.inr rfl) (de_lst (da_cons (de_tc pe_int) (da_cons (de_tc pe_int) (da_cons (de_tc pe_int) (da_cons (de_tc pe_int) (da_cons (de_tc pe_int) (da_cons (de_tc pe_int) (da_cons (de_tc pe_int) (da_cons (de_tc pe_int) (da_nil)))))))))))
    (dss_cons (ds_set (i := 2) nd rfl (by first | exact Or.inl rfl | exact Or.inr rfl) (de_op op_addD pr_add (de_var 2 (pv 2)) (de_lst (da_cons (de_tc pe_int) (da_cons (de_tc pe_int) (da_cons (de_tc pe_int) (da_cons (de_tc pe_int) (da_cons (de_tc pe_int) (da_nil)))))))))
    (dss_cons (ds_set (i := 3) nd rfl (by first | exact Or.inl rfl | exact Or.inr rfl) (de_op op_mulD pr_mul (de_op op_mod pr_mod (de_bty call_int1 (by rfl) Z.n_int boot_int pr_int (da_cons (de_var 0 (pv 0)) (da_nil))) (de_tc pe_int)) (de_op op_addD pr_add (de_op op_mulD pr_mul (de_tc pe_int) (de_var 1 (pv 1))) (de_tc pe_int))))
    (dss_cons (ds_set (i := 3) nd rfl (by first | exact Or.inl rfl | exact Or.inr rfl) (de_op op_mod pr_mod (de_bty call_int1 (by rfl) Z.n_int boot_int pr_int (da_cons (de_op op_pow pr_pow (de_op op_addD pr_add (de_op op_addD pr_add (de_var 3 (pv 3)) (de_op op_mulD pr_mul (de_var 1 (pv 1)) (de_tc pe_int))) (de_tc pe_int)) (de_tc pe_int)) (da_nil))) (de_ix ix_seq pr_ix (de_var 2 (pv 2)) (de_op op_mod pr_mod (de_bty call_int1 (by rfl) Z.n_int boot_int pr_int (da_cons (de_var 1 (pv 1)) (da_nil))) (de_tc pe_int)) (fun _ _ => rfl))))
    (dss_cons (ds_set (i := 4) nd rfl (by first | exact Or.inl rfl | exact Or.inr rfl) (de_op op_mod pr_mod (de_bty call_int1 (by rfl) Z.n_int boot_int pr_int (da_cons (de_op op_pow pr_pow (de_op op_addD pr_add (de_op op_addD pr_add (de_op op_mulD pr_mul (de_var 3 (pv 3)) (de_op op_addD pr_add (de_var 1 (pv 1)) (de_tc pe_int))) (de_op op_mod pr_mod (de_bty call_int1 (by rfl) Z.n_int boot_int pr_int (da_cons (de_var 0 (pv 0)) (da_nil))) (de_tc pe_int))) (de_tc pe_int)) (de_tc pe_int)) (da_nil))) (de_ix ix_seq pr_ix (de_var 2 (pv 2)) (de_op op_mod pr_mod (de_bty call_int1 (by rfl) Z.n_int boot_int pr_int (da_cons (de_op op_addD pr_add (de_var 1 (pv 1)) (de_tc pe_int)) (da_nil))) (de_tc pe_int)) (fun _ _ => rfl))))
    (dss_cons (ds_set (i := 5) nd rfl (by first | exact Or.inl rfl | exact Or.inr rfl) (de_op op_mod pr_mod (de_bty call_int1 (by rfl) Z.n_int boot_int pr_int (da_cons (de_op op_pow pr_pow (de_op op_addD pr_add (de_op op_addD pr_add (de_var 4 (pv 4)) (de_op op_mod pr_mod (de_bty call_int1 (by rfl) Z.n_int boot_int pr_int (da_cons (de_var 3 (pv 3)) (da_nil))) (de_tc pe_int))) (de_var 1 (pv 1))) (de_tc pe_int)) (da_nil))) (de_ix ix_seq pr_ix (de_var 2 (pv 2)) (de_op op_mod pr_mod (de_bty call_int1 (by rfl) Z.n_int boot_int pr_int (da_cons (de_op op_addD pr_add (de_var 1 (pv 1)) (de_tc pe_int)) (da_nil))) (de_tc pe_int)) (fun _ _ => rfl))))
    (dss_one (ds_ret (de_op op_addD pr_add (de_op op_mulD pr_mul (de_op op_addD pr_add (de_op op_mulD pr_mul (de_var 3 (pv 3)) (de_tc pe_int)) (de_var 4 (pv 4))) (de_tc pe_int)) (de_var 5 (pv 5)))))))))))
def N__law_take : List Str := ["pen", "many", "k", "cell", "found"]
theorem sc__law_take : FnScope N__law_take ["pen", "many"] (defScope st__law_take) := ⟨rfl, rfl, rfl, by decide +kernel, rfl, by decide +kernel, by decide +kernel⟩
def t__law_take (K : PySem.W.Frag) : DTS := dSeq (dIfS (dTst (dOp ltP (dOp ixP (dVar 0) (dC (.int 2))) (dVar 1))) (dSeq (dSet 2 (dOp ixP (dVar 0) (dC (.int 1))))
  (dSeq (dSet 3 (dC (.int 0)))
  (dSeq (dIfS (dTst (dOp ltP (dVar 2) (dCallP lenP (dCons (dOp ixP (dVar 0) (dC (.int 0))) (dNil))))) (dSet 3 (dOp ixP (dOp ixP (dVar 0) (dC (.int 0))) (dVar 2))) (dIfS (dTst (dOp gtP (dCallP lenP (dCons (dOp ixP (dVar 0) (dC (.int 0))) (dNil))) (dC (.int 0)))) (dSet 3 (dOp modP (dCallP intP (dCons (dOp ixP (dOp ixP (dVar 0) (dC (.int 0))) (dOp modP (dCallP intP (dCons (dOp addP (dOp mulP (dVar 2) (dC (.int 5))) (dC (.int 3))) (dNil))) (dCallP lenP (dCons (dOp ixP (dVar 0) (dC (.int 0))) (dNil))))) (dNil))) (dOp addP (dOp powP (dC (.int 10)) (dC (.int 17))) (dVar 2)))) (dNext)))
  (dSeq (dAsg (dOp addP (dVar 2) (dC (.int 1))) (dgSet (dVar 0) (dC (.int 1))))
  (dAsg (dCall ((sp__law_spread K)) (dCons (dFz (dVar 3)) (dCons (dFz (dVar 2)) (dNil)))) (dgSet (dVar 0) (dC (.int 2)))))))) (dNext))
  (dSeq (dSet 4 (dOp modP (dCallP intP (dCons (dOp ixP (dVar 0) (dC (.int 2))) (dNil))) (dVar 1)))
  (dSeq (dAsg (dOp divP (dOp ixP (dVar 0) (dC (.int 2))) (dVar 1)) (dgSet (dVar 0) (dC (.int 2))))
  (dRet (dVar 4))))
theorem w__law_take (Z : Fx K mg) (C__law_spread : CallOk P w K mg base (TT K) 1 "_law_spread" ["cell", "k"] (sp__law_spread K)) (hr : Room 1 (A.deeper (PyProof.Rows.envOfC "_law_take" (defScope st__law_take) s.heap.objs.size f cdv))) :
    DSs (cxOf (L2.CX P w) P w K mg base N__law_take "_law_take" (defScope st__law_take) f cdv A outer s H E) ⟨K, TT K, vs⟩ (fun c d _ H' => E c d H') (defBody st__law_take) (t__law_take K) := by
  have nd : N__law_take.Nodup := sc__law_take.nd
  have hP : PassesOwn (model P w) (cxOf (L2.CX P w) P w K mg base N__law_take "_law_take" (defScope st__law_take) f cdv A outer s H E).A (cxOf (L2.CX P w) P w K mg base N__law_take "_law_take" (defScope st__law_take) f cdv A outer s H E).env (cxOf (L2.CX P w) P w K mg base N__law_take "_law_take" (defScope st__law_take) f cdv A outer s H E).xe := passes_of rfl
  exact dss_cons (ds_if (dt_cmp op_lt pr_lt (de_ix ix_seq pr_ix (de_var 0 (pv 0)) (de_tc pe_int) (fun _ _ => rfl)) (de_var 1 (pv 1)) (nomark _)) (dss_cons (ds_set (i := 2) nd rfl (by first | exact Or.inl rfl | exact Or.inr rfl) (de_ix ix_seq pr_ix (de_var 0 (pv 0)) (de_tc pe_int) (fun _ _ => rfl)))
    (dss_cons (ds_set (i := 3) nd rfl (by first | exact Or.inl rfl | exact Or.inr rfl) (de_tc pe_int))
    (dss_cons (ds_if (dt_cmp op_lt pr_lt (de_var 2 (pv 2)) (de_blt call_len (by rfl) Z.n_len PySem.boot_len pr_len (da_cons (de_ix ix_seq pr_ix (de_var 0 (pv 0)) (de_tc pe_int) (fun _ _ => rfl)) (da_nil))) (nomark _)) (dss_one (ds_set (i := 3) nd rfl (by first | exact Or.inl rfl | exact Or.inr rfl) (de_ix ix_seq pr_ix (de_ix ix_seq pr_ix (de_var 0 (pv 0)) (de_tc pe_int) (fun _ _ => rfl)) (de_var 2 (pv 2)) (fun _ _ => rfl)))) (dss_one (ds_if (dt_cmp op_gt pr_gt (de_blt call_len (by rfl) Z.n_len PySem.boot_len pr_len (da_cons (de_ix ix_seq pr_ix (de_var 0 (pv 0)) (de_tc pe_int) (fun _ _ => rfl)) (da_nil))) (de_tc pe_int) (nomark _)) (dss_one (ds_set (i := 3) nd rfl (by first | exact Or.inl rfl | exact Or.inr rfl) (de_op op_mod pr_mod (de_bty call_int1 (by rfl) Z.n_int boot_int pr_int (da_cons (de_ix ix_seq pr_ix (de_ix ix_seq pr_ix (de_var 0 (pv 0)) (de_tc pe_int) (fun _ _ => rfl)) (de_op op_mod pr_mod (de_bty call_int1 (by rfl) Z.n_int boot_int pr_int (da_cons (de_op op_addD pr_add (de_op op_mulD pr_mul (de_var 2 (pv 2)) (de_tc pe_int)) (de_tc pe_int)) (da_nil))) (de_blt call_len (by rfl) Z.n_len PySem.boot_len pr_len (da_cons (de_ix ix_seq pr_ix (de_var 0 (pv 0)) (de_tc pe_int) (fun _ _ => rfl)) (da_nil)))) (fun _ _ => rfl)) (da_nil))) (de_op op_addD pr_add (de_op op_pow pr_pow (de_tc pe_int) (de_tc pe_int)) (de_var 2 (pv 2)))))) (dss_nil))))
    (dss_cons (ds_asg (de_op op_addD pr_add (de_var 2 (pv 2)) (de_tc pe_int)) (dg_set (Wx := WxF) (de_var 0 (pv 0)) (de_tc pe_int)))
    (dss_one (ds_asg (de_cf C__law_spread rfl hr (by rfl) (takes_of rfl rfl rfl rfl) (da_cons (de_fz (de_var 3 (pv 3))) (da_cons (de_fz (de_var 2 (pv 2))) (da_nil)))) (dg_set (Wx := WxF) (de_var 0 (pv 0)) (de_tc pe_int)))))))) (dss_nil))
    (dss_cons (ds_set (i := 4) nd rfl (by first | exact Or.inl rfl | exact Or.inr rfl) (de_op op_mod pr_mod (de_bty call_int1 (by rfl) Z.n_int boot_int pr_int (da_cons (de_ix ix_seq pr_ix (de_var 0 (pv 0)) (de_tc pe_int) (fun _ _ => rfl)) (da_nil))) (de_var 1 (pv 1))))
    (dss_cons (ds_asg (de_op op_fdivW pr_div (de_ix ix_seq pr_ix (de_var 0 (pv 0)) (de_tc pe_int) (fun _ _ => rfl)) (de_var 1 (pv 1))) (dg_set (Wx := WxF) (de_var 0 (pv 0)) (de_tc pe_int)))
    (dss_one (ds_ret (de_var 4 (pv 4))))))
def N__law_one_of : List Str := ["pen", "some"]
theorem sc__law_one_of : FnScope N__law_one_of ["pen", "some"] (defScope st__law_one_of) := ⟨rfl, rfl, rfl, by decide +kernel, rfl, by decide +kernel, by decide +kernel⟩
def t__law_one_of (K : PySem.W.Frag) : DTS := dRet (dOp ixP (dVar 1) (dCall ((sp__law_take K)) (dCons (dVar 0) (dCons (dFz (dCallP lenP (dCons (dVar 1) (dNil)))) (dNil)))))
theorem w__law_one_of (Z : Fx K mg) (C__law_take : CallOk P w K mg base (TT K) 2 "_law_take" ["pen", "many"] (sp__law_take K)) (hr : Room 2 (A.deeper (PyProof.Rows.envOfC "_law_one_of" (defScope st__law_one_of) s.heap.objs.size f cdv))) :
    DSs (cxOf (L2.CX P w) P w K mg base N__law_one_of "_law_one_of" (defScope st__law_one_of) f cdv A outer s H E) ⟨K, TT K, vs⟩ (fun c d _ H' => E c d H') (defBody st__law_one_of) (t__law_one_of K) := by
  have nd : N__law_one_of.Nodup := sc__law_one_of.nd
  have hP : PassesOwn (model P w) (cxOf (L2.CX P w) P w K mg base N__law_one_of "_law_one_of" (defScope st__law_one_of) f cdv A outer s H E).A (cxOf (L2.CX P w) P w K mg base N__law_one_of "_law_one_of" (defScope st__law_one_of) f cdv A outer s H E).env (cxOf (L2.CX P w) P w K mg base N__law_one_of "_law_one_of" (defScope st__law_one_of) f cdv A outer s H E).xe := passes_of rfl
  exact dss_one (ds_ret (de_ix ix_seq pr_ix (de_var 1 (pv 1)) (de_cf C__law_take rfl hr (by rfl) (takes_of rfl rfl rfl rfl) (da_cons (de_var 0 (pv 0)) (da_cons (de_fz (de_blt call_len (by rfl) Z.n_len PySem.boot_len pr_len (da_cons (de_var 1 (pv 1)) (da_nil)))) (da_nil)))) (fun _ _ => rfl)))
def N__law_all : List Str := ["n", "bits", "found", "turn", "longer", "word", "bit"]
theorem sc__law_all : FnScope N__law_all ["n", "bits"] (defScope st__law_all) := ⟨rfl, rfl, rfl, by decide +kernel, rfl, by decide +kernel, by decide +kernel⟩
def t__law_all (K : PySem.W.Frag) : DTS := dSeq (dSet 2 (dLst (dCons (dC (.str "")) (dNil))))
  (dSeq (dFor (dRng1 (dCons (dVar 0) (dNil))) (dgName 3) (dSeq (dSet 4 (dLst (dNil)))
  (dSeq (dFor (dIt (dVar 2)) (dgName 5) (dSet 4 (dOp addP (dVar 4) (dLc (dIt (dVar 1)) (dgName 6) (dYes) (dFz (dOp addP (dVar 5) (dVar 6))) [6]))))
  (dSet 2 (dVar 4)))))
  (dRet (dVar 2)))
theorem w__law_all (Z : Fx K mg)  (hr : Room 0 (A.deeper (PyProof.Rows.envOfC "_law_all" (defScope st__law_all) s.heap.objs.size f cdv))) :
    DSs (cxOf (L2.CX P w) P w K mg base N__law_all "_law_all" (defScope st__law_all) f cdv A outer s H E) ⟨K, TT K, vs⟩ (fun c d _ H' => E c d H') (defBody st__law_all) (t__law_all K) := by
  have nd : N__law_all.Nodup := sc__law_all.nd
  have hP : PassesOwn (model P w) (cxOf (L2.CX P w) P w K mg base N__law_all "_law_all" (defScope st__law_all) f cdv A outer s H E).A (cxOf (L2.CX P w) P w K mg base N__law_all "_law_all" (defScope st__law_all) f cdv A outer s H E).env (cxOf (L2.CX P w) P w K mg base N__law_all "_law_all" (defScope st__law_all) f cdv A outer s H E).xe := passes_of rfl
  exact dss_cons (ds_set (i := 2) nd rfl (by first | exact Or.inl rfl | exact Or.inr rfl) (de_lst (da_cons (de_tc pe_str) (da_nil))))
    (dss_cons (ds_for hP rfl (di_rng1 (by rfl) Z.n_range (da_cons (de_var 0 (pv 0)) (da_nil))) (dg_name (i := 3) nd rfl (by first | exact Or.inl rfl | exact Or.inr rfl)) (dss_cons (ds_set (i := 4) nd rfl (by first | exact Or.inl rfl | exact Or.inr rfl) (de_lst (da_nil)))
    (dss_cons (ds_for hP rfl (di_any rfl (de_var 2 (pv 2))) (dg_name (i := 5) nd rfl (by first | exact Or.inl rfl | exact Or.inr rfl)) (dss_one (ds_set (i := 4) nd rfl (by first | exact Or.inl rfl | exact Or.inr rfl) (de_op op_addD pr_add (de_var 4 (pv 4)) (de_lcA [("bit", 6)] rfl nd (di_any rfl (de_var 1 (pv 1))) (blkOk_by (N := N__law_all) (sc := defScope st__law_all) (by decide +kernel)) (by decide) (fun _ _ _ _ _ => dg_name (i := 6) nd rfl (by first | exact Or.inl rfl | exact Or.inr rfl)) (fun _ _ _ _ _ => dts_nil) (fun _ _ _ _ _ => de_fz (de_op op_addD pr_add (de_var 5 (pv 5)) (de_var 6 (pv 6)))))))))
    (dss_one (ds_set (i := 2) nd rfl (by first | exact Or.inl rfl | exact Or.inr rfl) (de_var 4 (pv 4)))))))
    (dss_one (ds_ret (de_var 2 (pv 2)))))
def N__law_any_word : List Str := ["pen", "n", "bits", "k"]
theorem sc__law_any_word : FnScope N__law_any_word ["pen", "n"] (defScope st__law_any_word) := ⟨rfl, rfl, rfl, by decide +kernel, rfl, by decide +kernel, by decide +kernel⟩
def t__law_any_word (K : PySem.W.Frag) : DTS := dSeq (dSet 2 (dCall ((sp__law_one_of K)) (dCons (dVar 0) (dCons (dFz (dLst (dCons (dC (.str "01")) (dCons (dC (.str "01?")) (dCons (dC (.str "0?")) (dCons (dC (.str "1?")) (dCons (dC (.str "?01")) (dNil)))))))) (dNil)))))
  (dRet (dMs joinP (dC (.str "")) (dCons (dLc (dRng1 (dCons (dVar 1) (dNil))) (dgName 3) (dYes) (dFz (dCall ((sp__law_one_of K)) (dCons (dVar 0) (dCons (dFz (dVar 2)) (dNil))))) [3]) (dNil))))
theorem w__law_any_word (Z : Fx K mg) (C__law_one_of : CallOk P w K mg base (TT K) 3 "_law_one_of" ["pen", "some"] (sp__law_one_of K)) (hr : Room 3 (A.deeper (PyProof.Rows.envOfC "_law_any_word" (defScope st__law_any_word) s.heap.objs.size f cdv))) :
    DSs (cxOf (L2.CX P w) P w K mg base N__law_any_word "_law_any_word" (defScope st__law_any_word) f cdv A outer s H E) ⟨K, TT K, vs⟩ (fun c d _ H' => E c d H') (defBody st__law_any_word) (t__law_any_word K) := by
  have nd : N__law_any_word.Nodup := sc__law_any_word.nd
  have hP : PassesOwn (model P w) (cxOf (L2.CX P w) P w K mg base N__law_any_word "_law_any_word" (defScope st__law_any_word) f cdv A outer s H E).A (cxOf (L2.CX P w) P w K mg base N__law_any_word "_law_any_word" (defScope st__law_any_word) f cdv A outer s H E).env (cxOf (L2.CX P w) P w K mg base N__law_any_word "_law_any_word" (defScope st__law_any_word) f cdv A outer s H E).xe := passes_of rfl
  exact dss_cons (ds_set (i := 2) nd rfl (by first | exact Or.inl rfl | exact Or.inr rfl) (de_cf C__law_one_of rfl hr (by rfl) (takes_of rfl rfl rfl rfl) (da_cons (de_var 0 (pv 0)) (da_cons (de_fz (de_lst (da_cons (de_tc pe_str) (da_cons (de_tc pe_str) (da_cons (de_tc pe_str) (da_cons (de_tc pe_str) (da_cons (de_tc pe_str) (da_nil)))))))) (da_nil)))))
    (dss_one (ds_ret (de_mt PySem.F.plainAttrs_str PySem.F.slot_str_join PySem.F.type_str_join mt_join pr_join (de_tc pe_str) (da_cons (de_lcA [("k", 3)] rfl nd (di_rng1 (by rfl) Z.n_range (da_cons (de_var 1 (pv 1)) (da_nil))) (blkOk_by (N := N__law_any_word) (sc := defScope st__law_any_word) (by decide +kernel)) (by decide) (fun _ _ _ _ _ => dg_name (i := 3) nd rfl (by first | exact Or.inl rfl | exact Or.inr rfl)) (fun _ _ _ _ _ => dts_nil) (fun _ _ _ _ _ => de_fz (de_cf C__law_one_of rfl hr (by rfl) takesF (da_cons (de_var 0 (pv 0)) (da_cons (de_fz (de_var 2 (pv 2))) (da_nil)))))) (da_nil)))))
def N__law_reads : List Str := ["kind", "bit", "r", "found", "row", "first", "last", "ahead", "rest"]
theorem sc__law_reads : FnScope N__law_reads ["kind", "bit", "r"] (defScope st__law_reads) := ⟨rfl, rfl, rfl, by decide +kernel, rfl, by decide +kernel, by decide +kernel⟩
def t__law_reads (K : PySem.W.Frag) : DTS := dSeq (dIfS (dOr (dTst (dOp (eqP true) (dVar 1) (dC (.str "?")))) (dTst (dOp (eqP false) (dVar 0) (dC (.str "plain"))))) (dRet (dLst (dCons (dFz (dOp mulP (dVar 1) (dVar 2))) (dNil)))) (dNext))
  (dSeq (dSet 3 (dLst (dNil)))
  (dSeq (dFor (dIt (dCall ((sp__law_all K)) (dCons (dFz (dVar 2)) (dCons (dC (.str "01?")) (dNil))))) (dgName 4) (dSeq (dAsg (dIf (dTst (dOp (eqP false) (dVar 0) (dC (.str "low")))) (dTup (dCons (dC (.str "0")) (dCons (dC (.str "1")) (dNil)))) (dTup (dCons (dC (.str "1")) (dCons (dC (.str "0")) (dNil))))) (dgTup (dgCons (dgName 5) (dgCons (dgName 6) (dgNil)))))
  (dSeq (dSet 7 (dIf (dTst (dOp (inP false) (dC (.str "?")) (dVar 4))) (dMs findP (dVar 4) (dCons (dC (.str "?")) (dNil))) (dIf (dTst (dOp (inP false) (dVar 6) (dVar 4))) (dMs findP (dVar 4) (dCons (dVar 6) (dNil))) (dVar 2))))
  (dSeq (dSet 8 (dIf (dTst (dOp (inP false) (dC (.str "?")) (dVar 4))) (dSl slP (dVar 4) (dOSome (dOp addP (dVar 7) (dC (.int 1)))) dONo) (dSl slP (dVar 4) (dOSome (dVar 7)) dONo)))
  (dIfS (dAnd (dTst (dOp (eqP false) (dSl slP (dVar 4) dONo (dOSome (dVar 7))) (dOp mulP (dVar 5) (dVar 7)))) (dTst (dOp (eqP false) (dVar 8) (dOp mulP (dVar 6) (dCallP lenP (dCons (dVar 8) (dNil))))))) (dDrop (dMi appP (dVar 3) (dCons (dFz (dVar 4)) (dNil)))) (dNext))))))
  (dRet (dVar 3))))
theorem w__law_reads (Z : Fx K mg) (C__law_all : CallOk P w K mg base (TT K) 1 "_law_all" ["n", "bits"] (sp__law_all K)) (hr : Room 1 (A.deeper (PyProof.Rows.envOfC "_law_reads" (defScope st__law_reads) s.heap.objs.size f cdv))) :
    DSs (cxOf (L2.CX P w) P w K mg base N__law_reads "_law_reads" (defScope st__law_reads) f cdv A outer s H E) ⟨K, TT K, vs⟩ (fun c d _ H' => E c d H') (defBody st__law_reads) (t__law_reads K) := by
  have nd : N__law_reads.Nodup := sc__law_reads.nd
  have hP : PassesOwn (model P w) (cxOf (L2.CX P w) P w K mg base N__law_reads "_law_reads" (defScope st__law_reads) f cdv A outer s H E).A (cxOf (L2.CX P w) P w K mg base N__law_reads "_law_reads" (defScope st__law_reads) f cdv A outer s H E).env (cxOf (L2.CX P w) P w K mg base N__law_reads "_law_reads" (defScope st__law_reads) f cdv A outer s H E).xe := passes_of rfl
  exact dss_cons (ds_if (DW.dt (dw_or (dt_cmp (op_neA (hu64 hr)) pr_ne (de_var 1 (pv 1)) (de_tc pe_str) (nomark _)) (dw_or1 (dt_cmp (op_eqA (hu64 hr)) pr_eq (de_var 0 (pv 0)) (de_tc pe_str) (nomark _))))) (dss_one (ds_ret (de_lst (da_cons (de_fz (de_op op_mulD pr_mul (de_var 1 (pv 1)) (de_var 2 (pv 2)))) (da_nil))))) (dss_nil))
    (dss_cons (ds_set (i := 3) nd rfl (by first | exact Or.inl rfl | exact Or.inr rfl) (de_lst (da_nil)))
    (dss_cons (ds_for hP rfl (di_any rfl (de_cf C__law_all rfl hr (by rfl) (takes_of rfl rfl rfl rfl) (da_cons (de_fz (de_var 2 (pv 2))) (da_cons (de_tc pe_str) (da_nil))))) (dg_name (i := 4) nd rfl (by first | exact Or.inl rfl | exact Or.inr rfl)) (dss_cons (ds_asg (de_if (dt_cmp (op_eqA (hu64 hr)) pr_eq (de_var 0 (pv 0)) (de_tc pe_str) (nomark _)) (de_tup (da_cons (de_tc pe_str) (da_cons (de_tc pe_str) (da_nil)))) (de_tup (da_cons (de_tc pe_str) (da_cons (de_tc pe_str) (da_nil))))) (dg_tup rfl rfl (dgs_cons (dg_name (i := 5) nd rfl (by first | exact Or.inl rfl | exact Or.inr rfl)) (dgs_cons (dg_name (i := 6) nd rfl (by first | exact Or.inl rfl | exact Or.inr rfl)) (dgs_nil))) (GL.len (gl_cons (gv_name) (gl_cons (gv_name) (gl_nil))))))
    (dss_cons (ds_set (i := 7) nd rfl (by first | exact Or.inl rfl | exact Or.inr rfl) (de_if (dt_cmp op_inA pr_in (de_tc pe_str) (de_var 4 (pv 4)) (by with_unfolding_all rfl)) (de_mt PySem.F.plainAttrs_str PySem.F.slot_str_find PySem.F.type_str_find mt_find pr_find (de_var 4 (pv 4)) (da_cons (de_tc pe_str) (da_nil))) (de_if (dt_cmp op_inA pr_in (de_var 6 (pv 6)) (de_var 4 (pv 4)) (by with_unfolding_all rfl)) (de_mt PySem.F.plainAttrs_str PySem.F.slot_str_find PySem.F.type_str_find mt_find pr_find (de_var 4 (pv 4)) (da_cons (de_var 6 (pv 6)) (da_nil))) (de_var 2 (pv 2)))))
    (dss_cons (ds_set (i := 8) nd rfl (by first | exact Or.inl rfl | exact Or.inr rfl) (de_if (dt_cmp op_inA pr_in (de_tc pe_str) (de_var 4 (pv 4)) (by with_unfolding_all rfl)) (de_slice sl_all pr_sl (de_var 4 (pv 4)) (do_some (de_op op_addD pr_add (de_var 7 (pv 7)) (de_tc pe_int))) do_none) (de_slice sl_all pr_sl (de_var 4 (pv 4)) (do_some (de_var 7 (pv 7))) do_none)))
    (dss_one (ds_if (DW.dt (dw_and (dt_cmp (op_eqA (hu64 hr)) pr_eq (de_slice sl_all pr_sl (de_var 4 (pv 4)) do_none (do_some (de_var 7 (pv 7)))) (de_op op_mulD pr_mul (de_var 5 (pv 5)) (de_var 7 (pv 7))) (nomark _)) (dw_and1 (dt_cmp (op_eqA (hu64 hr)) pr_eq (de_var 8 (pv 8)) (de_op op_mulD pr_mul (de_var 6 (pv 6)) (de_blt call_len (by rfl) Z.n_len PySem.boot_len pr_len (da_cons (de_var 8 (pv 8)) (da_nil)))) (nomark _))))) (dss_one (ds_expr (de_ml PySem.F.plainAttrs_list PySem.F.slot_list_append PySem.F.type_list_append mt_append pr_app rfl (de_var 3 (pv 3)) (da_cons (de_fz (de_var 4 (pv 4))) (da_nil))))) (dss_nil)))))))
    (dss_one (ds_ret (de_var 3 (pv 3))))))
def N__law_rows : List Str := ["kinds", "r", "word", "found", "kind", "bit", "longer", "start", "row"]
theorem sc__law_rows : FnScope N__law_rows ["kinds", "r", "word"] (defScope st__law_rows) := ⟨rfl, rfl, rfl, by decide +kernel, rfl, by decide +kernel, by decide +kernel⟩
def t__law_rows (K : PySem.W.Frag) : DTS := dSeq (dSet 3 (dLst (dCons (dC (.str "")) (dNil))))
  (dSeq (dFor (dZip false (dCons (dFz (dVar 0)) (dCons (dFz (dVar 2)) (dNil)))) (dgTup (dgCons (dgName 4) (dgCons (dgName 5) (dgNil)))) (dSeq (dSet 6 (dLst (dNil)))
  (dSeq (dFor (dIt (dVar 3)) (dgName 7) (dSet 6 (dOp addP (dVar 6) (dLc (dIt (dCall ((sp__law_reads K)) (dCons (dFz (dVar 4)) (dCons (dFz (dVar 5)) (dCons (dFz (dVar 1)) (dNil)))))) (dgName 8) (dYes) (dFz (dOp addP (dVar 7) (dVar 8))) [8]))))
  (dSet 3 (dVar 6)))))
  (dRet (dVar 3)))
theorem w__law_rows (Z : Fx K mg) (C__law_reads : CallOk P w K mg base (TT K) 2 "_law_reads" ["kind", "bit", "r"] (sp__law_reads K)) (hr : Room 2 (A.deeper (PyProof.Rows.envOfC "_law_rows" (defScope st__law_rows) s.heap.objs.size f cdv))) :
    DSs (cxOf (L2.CX P w) P w K mg base N__law_rows "_law_rows" (defScope st__law_rows) f cdv A outer s H E) ⟨K, TT K, vs⟩ (fun c d _ H' => E c d H') (defBody st__law_rows) (t__law_rows K) := by
  have nd : N__law_rows.Nodup := sc__law_rows.nd
  have hP : PassesOwn (model P w) (cxOf (L2.CX P w) P w K mg base N__law_rows "_law_rows" (defScope st__law_rows) f cdv A outer s H E).A (cxOf (L2.CX P w) P w K mg base N__law_rows "_law_rows" (defScope st__law_rows) f cdv A outer s H E).env (cxOf (L2.CX P w) P w K mg base N__law_rows "_law_rows" (defScope st__law_rows) f cdv A outer s H E).xe := passes_of rfl
  exact dss_cons (ds_set (i := 3) nd rfl (by first | exact Or.inl rfl | exact Or.inr rfl) (de_lst (da_cons (de_tc pe_str) (da_nil))))
    (dss_cons (ds_for hP rfl (di_zip rfl (by rfl) Z.n_zip (da_cons (de_fz (de_var 0 (pv 0))) (da_cons (de_fz (de_var 2 (pv 2))) (da_nil)))) (dg_tup rfl rfl (dgs_cons (dg_name (i := 4) nd rfl (by first | exact Or.inl rfl | exact Or.inr rfl)) (dgs_cons (dg_name (i := 5) nd rfl (by first | exact Or.inl rfl | exact Or.inr rfl)) (dgs_nil))) (GL.len (gl_cons (gv_name) (gl_cons (gv_name) (gl_nil))))) (dss_cons (ds_set (i := 6) nd rfl (by first | exact Or.inl rfl | exact Or.inr rfl) (de_lst (da_nil)))
    (dss_cons (ds_for hP rfl (di_any rfl (de_var 3 (pv 3))) (dg_name (i := 7) nd rfl (by first | exact Or.inl rfl | exact Or.inr rfl)) (dss_one (ds_set (i := 6) nd rfl (by first | exact Or.inl rfl | exact Or.inr rfl) (de_op op_addD pr_add (de_var 6 (pv 6)) (de_lcA [("row", 8)] rfl nd (di_any rfl (de_cf C__law_reads rfl hr (by rfl) (takes_of rfl rfl rfl rfl) (da_cons (de_fz (de_var 4 (pv 4))) (da_cons (de_fz (de_var 5 (pv 5))) (da_cons (de_fz (de_var 1 (pv 1))) (da_nil)))))) (blkOk_by (N := N__law_rows) (sc := defScope st__law_rows) (by decide +kernel)) (by decide) (fun _ _ _ _ _ => dg_name (i := 8) nd rfl (by first | exact Or.inl rfl | exact Or.inr rfl)) (fun _ _ _ _ _ => dts_nil) (fun _ _ _ _ _ => de_fz (de_op op_addD pr_add (de_var 7 (pv 7)) (de_var 8 (pv 8)))))))))
    (dss_one (ds_set (i := 3) nd rfl (by first | exact Or.inl rfl | exact Or.inr rfl) (de_var 6 (pv 6)))))))
    (dss_one (ds_ret (de_var 3 (pv 3)))))
def N__law_any_kinds : List Str := ["pen", "n", "k"]
theorem sc__law_any_kinds : FnScope N__law_any_kinds ["pen", "n"] (defScope st__law_any_kinds) := ⟨rfl, rfl, rfl, by decide +kernel, rfl, by decide +kernel, by decide +kernel⟩
def t__law_any_kinds (K : PySem.W.Frag) : DTS := dRet (dCallP tupleP (dCons (dLc (dRng1 (dCons (dVar 1) (dNil))) (dgName 2) (dYes) (dFz (dCall ((sp__law_one_of K)) (dCons (dVar 0) (dCons (dFz (dLst (dCons (dC (.str "plain")) (dCons (dC (.str "low")) (dCons (dC (.str "high")) (dCons (dC (.str "low")) (dNil))))))) (dNil))))) [2]) (dNil)))
theorem w__law_any_kinds (Z : Fx K mg) (C__law_one_of : CallOk P w K mg base (TT K) 3 "_law_one_of" ["pen", "some"] (sp__law_one_of K)) (hr : Room 3 (A.deeper (PyProof.Rows.envOfC "_law_any_kinds" (defScope st__law_any_kinds) s.heap.objs.size f cdv))) :
    DSs (cxOf (L2.CX P w) P w K mg base N__law_any_kinds "_law_any_kinds" (defScope st__law_any_kinds) f cdv A outer s H E) ⟨K, TT K, vs⟩ (fun c d _ H' => E c d H') (defBody st__law_any_kinds) (t__law_any_kinds K) := by
  have nd : N__law_any_kinds.Nodup := sc__law_any_kinds.nd
  have hP : PassesOwn (model P w) (cxOf (L2.CX P w) P w K mg base N__law_any_kinds "_law_any_kinds" (defScope st__law_any_kinds) f cdv A outer s H E).A (cxOf (L2.CX P w) P w K mg base N__law_any_kinds "_law_any_kinds" (defScope st__law_any_kinds) f cdv A outer s H E).env (cxOf (L2.CX P w) P w K mg base N__law_any_kinds "_law_any_kinds" (defScope st__law_any_kinds) f cdv A outer s H E).xe := passes_of rfl
  exact dss_one (ds_ret (de_bty call_tuple_of (by rfl) Z.n_tuple bootT pr_tuple (da_cons (de_lcA [("k", 2)] rfl nd (di_rng1 (by rfl) Z.n_range (da_cons (de_var 1 (pv 1)) (da_nil))) (blkOk_by (N := N__law_any_kinds) (sc := defScope st__law_any_kinds) (by decide +kernel)) (by decide) (fun _ _ _ _ _ => dg_name (i := 2) nd rfl (by first | exact Or.inl rfl | exact Or.inr rfl)) (fun _ _ _ _ _ => dts_nil) (fun _ _ _ _ _ => de_fz (de_cf C__law_one_of rfl hr (by rfl) takesF (da_cons (de_var 0 (pv 0)) (da_cons (de_fz (de_lst (da_cons (de_tc pe_str) (da_cons (de_tc pe_str) (da_cons (de_tc pe_str) (da_cons (de_tc pe_str) (da_nil))))))) (da_nil)))))) (da_nil))))
def N__law_refused_right : List Str := ["kinds", "r", "word", "odd", "found"]
theorem sc__law_refused_right : FnScope N__law_refused_right ["kinds", "r", "word"] (defScope st__law_refused_right) := ⟨rfl, rfl, rfl, by decide +kernel, rfl, by decide +kernel, by decide +kernel⟩
def t__law_refused_right (K : PySem.W.Frag) : DTS := dSeq (dFor (dIt (dLst (dCons (dC .non) (dCons (dC (.str "")) (dCons (dC (.str "Low")) (dCons (dC (.str "mid")) (dCons (dC (.int 1)) (dCons (dFz (dLst (dCons (dC (.str "low")) (dNil)))) (dCons (dFz (dTup (dCons (dC (.str "low")) (dNil)))) (dCons (dC (.bl true)) (dNil))))))))))) (dgName 3) (dSeq (dSet 4 (dLst (dCons (dFz (dLam K (clw__law_word K) "none" (dCall ((sp_reads K)) (dCons (dFz (dVar 3)) (dCons (dC .non) (dCons (dC .non) (dNil))))))) (dNil))))
  (dSeq (dDrop (dMi appP (dVar 4) (dCons (dFz (dLam K (clw__law_word K) "none" (dCall ((sp_reads K)) (dCons (dFz (dVar 3)) (dCons (dC (.str "0")) (dCons (dC (.int 1)) (dNil))))))) (dNil))))
  (dSeq (dDrop (dMi appP (dVar 4) (dCons (dFz (dLam K (clw__law_word K) "none" (dCall ((sp_rows_of K)) (dCons (dFz (dTup (dCons (dFz (dVar 3)) (dNil)))) (dCons (dC .non) (dCons (dC .non) (dNil))))))) (dNil))))
  (dSeq (dDrop (dMi appP (dVar 4) (dCons (dFz (dLam K (clw__law_word K) "none" (dCall ((sp_rows_of K)) (dCons (dFz (dTup (dCons (dFz (dVar 3)) (dNil)))) (dCons (dC (.int 1)) (dCons (dC (.str "0")) (dNil))))))) (dNil))))
  (dSeq (dDrop (dMi appP (dVar 4) (dCons (dFz (dLam K (clw__law_word K) "none" (dCall ((sp_rows_of K)) (dCons (dFz (dOp addP (dSl slP (dVar 0) (dOSome (dC (.int 1))) dONo) (dTup (dCons (dFz (dVar 3)) (dNil))))) (dCons (dC (.int 1)) (dCons (dFz (dVar 2)) (dNil))))))) (dNil))))
  (dSeq (dDrop (dMi appP (dVar 4) (dCons (dFz (dLam K (clw__law_word K) "none" (dCall ((sp_rows_of K)) (dCons (dFz (dOp addP (dTup (dCons (dFz (dVar 3)) (dNil))) (dSl slP (dVar 0) (dOSome (dC (.int 1))) dONo))) (dCons (dC (.int 1)) (dCons (dFz (dVar 2)) (dNil))))))) (dNil))))
  (dSeq (dDrop (dMi appP (dVar 4) (dCons (dFz (dLam K (clw__law_word K) "none" (dCall ((sp_rows_of K)) (dCons (dFz (dTup (dCons (dC (.str "low")) (dCons (dFz (dVar 3)) (dCons (dC (.str "low")) (dNil)))))) (dCons (dC (.int 1)) (dCons (dC (.str "000")) (dNil))))))) (dNil))))
  (dIfS (dTst (dOp (eqP true) (dVar 4) (dOp mulP (dLst (dCons (dC (.str "kind")) (dNil))) (dC (.int 7))))) (dRet (dC (.bl false))) (dNext))))))))))
  (dSeq (dFor (dIt (dLst (dCons (dC .non) (dCons (dC (.str "")) (dCons (dC (.str "2")) (dCons (dC (.str "01")) (dCons (dC (.str "??")) (dCons (dC (.int 0)) (dCons (dC (.int 1)) (dCons (dC (.bl true)) (dCons (dFz (dLst (dCons (dC (.str "0")) (dNil)))) (dNil)))))))))))) (dgName 3) (dSeq (dIfS (dTst (dOp (eqP true) (dLam K (clw__law_word K) "none" (dCall ((sp_reads K)) (dCons (dC (.str "low")) (dCons (dFz (dVar 3)) (dCons (dC (.int 1)) (dNil)))))) (dC (.str "kind")))) (dRet (dC (.bl false))) (dNext))
  (dIfS (dTst (dOp (eqP true) (dLam K (clw__law_word K) "none" (dCall ((sp_reads K)) (dCons (dC (.str "low")) (dCons (dFz (dVar 3)) (dCons (dC .non) (dNil)))))) (dC (.str "kind")))) (dRet (dC (.bl false))) (dNext))))
  (dSeq (dFor (dIt (dLst (dCons (dC .non) (dCons (dFz (dTup (dNil))) (dCons (dFz (dLst (dCons (dC (.str "low")) (dNil)))) (dCons (dC (.str "low")) (dCons (dFz (dOp mulP (dTup (dCons (dC (.str "low")) (dNil))) (dC (.int 4)))) (dCons (dFz (dNewD)) (dNil))))))))) (dgName 3) (dIfS (dTst (dOp (eqP true) (dLam K (clw__law_word K) "none" (dCall ((sp_rows_of K)) (dCons (dFz (dVar 3)) (dCons (dC .non) (dCons (dC .non) (dNil)))))) (dC (.str "kind")))) (dRet (dC (.bl false))) (dNext)))
  (dSeq (dFor (dIt (dLst (dCons (dC .non) (dCons (dC (.int 0)) (dCons (dC (.int 9)) (dCons (dFz (dUn negP (dC (.int 1)))) (dCons (dC (.bl true)) (dCons (dC (.str "1")) (dCons (dFz (dTup (dCons (dC (.int 1)) (dNil)))) (dNil)))))))))) (dgName 3) (dSeq (dIfS (dTst (dOp (eqP true) (dLam K (clw__law_word K) "none" (dCall ((sp_reads K)) (dCons (dC (.str "high")) (dCons (dC (.str "?")) (dCons (dFz (dVar 3)) (dNil)))))) (dC (.str "count")))) (dRet (dC (.bl false))) (dNext))
  (dIfS (dTst (dOp (eqP true) (dLam K (clw__law_word K) "none" (dCall ((sp_rows_of K)) (dCons (dFz (dVar 0)) (dCons (dFz (dVar 3)) (dCons (dC .non) (dNil)))))) (dC (.str "count")))) (dRet (dC (.bl false))) (dNext))))
  (dSeq (dFor (dIt (dLst (dCons (dC .non) (dCons (dC (.str "")) (dCons (dFz (dOp mulP (dC (.str "2")) (dCallP lenP (dCons (dVar 2) (dNil))))) (dCons (dFz (dLst (dCons (dC (.str "0")) (dNil)))) (dCons (dC (.int 0)) (dNil)))))))) (dgName 3) (dIfS (dTst (dOp (eqP true) (dLam K (clw__law_word K) "none" (dCall ((sp_rows_of K)) (dCons (dFz (dVar 0)) (dCons (dFz (dVar 1)) (dCons (dFz (dVar 3)) (dNil)))))) (dC (.str "word")))) (dRet (dC (.bl false))) (dNext)))
  (dSeq (dIfS (dTst (dOp (eqP true) (dLam K (clw__law_word K) "none" (dCall ((sp_rows_of K)) (dCons (dFz (dTup (dCons (dC (.str "low")) (dCons (dC (.str "high")) (dCons (dC (.str "plain")) (dNil)))))) (dCons (dFz (dVar 1)) (dCons (dC (.str "0?")) (dNil)))))) (dC (.str "match")))) (dRet (dC (.bl false))) (dNext))
  (dRet (dOp (eqP false) (dLam K (clw__law_word K) "none" (dCall ((sp_rows_of K)) (dCons (dFz (dVar 0)) (dCons (dFz (dVar 1)) (dCons (dFz (dOp addP (dVar 2) (dC (.str "?")))) (dNil)))))) (dC (.str "match")))))))))
theorem w__law_refused_right (Z : Fx K mg) (C_reads : CallOk P w K mg base (TT K) 3 "reads" ["kind", "bit", "r"] (sp_reads K)) (C_rows_of : CallOk P w K mg base (TT K) 3 "rows_of" ["kinds", "r", "word"] (sp_rows_of K)) (hgd : A.guards = some []) (L_me : LamAt K mg base exs.lams ("_law_refused_right", none)) (hc : cdv = .ref (codeAd K ("_law_refused_right", none))) (hr : Room 5 (A.deeper (PyProof.Rows.envOfC "_law_refused_right" (defScope st__law_refused_right) s.heap.objs.size f cdv))) :
    DSs (cxOf (L2.CX P w) P w K mg base N__law_refused_right "_law_refused_right" (defScope st__law_refused_right) f cdv A outer s H E) ⟨K, TT K, vs⟩ (fun c d _ H' => E c d H') (defBody st__law_refused_right) (t__law_refused_right K) := by
  have nd : N__law_refused_right.Nodup := sc__law_refused_right.nd
  have hP : PassesOwn (model P w) (cxOf (L2.CX P w) P w K mg base N__law_refused_right "_law_refused_right" (defScope st__law_refused_right) f cdv A outer s H E).A (cxOf (L2.CX P w) P w K mg base N__law_refused_right "_law_refused_right" (defScope st__law_refused_right) f cdv A outer s H E).env (cxOf (L2.CX P w) P w K mg base N__law_refused_right "_law_refused_right" (defScope st__law_refused_right) f cdv A outer s H E).xe := passes_of rfl
  exact dss_cons (ds_for hP rfl (di_any rfl (de_lst (da_cons (de_tc pe_non) (da_cons (de_tc pe_str) (da_cons (de_tc pe_str) (da_cons (de_tc pe_str) (da_cons (de_tc pe_int) (da_cons (de_fz (de_lst (da_cons (de_tc pe_str) (da_nil)))) (da_cons (de_fz (de_tup (da_cons (de_tc pe_str) (da_nil)))) (da_cons (de_tc pe_bl) (da_nil))))))))))) (dg_name (i := 3) nd rfl (by first | exact Or.inl rfl | exact Or.inr rfl)) (dss_cons (ds_set (i := 4) nd rfl (by first | exact Or.inl rfl | exact Or.inr rfl) (de_lst (da_cons (de_fz (de_lamF Z.W__law_word L_me rfl rfl (by rfl) (by rfl) hc hr (lamS_by (sc := defScope st__law_refused_right) (by decide +kernel)) (fun A outer s H E f c' hr2 => de_cf C_reads rfl hr2 (by rfl) (takes_of rfl rfl rfl rfl) (da_cons (de_fz (de_var 3 (pv 3))) (da_cons (de_tc pe_non) (da_cons (de_tc pe_non) (da_nil))))))) (da_nil))))
    (dss_cons (ds_expr (de_ml PySem.F.plainAttrs_list PySem.F.slot_list_append PySem.F.type_list_append mt_append pr_app rfl (de_var 4 (pv 4)) (da_cons (de_fz (de_lamF Z.W__law_word L_me rfl rfl (by rfl) (by rfl) hc hr (lamS_by (sc := defScope st__law_refused_right) (by decide +kernel)) (fun A outer s H E f c' hr2 => de_cf C_reads rfl hr2 (by rfl) (takes_of rfl rfl rfl rfl) (da_cons (de_fz (de_var 3 (pv 3))) (da_cons (de_tc pe_str) (da_cons (de_tc pe_int) (da_nil))))))) (da_nil))))
    (dss_cons (ds_expr (de_ml PySem.F.plainAttrs_list PySem.F.slot_list_append PySem.F.type_list_append mt_append pr_app rfl (de_var 4 (pv 4)) (da_cons (de_fz (de_lamF Z.W__law_word L_me rfl rfl (by rfl) (by rfl) hc hr (lamS_by (sc := defScope st__law_refused_right) (by decide +kernel)) (fun A outer s H E f c' hr2 => de_cf C_rows_of rfl hr2 (by rfl) (takes_of rfl rfl rfl rfl) (da_cons (de_fz (de_tup (da_cons (de_fz (de_var 3 (pv 3))) (da_nil)))) (da_cons (de_tc pe_non) (da_cons (de_tc pe_non) (da_nil))))))) (da_nil))))
    (dss_cons (ds_expr (de_ml PySem.F.plainAttrs_list PySem.F.slot_list_append PySem.F.type_list_append mt_append pr_app rfl (de_var 4 (pv 4)) (da_cons (de_fz (de_lamF Z.W__law_word L_me rfl rfl (by rfl) (by rfl) hc hr (lamS_by (sc := defScope st__law_refused_right) (by decide +kernel)) (fun A outer s H E f c' hr2 => de_cf C_rows_of rfl hr2 (by rfl) (takes_of rfl rfl rfl rfl) (da_cons (de_fz (de_tup (da_cons (de_fz (de_var 3 (pv 3))) (da_nil)))) (da_cons (de_tc pe_int) (da_cons (de_tc pe_str) (da_nil))))))) (da_nil))))
    (dss_cons (ds_expr (de_ml PySem.F.plainAttrs_list PySem.F.slot_list_append PySem.F.type_list_append mt_append pr_app rfl (de_var 4 (pv 4)) (da_cons (de_fz (de_lamF Z.W__law_word L_me rfl rfl (by rfl) (by rfl) hc hr (lamS_by (sc := defScope st__law_refused_right) (by decide +kernel)) (fun A outer s H E f c' hr2 => de_cf C_rows_of rfl hr2 (by rfl) (takes_of rfl rfl rfl rfl) (da_cons (de_fz (de_op op_addD pr_add (de_slice sl_all pr_sl (de_var 0 (pv 0)) (do_some (de_tc pe_int)) do_none) (de_tup (da_cons (de_fz (de_var 3 (pv 3))) (da_nil))))) (da_cons (de_tc pe_int) (da_cons (de_fz (de_var 2 (pv 2))) (da_nil))))))) (da_nil))))
    (dss_cons (ds_expr (de_ml PySem.F.plainAttrs_list PySem.F.slot_list_append PySem.F.type_list_append mt_append pr_app rfl (de_var 4 (pv 4)) (da_cons (de_fz (de_lamF Z.W__law_word L_me rfl rfl (by rfl) (by rfl) hc hr (lamS_by (sc := defScope st__law_refused_right) (by decide +kernel)) (fun A outer s H E f c' hr2 => de_cf C_rows_of rfl hr2 (by rfl) (takes_of rfl rfl rfl rfl) (da_cons (de_fz (de_op op_addD pr_add (de_tup (da_cons (de_fz (de_var 3 (pv 3))) (da_nil))) (de_slice sl_all pr_sl (de_var 0 (pv 0)) (do_some (de_tc pe_int)) do_none))) (da_cons (de_tc pe_int) (da_cons (de_fz (de_var 2 (pv 2))) (da_nil))))))) (da_nil))))
    (dss_cons (ds_expr (de_ml PySem.F.plainAttrs_list PySem.F.slot_list_append PySem.F.type_list_append mt_append pr_app rfl (de_var 4 (pv 4)) (da_cons (de_fz (de_lamF Z.W__law_word L_me rfl rfl (by rfl) (by rfl) hc hr (lamS_by (sc := defScope st__law_refused_right) (by decide +kernel)) (fun A outer s H E f c' hr2 => de_cf C_rows_of rfl hr2 (by rfl) (takes_of rfl rfl rfl rfl) (da_cons (de_fz (de_tup (da_cons (de_tc pe_str) (da_cons (de_fz (de_var 3 (pv 3))) (da_cons (de_tc pe_str) (da_nil)))))) (da_cons (de_tc pe_int) (da_cons (de_tc pe_str) (da_nil))))))) (da_nil))))
    (dss_one (ds_if (dt_cmp (op_neA (hu64 hr)) pr_ne (de_var 4 (pv 4)) (de_op op_mulD pr_mul (de_lst (da_cons (de_tc pe_str) (da_nil))) (de_tc pe_int)) (nomark _)) (dss_one (ds_ret (de_tc pe_bl))) (dss_nil)))))))))))
    (dss_cons (ds_for hP rfl (di_any rfl (de_lst (da_cons (de_tc pe_non) (da_cons (de_tc pe_str) (da_cons (de_tc pe_str) (da_cons (de_tc pe_str) (da_cons (de_tc pe_str) (da_cons (de_tc pe_int) (da_cons (de_tc pe_int) (da_cons (de_tc pe_bl) (da_cons (de_fz (de_lst (da_cons (de_tc pe_str) (da_nil)))) (da_nil)))))))))))) (dg_name (i := 3) nd rfl (by first | exact Or.inl rfl | exact Or.inr rfl)) (dss_cons (ds_if (dt_cmp (op_neA (hu64 hr)) pr_ne (de_lamF Z.W__law_word L_me rfl rfl (by rfl) (by rfl) hc hr (lamS_by (sc := defScope st__law_refused_right) (by decide +kernel)) (fun A outer s H E f c' hr2 => de_cf C_reads rfl hr2 (by rfl) (takes_of rfl rfl rfl rfl) (da_cons (de_tc pe_str) (da_cons (de_fz (de_var 3 (pv 3))) (da_cons (de_tc pe_int) (da_nil)))))) (de_tc pe_str) (nomark _)) (dss_one (ds_ret (de_tc pe_bl))) (dss_nil))
    (dss_one (ds_if (dt_cmp (op_neA (hu64 hr)) pr_ne (de_lamF Z.W__law_word L_me rfl rfl (by rfl) (by rfl) hc hr (lamS_by (sc := defScope st__law_refused_right) (by decide +kernel)) (fun A outer s H E f c' hr2 => de_cf C_reads rfl hr2 (by rfl) (takes_of rfl rfl rfl rfl) (da_cons (de_tc pe_str) (da_cons (de_fz (de_var 3 (pv 3))) (da_cons (de_tc pe_non) (da_nil)))))) (de_tc pe_str) (nomark _)) (dss_one (ds_ret (de_tc pe_bl))) (dss_nil)))))
    (dss_cons (ds_for hP rfl (di_any rfl (de_lst (da_cons (de_tc pe_non) (da_cons (de_fz (de_tup (da_nil))) (da_cons (de_fz (de_lst (da_cons (de_tc pe_str) (da_nil)))) (da_cons (de_tc pe_str) (da_cons (de_fz (de_op op_mulD pr_mul (de_tup (da_cons (de_tc pe_str) (da_nil))) (de_tc pe_int))) (da_cons (de_fz (de_dnew)) (da_nil))))))))) (dg_name (i := 3) nd rfl (by first | exact Or.inl rfl | exact Or.inr rfl)) (dss_one (ds_if (dt_cmp (op_neA (hu64 hr)) pr_ne (de_lamF Z.W__law_word L_me rfl rfl (by rfl) (by rfl) hc hr (lamS_by (sc := defScope st__law_refused_right) (by decide +kernel)) (fun A outer s H E f c' hr2 => de_cf C_rows_of rfl hr2 (by rfl) (takes_of rfl rfl rfl rfl) (da_cons (de_fz (de_var 3 (pv 3))) (da_cons (de_tc pe_non) (da_cons (de_tc pe_non) (da_nil)))))) (de_tc pe_str) (nomark _)) (dss_one (ds_ret (de_tc pe_bl))) (dss_nil))))
    (dss_cons (ds_for hP rfl (di_any rfl (de_lst (da_cons (de_tc pe_non) (da_cons (de_tc pe_int) (da_cons (de_tc pe_int) (da_cons (de_fz (de_un un_neg pr_neg (de_tc pe_int))) (da_cons (de_tc pe_bl) (da_cons (de_tc pe_str) (da_cons (de_fz (de_tup (da_cons (de_tc pe_int) (da_nil)))) (da_nil)))))))))) (dg_name (i := 3) nd rfl (by first | exact Or.inl rfl | exact Or.inr rfl)) (dss_cons (ds_if (dt_cmp (op_neA (hu64 hr)) pr_ne (de_lamF Z.W__law_word L_me rfl rfl (by rfl) (by rfl) hc hr (lamS_by (sc := defScope st__law_refused_right) (by decide +kernel)) (fun A outer s H E f c' hr2 => de_cf C_reads rfl hr2 (by rfl) (takes_of rfl rfl rfl rfl) (da_cons (de_tc pe_str) (da_cons (de_tc pe_str) (da_cons (de_fz (de_var 3 (pv 3))) (da_nil)))))) (de_tc pe_str) (nomark _)) (dss_one (ds_ret (de_tc pe_bl))) (dss_nil))
    (dss_one (ds_if (dt_cmp (op_neA (hu64 hr)) pr_ne (de_lamF Z.W__law_word L_me rfl rfl (by rfl) (by rfl) hc hr (lamS_by (sc := defScope st__law_refused_right) (by decide +kernel)) (fun A outer s H E f c' hr2 => de_cf C_rows_of rfl hr2 (by rfl) (takes_of rfl rfl rfl rfl) (da_cons (de_fz (de_var 0 (pv 0))) (da_cons (de_fz (de_var 3 (pv 3))) (da_cons (de_tc pe_non) (da_nil)))))) (de_tc pe_str) (nomark _)) (dss_one (ds_ret (de_tc pe_bl))) (dss_nil)))))
    (dss_cons (ds_for hP rfl (di_any rfl (de_lst (da_cons (de_tc pe_non) (da_cons (de_tc pe_str) (da_cons (de_fz (de_op op_mulD pr_mul (de_tc pe_str) (de_blt call_len (by rfl) Z.n_len PySem.boot_len pr_len (da_cons (de_var 2 (pv 2)) (da_nil))))) (da_cons (de_fz (de_lst (da_cons (de_tc pe_str) (da_nil)))) (da_cons (de_tc pe_int) (da_nil)))))))) (dg_name (i := 3) nd rfl (by first | exact Or.inl rfl | exact Or.inr rfl)) (dss_one (ds_if (dt_cmp (op_neA (hu64 hr)) pr_ne (de_lamF Z.W__law_word L_me rfl rfl (by rfl) (by rfl) hc hr (lamS_by (sc := defScope st__law_refused_right) (by decide +kernel)) (fun A outer s H E f c' hr2 => de_cf C_rows_of rfl hr2 (by rfl) (takes_of rfl rfl rfl rfl) (da_cons (de_fz (de_var 0 (pv 0))) (da_cons (de_fz (de_var 1 (pv 1))) (da_cons (de_fz (de_var 3 (pv 3))) (da_nil)))))) (de_tc pe_str) (nomark _)) (dss_one (ds_ret (de_tc pe_bl))) (dss_nil))))
    (dss_cons (ds_if (dt_cmp (op_neA (hu64 hr)) pr_ne (de_lamF Z.W__law_word L_me rfl rfl (by rfl) (by rfl) hc hr (lamS_by (sc := defScope st__law_refused_right) (by decide +kernel)) (fun A outer s H E f c' hr2 => de_cf C_rows_of rfl hr2 (by rfl) (takes_of rfl rfl rfl rfl) (da_cons (de_fz (de_tup (da_cons (de_tc pe_str) (da_cons (de_tc pe_str) (da_cons (de_tc pe_str) (da_nil)))))) (da_cons (de_fz (de_var 1 (pv 1))) (da_cons (de_tc pe_str) (da_nil)))))) (de_tc pe_str) (nomark _)) (dss_one (ds_ret (de_tc pe_bl))) (dss_nil))
    (dss_one (ds_ret (de_cmp (op_eqA (hu64 hr)) pr_eq (de_lamF Z.W__law_word L_me rfl rfl (by rfl) (by rfl) hc hr (lamS_by (sc := defScope st__law_refused_right) (by decide +kernel)) (fun A outer s H E f c' hr2 => de_cf C_rows_of rfl hr2 (by rfl) (takes_of rfl rfl rfl rfl) (da_cons (de_fz (de_var 0 (pv 0))) (da_cons (de_fz (de_var 1 (pv 1))) (da_cons (de_fz (de_op op_addD pr_add (de_var 2 (pv 2)) (de_tc pe_str))) (da_nil)))))) (de_tc pe_str) (nomark _)))))))))
def N_law : List Str := ["script", "pen", "turn", "kind", "r", "bit", "again", "told", "n", "kinds", "word", "low", "high", "row"]
theorem sc_law : FnScope N_law ["script"] (defScope st_law) := ⟨rfl, rfl, rfl, by decide +kernel, rfl, by decide +kernel, by decide +kernel⟩
def t_law (K : PySem.W.Frag) : DTS := dSeq (dSet 1 (dCall ((sp__law_open K)) (dCons (dFz (dVar 0)) (dNil))))
  (dSeq (dFor (dRng1 (dCons (dC (.int 2)) (dNil))) (dgName 2) (dSeq (dFor (dIt (dLst (dCons (dC (.str "plain")) (dCons (dC (.str "low")) (dCons (dC (.str "high")) (dNil)))))) (dgName 3) (dSeq (dSet 4 (dOp addP (dC (.int 1)) (dCall ((sp__law_take K)) (dCons (dVar 1) (dCons (dC (.int 5)) (dNil))))))
  (dFor (dIt (dC (.str "01?"))) (dgName 5) (dFor (dRng1 (dCons (dC (.int 2)) (dNil))) (dgName 6) (dSeq (dSet 7 (dCall ((sp_reads K)) (dCons (dFz (dVar 3)) (dCons (dFz (dVar 5)) (dCons (dFz (dVar 4)) (dNil))))))
  (dSeq (dIfS (dTst (dOp (eqP true) (dCallP reprP (dCons (dVar 7) (dNil))) (dCallP reprP (dCons (dCall ((sp__law_reads K)) (dCons (dFz (dVar 3)) (dCons (dFz (dVar 5)) (dCons (dFz (dVar 4)) (dNil))))) (dNil))))) (dRet (dC (.bl false))) (dNext))
  (dDrop (dMi appP (dVar 7) (dCons (dC .non) (dNil))))))))))
  (dSeq (dPar 8 4 (dCons (dFz (dOp addP (dC (.int 1)) (dCall ((sp__law_take K)) (dCons (dVar 1) (dCons (dC (.int 3)) (dNil)))))) (dCons (dFz (dOp addP (dC (.int 1)) (dCall ((sp__law_take K)) (dCons (dVar 1) (dCons (dC (.int 3)) (dNil)))))) (dNil))))
  (dSeq (dPar 9 10 (dCons (dFz (dCall ((sp__law_any_kinds K)) (dCons (dVar 1) (dCons (dFz (dVar 8)) (dNil))))) (dCons (dFz (dCall ((sp__law_any_word K)) (dCons (dVar 1) (dCons (dFz (dVar 8)) (dNil))))) (dNil))))
  (dSeq (dFor (dRng1 (dCons (dC (.int 2)) (dNil))) (dgName 6) (dSeq (dSet 7 (dCall ((sp_rows_of K)) (dCons (dFz (dVar 9)) (dCons (dFz (dVar 4)) (dCons (dFz (dVar 10)) (dNil))))))
  (dSeq (dIfS (dTst (dOp (eqP true) (dCallP reprP (dCons (dVar 7) (dNil))) (dCallP reprP (dCons (dCall ((sp__law_rows K)) (dCons (dFz (dVar 9)) (dCons (dFz (dVar 4)) (dCons (dFz (dVar 10)) (dNil))))) (dNil))))) (dRet (dC (.bl false))) (dNext))
  (dDrop (dMi appP (dVar 7) (dCons (dC .non) (dNil)))))))
  (dIfS (dNot (dTst (dCall ((sp__law_refused_right K)) (dCons (dFz (dVar 9)) (dCons (dFz (dVar 4)) (dCons (dFz (dVar 10)) (dNil))))))) (dRet (dC (.bl false))) (dNext)))))))
  (dSeq (dPar 11 12 (dCons (dFz (dCall ((sp_reads K)) (dCons (dC (.str "low")) (dCons (dC (.str "?")) (dCons (dC (.int 8)) (dNil)))))) (dCons (dFz (dCall ((sp_reads K)) (dCons (dC (.str "high")) (dCons (dC (.str "?")) (dCons (dC (.int 8)) (dNil)))))) (dNil))))
  (dSeq (dIfS (dOr (dTst (dOp (eqP true) (dCallP lenP (dCons (dVar 11) (dNil))) (dC (.int 17)))) (dOr (dTst (dOp (eqP true) (dCallP sortedSP (dCons (dLc (dIt (dVar 11)) (dgName 13) (dYes) (dFz (dUn revP (dVar 13))) [13]) (dNil))) (dVar 12))) (dOr (dTst (dOp (eqP true) (dOp ixP (dVar 11) (dC (.int 0))) (dC (.str "00000000")))) (dTst (dOp (eqP true) (dVar 11) (dCallP sortedSP (dCons (dVar 11) (dNil)))))))) (dRet (dC (.bl false))) (dNext))
  (dRet (dAndV (dOp (eqP false) (dCallP lenP (dCons (dCall ((sp_rows_of K)) (dCons (dFz (dOp mulP (dTup (dCons (dC (.str "low")) (dNil))) (dC (.int 3)))) (dCons (dC (.int 8)) (dCons (dC (.str "???")) (dNil))))) (dNil))) (dC (.int 4913))) (dOp (eqP false) (dCall ((sp_rows_of K)) (dCons (dFz (dTup (dCons (dC (.str "plain")) (dNil)))) (dCons (dC (.int 8)) (dCons (dC (.str "?")) (dNil))))) (dLst (dCons (dC (.str "????????")) (dNil)))))))))
theorem w_law (Z : Fx K mg) (C__law_any_kinds : CallOk P w K mg base (TT K) 4 "_law_any_kinds" ["pen", "n"] (sp__law_any_kinds K)) (C__law_any_word : CallOk P w K mg base (TT K) 4 "_law_any_word" ["pen", "n"] (sp__law_any_word K)) (C__law_open : CallOk P w K mg base (TT K) 1 "_law_open" ["script"] (sp__law_open K)) (C__law_reads : CallOk P w K mg base (TT K) 2 "_law_reads" ["kind", "bit", "r"] (sp__law_reads K)) (C__law_refused_right : CallG P w K mg base (TT K) 6 "_law_refused_right" ["kinds", "r", "word"] (sp__law_refused_right K)) (C__law_rows : CallOk P w K mg base (TT K) 3 "_law_rows" ["kinds", "r", "word"] (sp__law_rows K)) (C__law_take : CallOk P w K mg base (TT K) 2 "_law_take" ["pen", "many"] (sp__law_take K)) (C_reads : CallOk P w K mg base (TT K) 3 "reads" ["kind", "bit", "r"] (sp_reads K)) (C_rows_of : CallOk P w K mg base (TT K) 3 "rows_of" ["kinds", "r", "word"] (sp_rows_of K)) (hgd : A.guards = some []) (hr : Room 6 (A.deeper (PyProof.Rows.envOfC "law" (defScope st_law) s.heap.objs.size f cdv))) :
    DSs (cxOf (L2.CX P w) P w K mg base N_law "law" (defScope st_law) f cdv A outer s H E) ⟨K, TT K, vs⟩ (fun c d _ H' => E c d H') (defBody st_law) (t_law K) := by
  have nd : N_law.Nodup := sc_law.nd
  have hP : PassesOwn (model P w) (cxOf (L2.CX P w) P w K mg base N_law "law" (defScope st_law) f cdv A outer s H E).A (cxOf (L2.CX P w) P w K mg base N_law "law" (defScope st_law) f cdv A outer s H E).env (cxOf (L2.CX P w) P w K mg base N_law "law" (defScope st_law) f cdv A outer s H E).xe := passes_of rfl
  exact dss_cons (ds_set (i := 1) nd rfl (by first | exact Or.inl rfl | exact Or.inr rfl) (de_cf C__law_open rfl hr (by rfl) (takes_of rfl rfl rfl rfl) (da_cons (de_fz (de_var 0 (pv 0))) (da_nil))))
    (dss_cons (ds_for hP rfl (di_rng1 (by rfl) Z.n_range (da_cons (de_tc pe_int) (da_nil))) (dg_name (i := 2) nd rfl (by first | exact Or.inl rfl | exact Or.inr rfl)) (dss_cons (ds_for hP rfl (di_any rfl (de_lst (da_cons (de_tc pe_str) (da_cons (de_tc pe_str) (da_cons (de_tc pe_str) (da_nil)))))) (dg_name (i := 3) nd rfl (by first | exact Or.inl rfl | exact Or.inr rfl)) (dss_cons (ds_set (i := 4) nd rfl (by first | exact Or.inl rfl | exact Or.inr rfl) (de_op op_addD pr_add (de_tc pe_int) (de_cf C__law_take rfl hr (by rfl) (takes_of rfl rfl rfl rfl) (da_cons (de_var 1 (pv 1)) (da_cons (de_tc pe_int) (da_nil))))))
    (dss_one (ds_for hP rfl (di_any rfl (de_tc pe_str)) (dg_name (i := 5) nd rfl (by first | exact Or.inl rfl | exact Or.inr rfl)) (dss_one (ds_for hP rfl (di_rng1 (by rfl) Z.n_range (da_cons (de_tc pe_int) (da_nil))) (dg_name (i := 6) nd rfl (by first | exact Or.inl rfl | exact Or.inr rfl)) (dss_cons (ds_set (i := 7) nd rfl (by first | exact Or.inl rfl | exact Or.inr rfl) (de_cf C_reads rfl hr (by rfl) (takes_of rfl rfl rfl rfl) (da_cons (de_fz (de_var 3 (pv 3))) (da_cons (de_fz (de_var 5 (pv 5))) (da_cons (de_fz (de_var 4 (pv 4))) (da_nil))))))
    (dss_cons (ds_if (dt_cmp (op_neA (hu64 hr)) pr_ne (de_blt (call_reprD hgd (hu66 hr)) (by rfl) Z.n_repr boot_repr pr_repr (da_cons (de_var 7 (pv 7)) (da_nil))) (de_blt (call_reprD hgd (hu66 hr)) (by rfl) Z.n_repr boot_repr pr_repr (da_cons (de_cf C__law_reads rfl hr (by rfl) (takes_of rfl rfl rfl rfl) (da_cons (de_fz (de_var 3 (pv 3))) (da_cons (de_fz (de_var 5 (pv 5))) (da_cons (de_fz (de_var 4 (pv 4))) (da_nil))))) (da_nil))) (nomark _)) (dss_one (ds_ret (de_tc pe_bl))) (dss_nil))
    (dss_one (ds_expr (de_ml PySem.F.plainAttrs_list PySem.F.slot_list_append PySem.F.type_list_append mt_append pr_app rfl (de_var 7 (pv 7)) (da_cons (de_tc pe_non) (da_nil)))))))))))))
    (dss_cons (ds_par (i := 8) (j := 4) rfl nd rfl rfl (by decide) rfl rfl (da_cons (de_fz (de_op op_addD pr_add (de_tc pe_int) (de_cf C__law_take rfl hr (by rfl) (takes_of rfl rfl rfl rfl) (da_cons (de_var 1 (pv 1)) (da_cons (de_tc pe_int) (da_nil)))))) (da_cons (de_fz (de_op op_addD pr_add (de_tc pe_int) (de_cf C__law_take rfl hr (by rfl) (takes_of rfl rfl rfl rfl) (da_cons (de_var 1 (pv 1)) (da_cons (de_tc pe_int) (da_nil)))))) (da_nil))) rfl)
    (dss_cons (ds_par (i := 9) (j := 10) rfl nd rfl rfl (by decide) rfl rfl (da_cons (de_fz (de_cf C__law_any_kinds rfl hr (by rfl) (takes_of rfl rfl rfl rfl) (da_cons (de_var 1 (pv 1)) (da_cons (de_fz (de_var 8 (pv 8))) (da_nil))))) (da_cons (de_fz (de_cf C__law_any_word rfl hr (by rfl) (takes_of rfl rfl rfl rfl) (da_cons (de_var 1 (pv 1)) (da_cons (de_fz (de_var 8 (pv 8))) (da_nil))))) (da_nil))) rfl)
    (dss_cons (ds_for hP rfl (di_rng1 (by rfl) Z.n_range (da_cons (de_tc pe_int) (da_nil))) (dg_name (i := 6) nd rfl (by first | exact Or.inl rfl | exact Or.inr rfl)) (dss_cons (ds_set (i := 7) nd rfl (by first | exact Or.inl rfl | exact Or.inr rfl) (de_cf C_rows_of rfl hr (by rfl) (takes_of rfl rfl rfl rfl) (da_cons (de_fz (de_var 9 (pv 9))) (da_cons (de_fz (de_var 4 (pv 4))) (da_cons (de_fz (de_var 10 (pv 10))) (da_nil))))))
    (dss_cons (ds_if (dt_cmp (op_neA (hu64 hr)) pr_ne (de_blt (call_reprD hgd (hu66 hr)) (by rfl) Z.n_repr boot_repr pr_repr (da_cons (de_var 7 (pv 7)) (da_nil))) (de_blt (call_reprD hgd (hu66 hr)) (by rfl) Z.n_repr boot_repr pr_repr (da_cons (de_cf C__law_rows rfl hr (by rfl) (takes_of rfl rfl rfl rfl) (da_cons (de_fz (de_var 9 (pv 9))) (da_cons (de_fz (de_var 4 (pv 4))) (da_cons (de_fz (de_var 10 (pv 10))) (da_nil))))) (da_nil))) (nomark _)) (dss_one (ds_ret (de_tc pe_bl))) (dss_nil))
    (dss_one (ds_expr (de_ml PySem.F.plainAttrs_list PySem.F.slot_list_append PySem.F.type_list_append mt_append pr_app rfl (de_var 7 (pv 7)) (da_cons (de_tc pe_non) (da_nil))))))))
    (dss_one (ds_if (dt_not (dt_val (de_cg C__law_refused_right rfl hgd hr (by rfl) (takes_of rfl rfl rfl rfl) (da_cons (de_fz (de_var 9 (pv 9))) (da_cons (de_fz (de_var 4 (pv 4))) (da_cons (de_fz (de_var 10 (pv 10))) (da_nil))))))) (dss_one (ds_ret (de_tc pe_bl))) (dss_nil))))))))
    (dss_cons (ds_par (i := 11) (j := 12) rfl nd rfl rfl (by decide) rfl rfl (da_cons (de_fz (de_cf C_reads rfl hr (by rfl) (takes_of rfl rfl rfl rfl) (da_cons (de_tc pe_str) (da_cons (de_tc pe_str) (da_cons (de_tc pe_int) (da_nil)))))) (da_cons (de_fz (de_cf C_reads rfl hr (by rfl) (takes_of rfl rfl rfl rfl) (da_cons (de_tc pe_str) (da_cons (de_tc pe_str) (da_cons (de_tc pe_int) (da_nil)))))) (da_nil))) rfl)
    (dss_cons (ds_if (DW.dt (dw_or (dt_cmp (op_neA (hu64 hr)) pr_ne (de_blt call_len (by rfl) Z.n_len PySem.boot_len pr_len (da_cons (de_var 11 (pv 11)) (da_nil))) (de_tc pe_int) (nomark _)) (dw_or (dt_cmp (op_neA (hu64 hr)) pr_ne (de_blt cr_sortedS (by rfl) Z.n_sorted boot_sorted pr_sortedS (da_cons (de_lcA [("row", 13)] rfl nd (di_any rfl (de_var 11 (pv 11))) (blkOk_by (N := N_law) (sc := defScope st_law) (by decide +kernel)) (by decide) (fun _ _ _ _ _ => dg_name (i := 13) nd rfl (by first | exact Or.inl rfl | exact Or.inr rfl)) (fun _ _ _ _ _ => dts_nil) (fun _ _ _ _ _ => de_fz (de_rev rfl (de_var 13 (pv 13))))) (da_nil))) (de_var 12 (pv 12)) (nomark _)) (dw_or (dt_cmp (op_neA (hu64 hr)) pr_ne (de_ix ix_seq pr_ix (de_var 11 (pv 11)) (de_tc pe_int) (fun _ _ => rfl)) (de_tc pe_str) (nomark _)) (dw_or1 (dt_cmp (op_neA (hu64 hr)) pr_ne (de_var 11 (pv 11)) (de_blt cr_sortedS (by rfl) Z.n_sorted boot_sorted pr_sortedS (da_cons (de_var 11 (pv 11)) (da_nil))) (nomark _))))))) (dss_one (ds_ret (de_tc pe_bl))) (dss_nil))
    (dss_one (ds_ret (de_and (de_cmp (op_eqA (hu64 hr)) pr_eq (de_blt call_len (by rfl) Z.n_len PySem.boot_len pr_len (da_cons (de_cf C_rows_of rfl hr (by rfl) (takes_of rfl rfl rfl rfl) (da_cons (de_fz (de_op op_mulD pr_mul (de_tup (da_cons (de_tc pe_str) (da_nil))) (de_tc pe_int))) (da_cons (de_tc pe_int) (da_cons (de_tc pe_str) (da_nil))))) (da_nil))) (de_tc pe_int) (nomark _)) (de_one (de_cmp (op_eqA (hu64 hr)) pr_eq (de_cf C_rows_of rfl hr (by rfl) (takes_of rfl rfl rfl rfl) (da_cons (de_fz (de_tup (da_cons (de_tc pe_str) (da_nil)))) (da_cons (de_tc pe_int) (da_cons (de_tc pe_str) (da_nil))))) (de_lst (da_cons (de_tc pe_str) (da_nil))) (nomark _)))))))))
end
end Lw

/-! text S -/
set_option Elab.async false
set_option linter.all false
set_option maxRecDepth 100000
set_option maxHeartbeats 4000000
namespace Lw
open PySem PySem.Spec PyProof.Rows L2 DL
section
variable {P : Program} {w : World} {base : Heap} {K : PySem.W.Frag} {ws : List Wv} {Q : Wv → List Wv → Prop} {Y : Value → List Wv → Prop} {mg : Str → Option Value}
theorem pick_NoWord (Z : Fx K mg) {k : Str → Prop} (h : k "word") : pickK K (.ref (He.ga K "NoWord")) k (clw__law_word K) := ⟨_, Z.m_NoWord_NoKind, (fun e => by cases e), fun _ => ⟨_, Z.m_NoWord_NoCount, (fun e => by cases e), fun _ => ⟨_, Z.m_NoWord_NoWord, fun _ => h, fun e => by cases e⟩⟩⟩
theorem pick_NoCount (Z : Fx K mg) {k : Str → Prop} (h : k "count") : pickK K (.ref (He.ga K "NoCount")) k (clw__law_word K) := ⟨_, Z.m_NoCount_NoKind, (fun e => by cases e), fun _ => ⟨_, Z.m_NoCount_NoCount, fun _ => h, fun e => by cases e⟩⟩
theorem pick_NoKind (Z : Fx K mg) {k : Str → Prop} (h : k "kind") : pickK K (.ref (He.ga K "NoKind")) k (clw__law_word K) := ⟨_, Z.m_NoKind_NoKind, fun _ => h, fun e => by cases e⟩
theorem pick_NoMatch (Z : Fx K mg) {k : Str → Prop} (h : k "match") : pickK K (.ref (He.ga K "NoMatch")) k (clw__law_word K) := ⟨_, Z.m_NoMatch_NoKind, (fun e => by cases e), fun _ => ⟨_, Z.m_NoMatch_NoCount, (fun e => by cases e), fun _ => ⟨_, Z.m_NoMatch_NoWord, (fun e => by cases e), fun _ => ⟨_, Z.m_NoMatch_NoMatch, fun _ => h, fun e => by cases e⟩⟩⟩⟩
def qs (z : Str) : Nat := z.cps.toList.count 63
end
end Lw

/-! text RA -/
set_option Elab.async false
set_option linter.all false
set_option maxRecDepth 100000
set_option maxHeartbeats 4000000
namespace Lw
open PySem PySem.Spec PyProof.Rows L2 DL
section
variable {P : Program} {w : World} {base : Heap} {K : PySem.W.Frag} {ws : List Wv} {Q : Wv → List Wv → Prop} {Y : Value → List Wv → Prop} {mg : Str → Option Value}
theorem r_is_within_bounds (h : sp_is_within_bounds K ws Q Y) : t_is_within_bounds K (dEnds Q Y) (start0 N_is_within_bounds ws) := by
  obtain ⟨ds, e, _, ⟨d, t, a, b, rfl, ht⟩, q⟩ := h
  have := pures_len e
  subst this
  cases d with
  | sc v =>
    cases v with
    | int i =>
      simp only [List.map_cons, List.map_nil, t_is_within_bounds, N_is_within_bounds, dSet, dRet, dRetN, dIfS, dFor, dIt, dgName, dgNil, dgCons, dgTup, dgLst, dgTxt, dgSet, dVar, dC, dG, dOp, dUn, dCallP, dCons, dNil, dTst, dAnd, dOr, dNot, dAndV, dOrV, dNotV, dIf, dFz, dTup, dLst, dCall, dChain, dSl, dONo, dOSome, dMs, dMi, dAsg, dPar, dDrop, dLc, dLc2, dYes, dRng1, dRng2, dEnum, dZip, dLam, dNewD, dRaise, dNext, dBrk, dCnt, DS.put, DS.wipe, DS.rest, wipeL, restL, val, slD, vals, frz1, put1, out1, pures, dargs, dback, getM, setM, M.frz, start0, par, dEnds, isRes, itemsD, p2i, addP, subP, mulP, divP, modP, powP, DL.ltP, DL.leP, DL.gtP, DL.geP, eqP, inP, isNP, ixP, lenP, isiP, allP, anyP, intP, listP, tupleP, sortedSP, reprP, slP, revP, negP, findP, countP, joinP, appP, insP, tyD, lenD, dMl, lcountP, isBP, dLSet, dLRg, List.getElem?_cons_zero, List.getElem?_cons_succ, List.set_cons_zero, List.set_cons_succ, List.cons_append, List.nil_append, List.replicate_succ, List.replicate_zero, List.length_cons, List.length_nil, Option.some.injEq, exists_eq_left', exists_eq_left, Wv.pu.injEq, D.sc.injEq, V.bl.injEq, V.int.injEq, V.str.injEq, Nat.reduceSub, Nat.reduceAdd, List.cons.injEq, and_true, true_and, exists_and_left, Option.map_some, if_true, if_false, Bool.false_eq_true, exists_eq_right, ex2a, ex2b, ex2c, D.tup.injEq, D.lst.injEq, M.lst.injEq, eq_self, kb_NoneType_bool, kb_NoneType_int, kb_NoneType_str, kb_NoneType_tuple, kb_NoneType_list, kb_NoneType_dict, kb_bool_bool, kb_bool_int, kb_bool_str, kb_bool_tuple, kb_bool_list, kb_bool_dict, kb_int_bool, kb_int_int, kb_int_str, kb_int_tuple, kb_int_list, kb_int_dict, kb_str_bool, kb_str_int, kb_str_str, kb_str_tuple, kb_str_list, kb_str_dict, kb_tuple_bool, kb_tuple_int, kb_tuple_str, kb_tuple_tuple, kb_tuple_list, kb_tuple_dict, kb_list_bool, kb_list_int, kb_list_str, kb_list_tuple, kb_list_list, kb_list_dict, kb_dict_bool, kb_dict_int, kb_dict_str, kb_dict_tuple, kb_dict_list, kb_dict_dict, bndF, DI', DB', Bool.not_false, Bool.not_true] at q ⊢
      by_cases h1 : a ≤ i <;> by_cases h2 : i ≤ b <;> simp [h1, h2] at q ⊢ <;> exact q
    | _ => simp only [List.map_cons, List.map_nil, t_is_within_bounds, N_is_within_bounds, dSet, dRet, dRetN, dIfS, dFor, dIt, dgName, dgNil, dgCons, dgTup, dgLst, dgTxt, dgSet, dVar, dC, dG, dOp, dUn, dCallP, dCons, dNil, dTst, dAnd, dOr, dNot, dAndV, dOrV, dNotV, dIf, dFz, dTup, dLst, dCall, dChain, dSl, dONo, dOSome, dMs, dMi, dAsg, dPar, dDrop, dLc, dLc2, dYes, dRng1, dRng2, dEnum, dZip, dLam, dNewD, dRaise, dNext, dBrk, dCnt, DS.put, DS.wipe, DS.rest, wipeL, restL, val, slD, vals, frz1, put1, out1, pures, dargs, dback, getM, setM, M.frz, start0, par, dEnds, isRes, itemsD, p2i, addP, subP, mulP, divP, modP, powP, DL.ltP, DL.leP, DL.gtP, DL.geP, eqP, inP, isNP, ixP, lenP, isiP, allP, anyP, intP, listP, tupleP, sortedSP, reprP, slP, revP, negP, findP, countP, joinP, appP, insP, tyD, lenD, dMl, lcountP, isBP, dLSet, dLRg, List.getElem?_cons_zero, List.getElem?_cons_succ, List.set_cons_zero, List.set_cons_succ, List.cons_append, List.nil_append, List.replicate_succ, List.replicate_zero, List.length_cons, List.length_nil, Option.some.injEq, exists_eq_left', exists_eq_left, Wv.pu.injEq, D.sc.injEq, V.bl.injEq, V.int.injEq, V.str.injEq, Nat.reduceSub, Nat.reduceAdd, List.cons.injEq, and_true, true_and, exists_and_left, Option.map_some, if_true, if_false, Bool.false_eq_true, exists_eq_right, ex2a, ex2b, ex2c, D.tup.injEq, D.lst.injEq, M.lst.injEq, eq_self, kb_NoneType_bool, kb_NoneType_int, kb_NoneType_str, kb_NoneType_tuple, kb_NoneType_list, kb_NoneType_dict, kb_bool_bool, kb_bool_int, kb_bool_str, kb_bool_tuple, kb_bool_list, kb_bool_dict, kb_int_bool, kb_int_int, kb_int_str, kb_int_tuple, kb_int_list, kb_int_dict, kb_str_bool, kb_str_int, kb_str_str, kb_str_tuple, kb_str_list, kb_str_dict, kb_tuple_bool, kb_tuple_int, kb_tuple_str, kb_tuple_tuple, kb_tuple_list, kb_tuple_dict, kb_list_bool, kb_list_int, kb_list_str, kb_list_tuple, kb_list_list, kb_list_dict, kb_dict_bool, kb_dict_int, kb_dict_str, kb_dict_tuple, kb_dict_list, kb_dict_dict, bndF, DI', DB', Bool.not_false, Bool.not_true] at q ht ⊢ <;> first | exact q | cases ht
  | scr ns => cases ht
  | _ => simp only [List.map_cons, List.map_nil, t_is_within_bounds, N_is_within_bounds, dSet, dRet, dRetN, dIfS, dFor, dIt, dgName, dgNil, dgCons, dgTup, dgLst, dgTxt, dgSet, dVar, dC, dG, dOp, dUn, dCallP, dCons, dNil, dTst, dAnd, dOr, dNot, dAndV, dOrV, dNotV, dIf, dFz, dTup, dLst, dCall, dChain, dSl, dONo, dOSome, dMs, dMi, dAsg, dPar, dDrop, dLc, dLc2, dYes, dRng1, dRng2, dEnum, dZip, dLam, dNewD, dRaise, dNext, dBrk, dCnt, DS.put, DS.wipe, DS.rest, wipeL, restL, val, slD, vals, frz1, put1, out1, pures, dargs, dback, getM, setM, M.frz, start0, par, dEnds, isRes, itemsD, p2i, addP, subP, mulP, divP, modP, powP, DL.ltP, DL.leP, DL.gtP, DL.geP, eqP, inP, isNP, ixP, lenP, isiP, allP, anyP, intP, listP, tupleP, sortedSP, reprP, slP, revP, negP, findP, countP, joinP, appP, insP, tyD, lenD, dMl, lcountP, isBP, dLSet, dLRg, List.getElem?_cons_zero, List.getElem?_cons_succ, List.set_cons_zero, List.set_cons_succ, List.cons_append, List.nil_append, List.replicate_succ, List.replicate_zero, List.length_cons, List.length_nil, Option.some.injEq, exists_eq_left', exists_eq_left, Wv.pu.injEq, D.sc.injEq, V.bl.injEq, V.int.injEq, V.str.injEq, Nat.reduceSub, Nat.reduceAdd, List.cons.injEq, and_true, true_and, exists_and_left, Option.map_some, if_true, if_false, Bool.false_eq_true, exists_eq_right, ex2a, ex2b, ex2c, D.tup.injEq, D.lst.injEq, M.lst.injEq, eq_self, kb_NoneType_bool, kb_NoneType_int, kb_NoneType_str, kb_NoneType_tuple, kb_NoneType_list, kb_NoneType_dict, kb_bool_bool, kb_bool_int, kb_bool_str, kb_bool_tuple, kb_bool_list, kb_bool_dict, kb_int_bool, kb_int_int, kb_int_str, kb_int_tuple, kb_int_list, kb_int_dict, kb_str_bool, kb_str_int, kb_str_str, kb_str_tuple, kb_str_list, kb_str_dict, kb_tuple_bool, kb_tuple_int, kb_tuple_str, kb_tuple_tuple, kb_tuple_list, kb_tuple_dict, kb_list_bool, kb_list_int, kb_list_str, kb_list_tuple, kb_list_list, kb_list_dict, kb_dict_bool, kb_dict_int, kb_dict_str, kb_dict_tuple, kb_dict_list, kb_dict_dict, bndF, DI', DB', Bool.not_false, Bool.not_true] at q ht ⊢ <;> exact q
theorem len1 {ds : List D} (h : ds.length = 1) : ∃ d, ds = [d] := by
  match ds, h with
  | [d], _ => exact ⟨d, rfl⟩
theorem len3 {ds : List D} (h : ds.length = 3) : ∃ a b c, ds = [a, b, c] := by
  match ds, h with
  | [a, b, c], _ => exact ⟨a, b, c, rfl⟩
theorem r_is_word (h : sp_is_word K ws Q Y) : t_is_word K (dEnds Q Y) (start0 N_is_word ws) := by
  obtain ⟨ds, e, hl, hp, q⟩ := h
  obtain ⟨d, rfl⟩ := len1 hl
  obtain ⟨⟨t, ht⟩, hz⟩ := hp d (by simp)
  have := pures_len e
  subst this
  cases d with
  | sc v =>
    cases v with
    | str z =>
      have hz := hz z rfl
      simp only [List.map_cons, List.map_nil, t_is_word, N_is_word, dSet, dRet, dRetN, dIfS, dFor, dIt, dgName, dgNil, dgCons, dgTup, dgLst, dgTxt, dgSet, dVar, dC, dG, dOp, dUn, dCallP, dCons, dNil, dTst, dAnd, dOr, dNot, dAndV, dOrV, dNotV, dIf, dFz, dTup, dLst, dCall, dChain, dSl, dONo, dOSome, dMs, dMi, dAsg, dPar, dDrop, dLc, dLc2, dYes, dRng1, dRng2, dEnum, dZip, dLam, dNewD, dRaise, dNext, dBrk, dCnt, DS.put, DS.wipe, DS.rest, wipeL, restL, val, slD, vals, frz1, put1, out1, pures, dargs, dback, getM, setM, M.frz, start0, par, dEnds, isRes, itemsD, p2i, addP, subP, mulP, divP, modP, powP, DL.ltP, DL.leP, DL.gtP, DL.geP, eqP, inP, isNP, ixP, lenP, isiP, allP, anyP, intP, listP, tupleP, sortedSP, reprP, slP, revP, negP, findP, countP, joinP, appP, insP, tyD, lenD, dMl, lcountP, isBP, dLSet, dLRg, List.getElem?_cons_zero, List.getElem?_cons_succ, List.set_cons_zero, List.set_cons_succ, List.cons_append, List.nil_append, List.replicate_succ, List.replicate_zero, List.length_cons, List.length_nil, Option.some.injEq, exists_eq_left', exists_eq_left, Wv.pu.injEq, D.sc.injEq, V.bl.injEq, V.int.injEq, V.str.injEq, Nat.reduceSub, Nat.reduceAdd, List.cons.injEq, and_true, true_and, exists_and_left, Option.map_some, if_true, if_false, Bool.false_eq_true, exists_eq_right, ex2a, ex2b, ex2c, D.tup.injEq, D.lst.injEq, M.lst.injEq, eq_self, kb_NoneType_bool, kb_NoneType_int, kb_NoneType_str, kb_NoneType_tuple, kb_NoneType_list, kb_NoneType_dict, kb_bool_bool, kb_bool_int, kb_bool_str, kb_bool_tuple, kb_bool_list, kb_bool_dict, kb_int_bool, kb_int_int, kb_int_str, kb_int_tuple, kb_int_list, kb_int_dict, kb_str_bool, kb_str_int, kb_str_str, kb_str_tuple, kb_str_list, kb_str_dict, kb_tuple_bool, kb_tuple_int, kb_tuple_str, kb_tuple_tuple, kb_tuple_list, kb_tuple_dict, kb_list_bool, kb_list_int, kb_list_str, kb_list_tuple, kb_list_list, kb_list_dict, kb_dict_bool, kb_dict_int, kb_dict_str, kb_dict_tuple, kb_dict_list, kb_dict_dict, hz, List.headD_cons, isWD] at q ⊢
      by_cases h1 : 1 ≤ z.length <;> by_cases h2 : z.length ≤ 32
      · have i1 : (1 : Int) ≤ (z.length : Int) := by omega
        have i2 : (z.length : Int) ≤ 32 := by omega
        simp only [i1, i2, dSet, dRet, dRetN, dIfS, dFor, dIt, dgName, dgNil, dgCons, dgTup, dgLst, dgTxt, dgSet, dVar, dC, dG, dOp, dUn, dCallP, dCons, dNil, dTst, dAnd, dOr, dNot, dAndV, dOrV, dNotV, dIf, dFz, dTup, dLst, dCall, dChain, dSl, dONo, dOSome, dMs, dMi, dAsg, dPar, dDrop, dLc, dLc2, dYes, dRng1, dRng2, dEnum, dZip, dLam, dNewD, dRaise, dNext, dBrk, dCnt, DS.put, DS.wipe, DS.rest, wipeL, restL, val, slD, vals, frz1, put1, out1, pures, dargs, dback, getM, setM, M.frz, start0, par, dEnds, isRes, itemsD, p2i, addP, subP, mulP, divP, modP, powP, DL.ltP, DL.leP, DL.gtP, DL.geP, eqP, inP, isNP, ixP, lenP, isiP, allP, anyP, intP, listP, tupleP, sortedSP, reprP, slP, revP, negP, findP, countP, joinP, appP, insP, tyD, lenD, dMl, lcountP, isBP, dLSet, dLRg, List.getElem?_cons_zero, List.getElem?_cons_succ, List.set_cons_zero, List.set_cons_succ, List.cons_append, List.nil_append, List.replicate_succ, List.replicate_zero, List.length_cons, List.length_nil, Option.some.injEq, exists_eq_left', exists_eq_left, Wv.pu.injEq, D.sc.injEq, V.bl.injEq, V.int.injEq, V.str.injEq, Nat.reduceSub, Nat.reduceAdd, List.cons.injEq, and_true, true_and, exists_and_left, Option.map_some, if_true, if_false, Bool.false_eq_true, exists_eq_right, ex2a, ex2b, ex2c, D.tup.injEq, D.lst.injEq, M.lst.injEq, eq_self, decide_true] at q ⊢
        refine comp_map (fun d => match d with
          | .sc (.str s) => (match one? s with
            | some c => DB' (decide (c ∈ ("01?" : Str).cps.toList))
            | none => DN')
          | _ => DN') _ _ _ (fun d hd K k => ?_) (by simp; exact hz) ?_
        · obtain ⟨c, hc, rfl⟩ := List.mem_map.mp hd
          simp only [dSet, dRet, dRetN, dIfS, dFor, dIt, dgName, dgNil, dgCons, dgTup, dgLst, dgTxt, dgSet, dVar, dC, dG, dOp, dUn, dCallP, dCons, dNil, dTst, dAnd, dOr, dNot, dAndV, dOrV, dNotV, dIf, dFz, dTup, dLst, dCall, dChain, dSl, dONo, dOSome, dMs, dMi, dAsg, dPar, dDrop, dLc, dLc2, dYes, dRng1, dRng2, dEnum, dZip, dLam, dNewD, dRaise, dNext, dBrk, dCnt, DS.put, DS.wipe, DS.rest, wipeL, restL, val, slD, vals, frz1, put1, out1, pures, dargs, dback, getM, setM, M.frz, start0, par, dEnds, isRes, itemsD, p2i, addP, subP, mulP, divP, modP, powP, DL.ltP, DL.leP, DL.gtP, DL.geP, eqP, inP, isNP, ixP, lenP, isiP, allP, anyP, intP, listP, tupleP, sortedSP, reprP, slP, revP, negP, findP, countP, joinP, appP, insP, tyD, lenD, dMl, lcountP, isBP, dLSet, dLRg, List.getElem?_cons_zero, List.getElem?_cons_succ, List.set_cons_zero, List.set_cons_succ, List.cons_append, List.nil_append, List.replicate_succ, List.replicate_zero, List.length_cons, List.length_nil, Option.some.injEq, exists_eq_left', exists_eq_left, Wv.pu.injEq, D.sc.injEq, V.bl.injEq, V.int.injEq, V.str.injEq, Nat.reduceSub, Nat.reduceAdd, List.cons.injEq, and_true, true_and, exists_and_left, Option.map_some, if_true, if_false, Bool.false_eq_true, exists_eq_right, ex2a, ex2b, ex2c, D.tup.injEq, D.lst.injEq, M.lst.injEq, eq_self, one?_sign, Bool.false_xor]
          exact k _ rfl
        · rw [List.nil_append, List.map_map]
          show ∃ bs, bools (z.cps.toList.map fun c => DB' (decide (c ∈ ("01?" : Str).cps.toList))) = some bs ∧ _
          rw [bools_mapF]
          refine ⟨_, rfl, ?_⟩
          have e : isW z = (z.cps.toList.map fun c => decide (c ∈ ("01?" : Str).cps.toList)).all id := by
            simp [isW, h1, h2, List.all_map]
          rw [e] at q
          exact q
      all_goals
        have e : isW z = false := by simp [isW, h1, h2]
        simp only [e] at q
        have i12 : ¬ ((1 : Int) ≤ (z.length : Int) ∧ (z.length : Int) ≤ 32) := by omega
        by_cases i1 : (1 : Int) ≤ (z.length : Int)
        · have i2 : ¬ (z.length : Int) ≤ 32 := fun h => i12 ⟨i1, h⟩
          simp only [i1, i2, dSet, dRet, dRetN, dIfS, dFor, dIt, dgName, dgNil, dgCons, dgTup, dgLst, dgTxt, dgSet, dVar, dC, dG, dOp, dUn, dCallP, dCons, dNil, dTst, dAnd, dOr, dNot, dAndV, dOrV, dNotV, dIf, dFz, dTup, dLst, dCall, dChain, dSl, dONo, dOSome, dMs, dMi, dAsg, dPar, dDrop, dLc, dLc2, dYes, dRng1, dRng2, dEnum, dZip, dLam, dNewD, dRaise, dNext, dBrk, dCnt, DS.put, DS.wipe, DS.rest, wipeL, restL, val, slD, vals, frz1, put1, out1, pures, dargs, dback, getM, setM, M.frz, start0, par, dEnds, isRes, itemsD, p2i, addP, subP, mulP, divP, modP, powP, DL.ltP, DL.leP, DL.gtP, DL.geP, eqP, inP, isNP, ixP, lenP, isiP, allP, anyP, intP, listP, tupleP, sortedSP, reprP, slP, revP, negP, findP, countP, joinP, appP, insP, tyD, lenD, dMl, lcountP, isBP, dLSet, dLRg, List.getElem?_cons_zero, List.getElem?_cons_succ, List.set_cons_zero, List.set_cons_succ, List.cons_append, List.nil_append, List.replicate_succ, List.replicate_zero, List.length_cons, List.length_nil, Option.some.injEq, exists_eq_left', exists_eq_left, Wv.pu.injEq, D.sc.injEq, V.bl.injEq, V.int.injEq, V.str.injEq, Nat.reduceSub, Nat.reduceAdd, List.cons.injEq, and_true, true_and, exists_and_left, Option.map_some, if_true, if_false, Bool.false_eq_true, exists_eq_right, ex2a, ex2b, ex2c, D.tup.injEq, D.lst.injEq, M.lst.injEq, eq_self, decide_true, decide_false] at q ⊢
          exact q
        · simp only [i1, dSet, dRet, dRetN, dIfS, dFor, dIt, dgName, dgNil, dgCons, dgTup, dgLst, dgTxt, dgSet, dVar, dC, dG, dOp, dUn, dCallP, dCons, dNil, dTst, dAnd, dOr, dNot, dAndV, dOrV, dNotV, dIf, dFz, dTup, dLst, dCall, dChain, dSl, dONo, dOSome, dMs, dMi, dAsg, dPar, dDrop, dLc, dLc2, dYes, dRng1, dRng2, dEnum, dZip, dLam, dNewD, dRaise, dNext, dBrk, dCnt, DS.put, DS.wipe, DS.rest, wipeL, restL, val, slD, vals, frz1, put1, out1, pures, dargs, dback, getM, setM, M.frz, start0, par, dEnds, isRes, itemsD, p2i, addP, subP, mulP, divP, modP, powP, DL.ltP, DL.leP, DL.gtP, DL.geP, eqP, inP, isNP, ixP, lenP, isiP, allP, anyP, intP, listP, tupleP, sortedSP, reprP, slP, revP, negP, findP, countP, joinP, appP, insP, tyD, lenD, dMl, lcountP, isBP, dLSet, dLRg, List.getElem?_cons_zero, List.getElem?_cons_succ, List.set_cons_zero, List.set_cons_succ, List.cons_append, List.nil_append, List.replicate_succ, List.replicate_zero, List.length_cons, List.length_nil, Option.some.injEq, exists_eq_left', exists_eq_left, Wv.pu.injEq, D.sc.injEq, V.bl.injEq, V.int.injEq, V.str.injEq, Nat.reduceSub, Nat.reduceAdd, List.cons.injEq, and_true, true_and, exists_and_left, Option.map_some, if_true, if_false, Bool.false_eq_true, exists_eq_right, ex2a, ex2b, ex2c, D.tup.injEq, D.lst.injEq, M.lst.injEq, eq_self, decide_true, decide_false] at q ⊢
          exact q
    | _ => simp only [List.map_cons, List.map_nil, t_is_word, N_is_word, dSet, dRet, dRetN, dIfS, dFor, dIt, dgName, dgNil, dgCons, dgTup, dgLst, dgTxt, dgSet, dVar, dC, dG, dOp, dUn, dCallP, dCons, dNil, dTst, dAnd, dOr, dNot, dAndV, dOrV, dNotV, dIf, dFz, dTup, dLst, dCall, dChain, dSl, dONo, dOSome, dMs, dMi, dAsg, dPar, dDrop, dLc, dLc2, dYes, dRng1, dRng2, dEnum, dZip, dLam, dNewD, dRaise, dNext, dBrk, dCnt, DS.put, DS.wipe, DS.rest, wipeL, restL, val, slD, vals, frz1, put1, out1, pures, dargs, dback, getM, setM, M.frz, start0, par, dEnds, isRes, itemsD, p2i, addP, subP, mulP, divP, modP, powP, DL.ltP, DL.leP, DL.gtP, DL.geP, eqP, inP, isNP, ixP, lenP, isiP, allP, anyP, intP, listP, tupleP, sortedSP, reprP, slP, revP, negP, findP, countP, joinP, appP, insP, tyD, lenD, dMl, lcountP, isBP, dLSet, dLRg, List.getElem?_cons_zero, List.getElem?_cons_succ, List.set_cons_zero, List.set_cons_succ, List.cons_append, List.nil_append, List.replicate_succ, List.replicate_zero, List.length_cons, List.length_nil, Option.some.injEq, exists_eq_left', exists_eq_left, Wv.pu.injEq, D.sc.injEq, V.bl.injEq, V.int.injEq, V.str.injEq, Nat.reduceSub, Nat.reduceAdd, List.cons.injEq, and_true, true_and, exists_and_left, Option.map_some, if_true, if_false, Bool.false_eq_true, exists_eq_right, ex2a, ex2b, ex2c, D.tup.injEq, D.lst.injEq, M.lst.injEq, eq_self, kb_NoneType_bool, kb_NoneType_int, kb_NoneType_str, kb_NoneType_tuple, kb_NoneType_list, kb_NoneType_dict, kb_bool_bool, kb_bool_int, kb_bool_str, kb_bool_tuple, kb_bool_list, kb_bool_dict, kb_int_bool, kb_int_int, kb_int_str, kb_int_tuple, kb_int_list, kb_int_dict, kb_str_bool, kb_str_int, kb_str_str, kb_str_tuple, kb_str_list, kb_str_dict, kb_tuple_bool, kb_tuple_int, kb_tuple_str, kb_tuple_tuple, kb_tuple_list, kb_tuple_dict, kb_list_bool, kb_list_int, kb_list_str, kb_list_tuple, kb_list_list, kb_list_dict, kb_dict_bool, kb_dict_int, kb_dict_str, kb_dict_tuple, kb_dict_list, kb_dict_dict, List.headD_cons, isWD, DB'] at q ht ⊢ <;> first | exact q | cases ht
  | scr ns => cases ht
  | _ => simp only [List.map_cons, List.map_nil, t_is_word, N_is_word, dSet, dRet, dRetN, dIfS, dFor, dIt, dgName, dgNil, dgCons, dgTup, dgLst, dgTxt, dgSet, dVar, dC, dG, dOp, dUn, dCallP, dCons, dNil, dTst, dAnd, dOr, dNot, dAndV, dOrV, dNotV, dIf, dFz, dTup, dLst, dCall, dChain, dSl, dONo, dOSome, dMs, dMi, dAsg, dPar, dDrop, dLc, dLc2, dYes, dRng1, dRng2, dEnum, dZip, dLam, dNewD, dRaise, dNext, dBrk, dCnt, DS.put, DS.wipe, DS.rest, wipeL, restL, val, slD, vals, frz1, put1, out1, pures, dargs, dback, getM, setM, M.frz, start0, par, dEnds, isRes, itemsD, p2i, addP, subP, mulP, divP, modP, powP, DL.ltP, DL.leP, DL.gtP, DL.geP, eqP, inP, isNP, ixP, lenP, isiP, allP, anyP, intP, listP, tupleP, sortedSP, reprP, slP, revP, negP, findP, countP, joinP, appP, insP, tyD, lenD, dMl, lcountP, isBP, dLSet, dLRg, List.getElem?_cons_zero, List.getElem?_cons_succ, List.set_cons_zero, List.set_cons_succ, List.cons_append, List.nil_append, List.replicate_succ, List.replicate_zero, List.length_cons, List.length_nil, Option.some.injEq, exists_eq_left', exists_eq_left, Wv.pu.injEq, D.sc.injEq, V.bl.injEq, V.int.injEq, V.str.injEq, Nat.reduceSub, Nat.reduceAdd, List.cons.injEq, and_true, true_and, exists_and_left, Option.map_some, if_true, if_false, Bool.false_eq_true, exists_eq_right, ex2a, ex2b, ex2c, D.tup.injEq, D.lst.injEq, M.lst.injEq, eq_self, kb_NoneType_bool, kb_NoneType_int, kb_NoneType_str, kb_NoneType_tuple, kb_NoneType_list, kb_NoneType_dict, kb_bool_bool, kb_bool_int, kb_bool_str, kb_bool_tuple, kb_bool_list, kb_bool_dict, kb_int_bool, kb_int_int, kb_int_str, kb_int_tuple, kb_int_list, kb_int_dict, kb_str_bool, kb_str_int, kb_str_str, kb_str_tuple, kb_str_list, kb_str_dict, kb_tuple_bool, kb_tuple_int, kb_tuple_str, kb_tuple_tuple, kb_tuple_list, kb_tuple_dict, kb_list_bool, kb_list_int, kb_list_str, kb_list_tuple, kb_list_list, kb_list_dict, kb_dict_bool, kb_dict_int, kb_dict_str, kb_dict_tuple, kb_dict_list, kb_dict_dict, List.headD_cons, isWD, DB'] at q ht ⊢ <;> exact q
/-- a call of such a def on frozen data -/
theorem call_ok {n : Nat} {pre : List D → Prop} {f : List D → Except Str Wv} {ws : List Wv} {ds : List D} {Q : Wv → List Wv → Prop} {Y : Value → List Wv → Prop} (e : ws = ds.map .pu) (hl : ds.length = n) (hp : pre ds) (h : match f ds with
  | .ok w => isRes w ∧ Q w ws
  | .error c => Y (.ref (He.ga K c)) ws) : spX K n pre f ws Q Y := by
  subst e
  refine ⟨ds, ?_, hl, hp, h⟩
  clear hl hp h
  induction ds with
  | nil => rfl
  | cons d ds ih => simp [pures, ih]
theorem r_need_word (h : sp_need_word K ws Q Y) : t_need_word K (dEnds Q Y) (start0 N_need_word ws) := by
  obtain ⟨ds, e, hl, hp, q⟩ := h
  obtain ⟨d, rfl⟩ := len1 hl
  have := pures_len e
  subst this
  simp only [List.map_cons, List.map_nil, t_need_word, N_need_word, dSeq, dSet, dRet, dRetN, dIfS, dFor, dIt, dgName, dgNil, dgCons, dgTup, dgLst, dgTxt, dgSet, dVar, dC, dG, dOp, dUn, dCallP, dCons, dNil, dTst, dAnd, dOr, dNot, dAndV, dOrV, dNotV, dIf, dFz, dTup, dLst, dCall, dChain, dSl, dONo, dOSome, dMs, dMi, dAsg, dPar, dDrop, dLc, dLc2, dYes, dRng1, dRng2, dEnum, dZip, dLam, dNewD, dRaise, dNext, dBrk, dCnt, DS.put, DS.wipe, DS.rest, wipeL, restL, val, slD, vals, frz1, put1, out1, pures, dargs, dback, getM, setM, M.frz, start0, par, dEnds, isRes, itemsD, p2i, addP, subP, mulP, divP, modP, powP, DL.ltP, DL.leP, DL.gtP, DL.geP, eqP, inP, isNP, ixP, lenP, isiP, allP, anyP, intP, listP, tupleP, sortedSP, reprP, slP, revP, negP, findP, countP, joinP, appP, insP, tyD, lenD, dMl, lcountP, isBP, dLSet, dLRg, List.getElem?_cons_zero, List.getElem?_cons_succ, List.set_cons_zero, List.set_cons_succ, List.cons_append, List.nil_append, List.replicate_succ, List.replicate_zero, List.length_cons, List.length_nil, Option.some.injEq, exists_eq_left', exists_eq_left, Wv.pu.injEq, D.sc.injEq, V.bl.injEq, V.int.injEq, V.str.injEq, Nat.reduceSub, Nat.reduceAdd, List.cons.injEq, and_true, true_and, exists_and_left, Option.map_some, if_true, if_false, Bool.false_eq_true, exists_eq_right, ex2a, ex2b, ex2c, D.tup.injEq, D.lst.injEq, M.lst.injEq, eq_self, List.headD_cons] at q ⊢
  refine call_ok (ds := [d]) rfl rfl hp ?_
  simp only [dSet, dRet, dRetN, dIfS, dFor, dIt, dgName, dgNil, dgCons, dgTup, dgLst, dgTxt, dgSet, dVar, dC, dG, dOp, dUn, dCallP, dCons, dNil, dTst, dAnd, dOr, dNot, dAndV, dOrV, dNotV, dIf, dFz, dTup, dLst, dCall, dChain, dSl, dONo, dOSome, dMs, dMi, dAsg, dPar, dDrop, dLc, dLc2, dYes, dRng1, dRng2, dEnum, dZip, dLam, dNewD, dRaise, dNext, dBrk, dCnt, DS.put, DS.wipe, DS.rest, wipeL, restL, val, slD, vals, frz1, put1, out1, pures, dargs, dback, getM, setM, M.frz, start0, par, dEnds, isRes, itemsD, p2i, addP, subP, mulP, divP, modP, powP, DL.ltP, DL.leP, DL.gtP, DL.geP, eqP, inP, isNP, ixP, lenP, isiP, allP, anyP, intP, listP, tupleP, sortedSP, reprP, slP, revP, negP, findP, countP, joinP, appP, insP, tyD, lenD, dMl, lcountP, isBP, dLSet, dLRg, List.getElem?_cons_zero, List.getElem?_cons_succ, List.set_cons_zero, List.set_cons_succ, List.cons_append, List.nil_append, List.replicate_succ, List.replicate_zero, List.length_cons, List.length_nil, Option.some.injEq, exists_eq_left', exists_eq_left, Wv.pu.injEq, D.sc.injEq, V.bl.injEq, V.int.injEq, V.str.injEq, Nat.reduceSub, Nat.reduceAdd, List.cons.injEq, and_true, true_and, exists_and_left, Option.map_some, if_true, if_false, Bool.false_eq_true, exists_eq_right, ex2a, ex2b, ex2c, D.tup.injEq, D.lst.injEq, M.lst.injEq, eq_self, List.headD_cons, DB']
  cases hw : isWD d <;> simp [hw] at q ⊢ <;> exact q
theorem r_need_rounds (h : sp_need_rounds K ws Q Y) : t_need_rounds K (dEnds Q Y) (start0 N_need_rounds ws) := by
  obtain ⟨ds, e, hl, hp, q⟩ := h
  obtain ⟨d, rfl⟩ := len1 hl
  obtain ⟨⟨t, ht⟩, hz⟩ := hp d (by simp)
  have := pures_len e
  subst this
  simp only [List.map_cons, List.map_nil, t_need_rounds, N_need_rounds, dSeq, dSet, dRet, dRetN, dIfS, dFor, dIt, dgName, dgNil, dgCons, dgTup, dgLst, dgTxt, dgSet, dVar, dC, dG, dOp, dUn, dCallP, dCons, dNil, dTst, dAnd, dOr, dNot, dAndV, dOrV, dNotV, dIf, dFz, dTup, dLst, dCall, dChain, dSl, dONo, dOSome, dMs, dMi, dAsg, dPar, dDrop, dLc, dLc2, dYes, dRng1, dRng2, dEnum, dZip, dLam, dNewD, dRaise, dNext, dBrk, dCnt, DS.put, DS.wipe, DS.rest, wipeL, restL, val, slD, vals, frz1, put1, out1, pures, dargs, dback, getM, setM, M.frz, start0, par, dEnds, isRes, itemsD, p2i, addP, subP, mulP, divP, modP, powP, DL.ltP, DL.leP, DL.gtP, DL.geP, eqP, inP, isNP, ixP, lenP, isiP, allP, anyP, intP, listP, tupleP, sortedSP, reprP, slP, revP, negP, findP, countP, joinP, appP, insP, tyD, lenD, dMl, lcountP, isBP, dLSet, dLRg, List.getElem?_cons_zero, List.getElem?_cons_succ, List.set_cons_zero, List.set_cons_succ, List.cons_append, List.nil_append, List.replicate_succ, List.replicate_zero, List.length_cons, List.length_nil, Option.some.injEq, exists_eq_left', exists_eq_left, Wv.pu.injEq, D.sc.injEq, V.bl.injEq, V.int.injEq, V.str.injEq, Nat.reduceSub, Nat.reduceAdd, List.cons.injEq, and_true, true_and, exists_and_left, Option.map_some, if_true, if_false, Bool.false_eq_true, exists_eq_right, ex2a, ex2b, ex2c, D.tup.injEq, D.lst.injEq, M.lst.injEq, eq_self, List.headD_cons] at q ⊢
  refine call_ok (ds := [d, DI' 1, DI' 8]) rfl rfl ⟨d, t, 1, 8, rfl, ht⟩ ?_
  have hb : bndF [d, DI' 1, DI' 8] = .ok (.pu (DB' (isRD d))) := by
    cases d with
    | sc v => cases v <;> rfl
    | _ => rfl
  rw [hb]
  simp only [dSet, dRet, dRetN, dIfS, dFor, dIt, dgName, dgNil, dgCons, dgTup, dgLst, dgTxt, dgSet, dVar, dC, dG, dOp, dUn, dCallP, dCons, dNil, dTst, dAnd, dOr, dNot, dAndV, dOrV, dNotV, dIf, dFz, dTup, dLst, dCall, dChain, dSl, dONo, dOSome, dMs, dMi, dAsg, dPar, dDrop, dLc, dLc2, dYes, dRng1, dRng2, dEnum, dZip, dLam, dNewD, dRaise, dNext, dBrk, dCnt, DS.put, DS.wipe, DS.rest, wipeL, restL, val, slD, vals, frz1, put1, out1, pures, dargs, dback, getM, setM, M.frz, start0, par, dEnds, isRes, itemsD, p2i, addP, subP, mulP, divP, modP, powP, DL.ltP, DL.leP, DL.gtP, DL.geP, eqP, inP, isNP, ixP, lenP, isiP, allP, anyP, intP, listP, tupleP, sortedSP, reprP, slP, revP, negP, findP, countP, joinP, appP, insP, tyD, lenD, dMl, lcountP, isBP, dLSet, dLRg, List.getElem?_cons_zero, List.getElem?_cons_succ, List.set_cons_zero, List.set_cons_succ, List.cons_append, List.nil_append, List.replicate_succ, List.replicate_zero, List.length_cons, List.length_nil, Option.some.injEq, exists_eq_left', exists_eq_left, Wv.pu.injEq, D.sc.injEq, V.bl.injEq, V.int.injEq, V.str.injEq, Nat.reduceSub, Nat.reduceAdd, List.cons.injEq, and_true, true_and, exists_and_left, Option.map_some, if_true, if_false, Bool.false_eq_true, exists_eq_right, ex2a, ex2b, ex2c, D.tup.injEq, D.lst.injEq, M.lst.injEq, eq_self, List.headD_cons, DB']
  cases hw : isRD d <;> simp [hw] at q ⊢ <;> exact q
theorem r_is_kind (h : sp_is_kind K ws Q Y) : t_is_kind K (dEnds Q Y) (start0 N_is_kind ws) := by
  obtain ⟨ds, e, hl, hp, q⟩ := h
  obtain ⟨d, rfl⟩ := len1 hl
  obtain ⟨⟨t, ht⟩, hz⟩ := hp d (by simp)
  have := pures_len e
  subst this
  cases d with
  | sc v =>
    cases v with
    | str z =>
      simp only [List.map_cons, List.map_nil, t_is_kind, N_is_kind, dSet, dRet, dRetN, dIfS, dFor, dIt, dgName, dgNil, dgCons, dgTup, dgLst, dgTxt, dgSet, dVar, dC, dG, dOp, dUn, dCallP, dCons, dNil, dTst, dAnd, dOr, dNot, dAndV, dOrV, dNotV, dIf, dFz, dTup, dLst, dCall, dChain, dSl, dONo, dOSome, dMs, dMi, dAsg, dPar, dDrop, dLc, dLc2, dYes, dRng1, dRng2, dEnum, dZip, dLam, dNewD, dRaise, dNext, dBrk, dCnt, DS.put, DS.wipe, DS.rest, wipeL, restL, val, slD, vals, frz1, put1, out1, pures, dargs, dback, getM, setM, M.frz, start0, par, dEnds, isRes, itemsD, p2i, addP, subP, mulP, divP, modP, powP, DL.ltP, DL.leP, DL.gtP, DL.geP, eqP, inP, isNP, ixP, lenP, isiP, allP, anyP, intP, listP, tupleP, sortedSP, reprP, slP, revP, negP, findP, countP, joinP, appP, insP, tyD, lenD, dMl, lcountP, isBP, dLSet, dLRg, List.getElem?_cons_zero, List.getElem?_cons_succ, List.set_cons_zero, List.set_cons_succ, List.cons_append, List.nil_append, List.replicate_succ, List.replicate_zero, List.length_cons, List.length_nil, Option.some.injEq, exists_eq_left', exists_eq_left, Wv.pu.injEq, D.sc.injEq, V.bl.injEq, V.int.injEq, V.str.injEq, Nat.reduceSub, Nat.reduceAdd, List.cons.injEq, and_true, true_and, exists_and_left, Option.map_some, if_true, if_false, Bool.false_eq_true, exists_eq_right, ex2a, ex2b, ex2c, D.tup.injEq, D.lst.injEq, M.lst.injEq, eq_self, kb_NoneType_bool, kb_NoneType_int, kb_NoneType_str, kb_NoneType_tuple, kb_NoneType_list, kb_NoneType_dict, kb_bool_bool, kb_bool_int, kb_bool_str, kb_bool_tuple, kb_bool_list, kb_bool_dict, kb_int_bool, kb_int_int, kb_int_str, kb_int_tuple, kb_int_list, kb_int_dict, kb_str_bool, kb_str_int, kb_str_str, kb_str_tuple, kb_str_list, kb_str_dict, kb_tuple_bool, kb_tuple_int, kb_tuple_str, kb_tuple_tuple, kb_tuple_list, kb_tuple_dict, kb_list_bool, kb_list_int, kb_list_str, kb_list_tuple, kb_list_list, kb_list_dict, kb_dict_bool, kb_dict_int, kb_dict_str, kb_dict_tuple, kb_dict_list, kb_dict_dict, List.headD_cons, isKD, tup_KINDS, flats, flatV, He.Dv.v, inV] at q ⊢
      have e : (false ^^ [V.str (Str.ofString "plain"), V.str (Str.ofString "low"), V.str (Str.ofString "high")].any fun y => eqV y (V.str z)) = isK z := by
        simp only [isK, eqV, List.any_cons, List.any_nil, Bool.false_xor, Bool.or_false]
        rw [BEq.comm (a := z), BEq.comm (a := z), BEq.comm (a := z)]
      rw [e]
      exact q
    | _ => simp only [List.map_cons, List.map_nil, t_is_kind, N_is_kind, dSet, dRet, dRetN, dIfS, dFor, dIt, dgName, dgNil, dgCons, dgTup, dgLst, dgTxt, dgSet, dVar, dC, dG, dOp, dUn, dCallP, dCons, dNil, dTst, dAnd, dOr, dNot, dAndV, dOrV, dNotV, dIf, dFz, dTup, dLst, dCall, dChain, dSl, dONo, dOSome, dMs, dMi, dAsg, dPar, dDrop, dLc, dLc2, dYes, dRng1, dRng2, dEnum, dZip, dLam, dNewD, dRaise, dNext, dBrk, dCnt, DS.put, DS.wipe, DS.rest, wipeL, restL, val, slD, vals, frz1, put1, out1, pures, dargs, dback, getM, setM, M.frz, start0, par, dEnds, isRes, itemsD, p2i, addP, subP, mulP, divP, modP, powP, DL.ltP, DL.leP, DL.gtP, DL.geP, eqP, inP, isNP, ixP, lenP, isiP, allP, anyP, intP, listP, tupleP, sortedSP, reprP, slP, revP, negP, findP, countP, joinP, appP, insP, tyD, lenD, dMl, lcountP, isBP, dLSet, dLRg, List.getElem?_cons_zero, List.getElem?_cons_succ, List.set_cons_zero, List.set_cons_succ, List.cons_append, List.nil_append, List.replicate_succ, List.replicate_zero, List.length_cons, List.length_nil, Option.some.injEq, exists_eq_left', exists_eq_left, Wv.pu.injEq, D.sc.injEq, V.bl.injEq, V.int.injEq, V.str.injEq, Nat.reduceSub, Nat.reduceAdd, List.cons.injEq, and_true, true_and, exists_and_left, Option.map_some, if_true, if_false, Bool.false_eq_true, exists_eq_right, ex2a, ex2b, ex2c, D.tup.injEq, D.lst.injEq, M.lst.injEq, eq_self, kb_NoneType_bool, kb_NoneType_int, kb_NoneType_str, kb_NoneType_tuple, kb_NoneType_list, kb_NoneType_dict, kb_bool_bool, kb_bool_int, kb_bool_str, kb_bool_tuple, kb_bool_list, kb_bool_dict, kb_int_bool, kb_int_int, kb_int_str, kb_int_tuple, kb_int_list, kb_int_dict, kb_str_bool, kb_str_int, kb_str_str, kb_str_tuple, kb_str_list, kb_str_dict, kb_tuple_bool, kb_tuple_int, kb_tuple_str, kb_tuple_tuple, kb_tuple_list, kb_tuple_dict, kb_list_bool, kb_list_int, kb_list_str, kb_list_tuple, kb_list_list, kb_list_dict, kb_dict_bool, kb_dict_int, kb_dict_str, kb_dict_tuple, kb_dict_list, kb_dict_dict, List.headD_cons, isKD, DB'] at q ht ⊢ <;> first | exact q | cases ht
  | scr ns => cases ht
  | _ => simp only [List.map_cons, List.map_nil, t_is_kind, N_is_kind, dSet, dRet, dRetN, dIfS, dFor, dIt, dgName, dgNil, dgCons, dgTup, dgLst, dgTxt, dgSet, dVar, dC, dG, dOp, dUn, dCallP, dCons, dNil, dTst, dAnd, dOr, dNot, dAndV, dOrV, dNotV, dIf, dFz, dTup, dLst, dCall, dChain, dSl, dONo, dOSome, dMs, dMi, dAsg, dPar, dDrop, dLc, dLc2, dYes, dRng1, dRng2, dEnum, dZip, dLam, dNewD, dRaise, dNext, dBrk, dCnt, DS.put, DS.wipe, DS.rest, wipeL, restL, val, slD, vals, frz1, put1, out1, pures, dargs, dback, getM, setM, M.frz, start0, par, dEnds, isRes, itemsD, p2i, addP, subP, mulP, divP, modP, powP, DL.ltP, DL.leP, DL.gtP, DL.geP, eqP, inP, isNP, ixP, lenP, isiP, allP, anyP, intP, listP, tupleP, sortedSP, reprP, slP, revP, negP, findP, countP, joinP, appP, insP, tyD, lenD, dMl, lcountP, isBP, dLSet, dLRg, List.getElem?_cons_zero, List.getElem?_cons_succ, List.set_cons_zero, List.set_cons_succ, List.cons_append, List.nil_append, List.replicate_succ, List.replicate_zero, List.length_cons, List.length_nil, Option.some.injEq, exists_eq_left', exists_eq_left, Wv.pu.injEq, D.sc.injEq, V.bl.injEq, V.int.injEq, V.str.injEq, Nat.reduceSub, Nat.reduceAdd, List.cons.injEq, and_true, true_and, exists_and_left, Option.map_some, if_true, if_false, Bool.false_eq_true, exists_eq_right, ex2a, ex2b, ex2c, D.tup.injEq, D.lst.injEq, M.lst.injEq, eq_self, kb_NoneType_bool, kb_NoneType_int, kb_NoneType_str, kb_NoneType_tuple, kb_NoneType_list, kb_NoneType_dict, kb_bool_bool, kb_bool_int, kb_bool_str, kb_bool_tuple, kb_bool_list, kb_bool_dict, kb_int_bool, kb_int_int, kb_int_str, kb_int_tuple, kb_int_list, kb_int_dict, kb_str_bool, kb_str_int, kb_str_str, kb_str_tuple, kb_str_list, kb_str_dict, kb_tuple_bool, kb_tuple_int, kb_tuple_str, kb_tuple_tuple, kb_tuple_list, kb_tuple_dict, kb_list_bool, kb_list_int, kb_list_str, kb_list_tuple, kb_list_list, kb_list_dict, kb_dict_bool, kb_dict_int, kb_dict_str, kb_dict_tuple, kb_dict_list, kb_dict_dict, List.headD_cons, isKD, DB'] at q ht ⊢ <;> exact q
theorem r_reads (h : sp_reads K ws Q Y) : t_reads K (dEnds Q Y) (start0 N_reads ws) := by
  obtain ⟨ds, e, hl, hp, q⟩ := h
  obtain ⟨a, b, c, rfl⟩ := len3 hl
  have ha := hp a (by simp)
  have hb := hp b (by simp)
  have hc := hp c (by simp)
  have := pures_len e
  subst this
  simp only [List.map_cons, List.map_nil, List.getD_cons_zero, List.getD_cons_succ] at q ⊢
  unfold t_reads
  refine seq_o fun N hN => ?_
  simp only [N_reads, dSet, dRet, dRetN, dIfS, dFor, dIt, dgName, dgNil, dgCons, dgTup, dgLst, dgTxt, dgSet, dVar, dC, dG, dOp, dUn, dCallP, dCons, dNil, dTst, dAnd, dOr, dNot, dAndV, dOrV, dNotV, dIf, dFz, dTup, dLst, dCall, dChain, dSl, dONo, dOSome, dMs, dMi, dAsg, dPar, dDrop, dLc, dLc2, dYes, dRng1, dRng2, dEnum, dZip, dLam, dNewD, dRaise, dNext, dBrk, dCnt, DS.put, DS.wipe, DS.rest, wipeL, restL, val, slD, vals, frz1, put1, out1, pures, dargs, dback, getM, setM, M.frz, start0, par, dEnds, isRes, itemsD, p2i, addP, subP, mulP, divP, modP, powP, DL.ltP, DL.leP, DL.gtP, DL.geP, eqP, inP, isNP, ixP, lenP, isiP, allP, anyP, intP, listP, tupleP, sortedSP, reprP, slP, revP, negP, findP, countP, joinP, appP, insP, tyD, lenD, dMl, lcountP, isBP, dLSet, dLRg, List.getElem?_cons_zero, List.getElem?_cons_succ, List.set_cons_zero, List.set_cons_succ, List.cons_append, List.nil_append, List.replicate_succ, List.replicate_zero, List.length_cons, List.length_nil, Option.some.injEq, exists_eq_left', exists_eq_left, Wv.pu.injEq, D.sc.injEq, V.bl.injEq, V.int.injEq, V.str.injEq, Nat.reduceSub, Nat.reduceAdd, List.cons.injEq, and_true, true_and, exists_and_left, Option.map_some, if_true, if_false, Bool.false_eq_true, exists_eq_right, ex2a, ex2b, ex2c, D.tup.injEq, D.lst.injEq, M.lst.injEq, eq_self]
  refine call_ok (ds := [a]) rfl rfl (by simpa using ha) ?_
  simp only [dSet, dRet, dRetN, dIfS, dFor, dIt, dgName, dgNil, dgCons, dgTup, dgLst, dgTxt, dgSet, dVar, dC, dG, dOp, dUn, dCallP, dCons, dNil, dTst, dAnd, dOr, dNot, dAndV, dOrV, dNotV, dIf, dFz, dTup, dLst, dCall, dChain, dSl, dONo, dOSome, dMs, dMi, dAsg, dPar, dDrop, dLc, dLc2, dYes, dRng1, dRng2, dEnum, dZip, dLam, dNewD, dRaise, dNext, dBrk, dCnt, DS.put, DS.wipe, DS.rest, wipeL, restL, val, slD, vals, frz1, put1, out1, pures, dargs, dback, getM, setM, M.frz, start0, par, dEnds, isRes, itemsD, p2i, addP, subP, mulP, divP, modP, powP, DL.ltP, DL.leP, DL.gtP, DL.geP, eqP, inP, isNP, ixP, lenP, isiP, allP, anyP, intP, listP, tupleP, sortedSP, reprP, slP, revP, negP, findP, countP, joinP, appP, insP, tyD, lenD, dMl, lcountP, isBP, dLSet, dLRg, List.getElem?_cons_zero, List.getElem?_cons_succ, List.set_cons_zero, List.set_cons_succ, List.cons_append, List.nil_append, List.replicate_succ, List.replicate_zero, List.length_cons, List.length_nil, Option.some.injEq, exists_eq_left', exists_eq_left, Wv.pu.injEq, D.sc.injEq, V.bl.injEq, V.int.injEq, V.str.injEq, Nat.reduceSub, Nat.reduceAdd, List.cons.injEq, and_true, true_and, exists_and_left, Option.map_some, if_true, if_false, Bool.false_eq_true, exists_eq_right, ex2a, ex2b, ex2c, D.tup.injEq, D.lst.injEq, M.lst.injEq, eq_self, List.headD_cons, DB']
  cases hk : isKD a with
  | false => simp only [hk, dSet, dRet, dRetN, dIfS, dFor, dIt, dgName, dgNil, dgCons, dgTup, dgLst, dgTxt, dgSet, dVar, dC, dG, dOp, dUn, dCallP, dCons, dNil, dTst, dAnd, dOr, dNot, dAndV, dOrV, dNotV, dIf, dFz, dTup, dLst, dCall, dChain, dSl, dONo, dOSome, dMs, dMi, dAsg, dPar, dDrop, dLc, dLc2, dYes, dRng1, dRng2, dEnum, dZip, dLam, dNewD, dRaise, dNext, dBrk, dCnt, DS.put, DS.wipe, DS.rest, wipeL, restL, val, slD, vals, frz1, put1, out1, pures, dargs, dback, getM, setM, M.frz, start0, par, dEnds, isRes, itemsD, p2i, addP, subP, mulP, divP, modP, powP, DL.ltP, DL.leP, DL.gtP, DL.geP, eqP, inP, isNP, ixP, lenP, isiP, allP, anyP, intP, listP, tupleP, sortedSP, reprP, slP, revP, negP, findP, countP, joinP, appP, insP, tyD, lenD, dMl, lcountP, isBP, dLSet, dLRg, List.getElem?_cons_zero, List.getElem?_cons_succ, List.set_cons_zero, List.set_cons_succ, List.cons_append, List.nil_append, List.replicate_succ, List.replicate_zero, List.length_cons, List.length_nil, Option.some.injEq, exists_eq_left', exists_eq_left, Wv.pu.injEq, D.sc.injEq, V.bl.injEq, V.int.injEq, V.str.injEq, Nat.reduceSub, Nat.reduceAdd, List.cons.injEq, and_true, true_and, exists_and_left, Option.map_some, if_true, if_false, Bool.false_eq_true, exists_eq_right, ex2a, ex2b, ex2c, D.tup.injEq, D.lst.injEq, M.lst.injEq, eq_self, Bool.not_false] at q ⊢; exact q
  | true =>
    simp only [hk, dSet, dRet, dRetN, dIfS, dFor, dIt, dgName, dgNil, dgCons, dgTup, dgLst, dgTxt, dgSet, dVar, dC, dG, dOp, dUn, dCallP, dCons, dNil, dTst, dAnd, dOr, dNot, dAndV, dOrV, dNotV, dIf, dFz, dTup, dLst, dCall, dChain, dSl, dONo, dOSome, dMs, dMi, dAsg, dPar, dDrop, dLc, dLc2, dYes, dRng1, dRng2, dEnum, dZip, dLam, dNewD, dRaise, dNext, dBrk, dCnt, DS.put, DS.wipe, DS.rest, wipeL, restL, val, slD, vals, frz1, put1, out1, pures, dargs, dback, getM, setM, M.frz, start0, par, dEnds, isRes, itemsD, p2i, addP, subP, mulP, divP, modP, powP, DL.ltP, DL.leP, DL.gtP, DL.geP, eqP, inP, isNP, ixP, lenP, isiP, allP, anyP, intP, listP, tupleP, sortedSP, reprP, slP, revP, negP, findP, countP, joinP, appP, insP, tyD, lenD, dMl, lcountP, isBP, dLSet, dLRg, List.getElem?_cons_zero, List.getElem?_cons_succ, List.set_cons_zero, List.set_cons_succ, List.cons_append, List.nil_append, List.replicate_succ, List.replicate_zero, List.length_cons, List.length_nil, Option.some.injEq, exists_eq_left', exists_eq_left, Wv.pu.injEq, D.sc.injEq, V.bl.injEq, V.int.injEq, V.str.injEq, Nat.reduceSub, Nat.reduceAdd, List.cons.injEq, and_true, true_and, exists_and_left, Option.map_some, if_true, if_false, Bool.false_eq_true, exists_eq_right, ex2a, ex2b, ex2c, D.tup.injEq, D.lst.injEq, M.lst.injEq, eq_self, Bool.not_true, Bool.not_false] at q ⊢
    subst hN
    refine seq_o fun N hN => ?_
    obtain ⟨⟨t, ht⟩, hz⟩ := hb
    have rest : isBitD b = true → N ⟨[some (.pu a), some (.pu b), some (.pu c)], [.pu a, .pu b, .pu c]⟩ := fun hb => by
      subst hN
      refine seq_o fun N hN => ?_
      simp only [dSet, dRet, dRetN, dIfS, dFor, dIt, dgName, dgNil, dgCons, dgTup, dgLst, dgTxt, dgSet, dVar, dC, dG, dOp, dUn, dCallP, dCons, dNil, dTst, dAnd, dOr, dNot, dAndV, dOrV, dNotV, dIf, dFz, dTup, dLst, dCall, dChain, dSl, dONo, dOSome, dMs, dMi, dAsg, dPar, dDrop, dLc, dLc2, dYes, dRng1, dRng2, dEnum, dZip, dLam, dNewD, dRaise, dNext, dBrk, dCnt, DS.put, DS.wipe, DS.rest, wipeL, restL, val, slD, vals, frz1, put1, out1, pures, dargs, dback, getM, setM, M.frz, start0, par, dEnds, isRes, itemsD, p2i, addP, subP, mulP, divP, modP, powP, DL.ltP, DL.leP, DL.gtP, DL.geP, eqP, inP, isNP, ixP, lenP, isiP, allP, anyP, intP, listP, tupleP, sortedSP, reprP, slP, revP, negP, findP, countP, joinP, appP, insP, tyD, lenD, dMl, lcountP, isBP, dLSet, dLRg, List.getElem?_cons_zero, List.getElem?_cons_succ, List.set_cons_zero, List.set_cons_succ, List.cons_append, List.nil_append, List.replicate_succ, List.replicate_zero, List.length_cons, List.length_nil, Option.some.injEq, exists_eq_left', exists_eq_left, Wv.pu.injEq, D.sc.injEq, V.bl.injEq, V.int.injEq, V.str.injEq, Nat.reduceSub, Nat.reduceAdd, List.cons.injEq, and_true, true_and, exists_and_left, Option.map_some, if_true, if_false, Bool.false_eq_true, exists_eq_right, ex2a, ex2b, ex2c, D.tup.injEq, D.lst.injEq, M.lst.injEq, eq_self, hb] at q ⊢
      refine call_ok (ds := [c]) rfl rfl (by simpa using hc) ?_
      simp only [List.headD_cons]
      by_cases hr : isRD c = true
      rotate_left
      · simp only [hr, dSet, dRet, dRetN, dIfS, dFor, dIt, dgName, dgNil, dgCons, dgTup, dgLst, dgTxt, dgSet, dVar, dC, dG, dOp, dUn, dCallP, dCons, dNil, dTst, dAnd, dOr, dNot, dAndV, dOrV, dNotV, dIf, dFz, dTup, dLst, dCall, dChain, dSl, dONo, dOSome, dMs, dMi, dAsg, dPar, dDrop, dLc, dLc2, dYes, dRng1, dRng2, dEnum, dZip, dLam, dNewD, dRaise, dNext, dBrk, dCnt, DS.put, DS.wipe, DS.rest, wipeL, restL, val, slD, vals, frz1, put1, out1, pures, dargs, dback, getM, setM, M.frz, start0, par, dEnds, isRes, itemsD, p2i, addP, subP, mulP, divP, modP, powP, DL.ltP, DL.leP, DL.gtP, DL.geP, eqP, inP, isNP, ixP, lenP, isiP, allP, anyP, intP, listP, tupleP, sortedSP, reprP, slP, revP, negP, findP, countP, joinP, appP, insP, tyD, lenD, dMl, lcountP, isBP, dLSet, dLRg, List.getElem?_cons_zero, List.getElem?_cons_succ, List.set_cons_zero, List.set_cons_succ, List.cons_append, List.nil_append, List.replicate_succ, List.replicate_zero, List.length_cons, List.length_nil, Option.some.injEq, exists_eq_left', exists_eq_left, Wv.pu.injEq, D.sc.injEq, V.bl.injEq, V.int.injEq, V.str.injEq, Nat.reduceSub, Nat.reduceAdd, List.cons.injEq, and_true, true_and, exists_and_left, Option.map_some, if_true, if_false, Bool.false_eq_true, exists_eq_right, ex2a, ex2b, ex2c, D.tup.injEq, D.lst.injEq, M.lst.injEq, eq_self] at q ⊢
        exact q
      · simp only [hr, dSet, dRet, dRetN, dIfS, dFor, dIt, dgName, dgNil, dgCons, dgTup, dgLst, dgTxt, dgSet, dVar, dC, dG, dOp, dUn, dCallP, dCons, dNil, dTst, dAnd, dOr, dNot, dAndV, dOrV, dNotV, dIf, dFz, dTup, dLst, dCall, dChain, dSl, dONo, dOSome, dMs, dMi, dAsg, dPar, dDrop, dLc, dLc2, dYes, dRng1, dRng2, dEnum, dZip, dLam, dNewD, dRaise, dNext, dBrk, dCnt, DS.put, DS.wipe, DS.rest, wipeL, restL, val, slD, vals, frz1, put1, out1, pures, dargs, dback, getM, setM, M.frz, start0, par, dEnds, isRes, itemsD, p2i, addP, subP, mulP, divP, modP, powP, DL.ltP, DL.leP, DL.gtP, DL.geP, eqP, inP, isNP, ixP, lenP, isiP, allP, anyP, intP, listP, tupleP, sortedSP, reprP, slP, revP, negP, findP, countP, joinP, appP, insP, tyD, lenD, dMl, lcountP, isBP, dLSet, dLRg, List.getElem?_cons_zero, List.getElem?_cons_succ, List.set_cons_zero, List.set_cons_succ, List.cons_append, List.nil_append, List.replicate_succ, List.replicate_zero, List.length_cons, List.length_nil, Option.some.injEq, exists_eq_left', exists_eq_left, Wv.pu.injEq, D.sc.injEq, V.bl.injEq, V.int.injEq, V.str.injEq, Nat.reduceSub, Nat.reduceAdd, List.cons.injEq, and_true, true_and, exists_and_left, Option.map_some, if_true, if_false, Bool.false_eq_true, exists_eq_right, ex2a, ex2b, ex2c, D.tup.injEq, D.lst.injEq, M.lst.injEq, eq_self, hN] at q ⊢
        cases a with
        | sc v =>
          cases v with
          | str k =>
            cases b with
            | sc v =>
              cases v with
              | str z =>
                cases c with
                | sc v =>
                  cases v with
                  | int i =>
                    have hi : 1 ≤ i ∧ i ≤ 8 := by simpa [isRD] using hr
                    refine call_ok (ds := [DS' k, DS' z, DI' i]) rfl rfl ⟨k, z, i, rfl, hk, hb, hi⟩ ?_
                    simp only [dSet, dRet, dRetN, dIfS, dFor, dIt, dgName, dgNil, dgCons, dgTup, dgLst, dgTxt, dgSet, dVar, dC, dG, dOp, dUn, dCallP, dCons, dNil, dTst, dAnd, dOr, dNot, dAndV, dOrV, dNotV, dIf, dFz, dTup, dLst, dCall, dChain, dSl, dONo, dOSome, dMs, dMi, dAsg, dPar, dDrop, dLc, dLc2, dYes, dRng1, dRng2, dEnum, dZip, dLam, dNewD, dRaise, dNext, dBrk, dCnt, DS.put, DS.wipe, DS.rest, wipeL, restL, val, slD, vals, frz1, put1, out1, pures, dargs, dback, getM, setM, M.frz, start0, par, dEnds, isRes, itemsD, p2i, addP, subP, mulP, divP, modP, powP, DL.ltP, DL.leP, DL.gtP, DL.geP, eqP, inP, isNP, ixP, lenP, isiP, allP, anyP, intP, listP, tupleP, sortedSP, reprP, slP, revP, negP, findP, countP, joinP, appP, insP, tyD, lenD, dMl, lcountP, isBP, dLSet, dLRg, List.getElem?_cons_zero, List.getElem?_cons_succ, List.set_cons_zero, List.set_cons_succ, List.cons_append, List.nil_append, List.replicate_succ, List.replicate_zero, List.length_cons, List.length_nil, Option.some.injEq, exists_eq_left', exists_eq_left, Wv.pu.injEq, D.sc.injEq, V.bl.injEq, V.int.injEq, V.str.injEq, Nat.reduceSub, Nat.reduceAdd, List.cons.injEq, and_true, true_and, exists_and_left, Option.map_some, if_true, if_false, Bool.false_eq_true, exists_eq_right, ex2a, ex2b, ex2c, D.tup.injEq, D.lst.injEq, M.lst.injEq, eq_self, strsL] at q ⊢
                    exact q
                  | _ => cases hr
                | _ => cases hr
              | _ => cases hb
            | _ => cases hb
          | _ => cases hk
        | _ => cases hk
    cases b with
    | sc v =>
      cases v with
      | str z =>
        have e : (true ^^ [V.str (Str.ofString "0"), V.str (Str.ofString "1"), V.str (Str.ofString "?")].any fun y => eqV y (V.str z)) = !isBit z := by
          simp only [isBit, eqV, List.any_cons, List.any_nil, Bool.true_xor, Bool.or_false]
          rw [BEq.comm (a := z), BEq.comm (a := z), BEq.comm (a := z)]
        cases hbz : isBit z with
        | false =>
          simp only [dSet, dRet, dRetN, dIfS, dFor, dIt, dgName, dgNil, dgCons, dgTup, dgLst, dgTxt, dgSet, dVar, dC, dG, dOp, dUn, dCallP, dCons, dNil, dTst, dAnd, dOr, dNot, dAndV, dOrV, dNotV, dIf, dFz, dTup, dLst, dCall, dChain, dSl, dONo, dOSome, dMs, dMi, dAsg, dPar, dDrop, dLc, dLc2, dYes, dRng1, dRng2, dEnum, dZip, dLam, dNewD, dRaise, dNext, dBrk, dCnt, DS.put, DS.wipe, DS.rest, wipeL, restL, val, slD, vals, frz1, put1, out1, pures, dargs, dback, getM, setM, M.frz, start0, par, dEnds, isRes, itemsD, p2i, addP, subP, mulP, divP, modP, powP, DL.ltP, DL.leP, DL.gtP, DL.geP, eqP, inP, isNP, ixP, lenP, isiP, allP, anyP, intP, listP, tupleP, sortedSP, reprP, slP, revP, negP, findP, countP, joinP, appP, insP, tyD, lenD, dMl, lcountP, isBP, dLSet, dLRg, List.getElem?_cons_zero, List.getElem?_cons_succ, List.set_cons_zero, List.set_cons_succ, List.cons_append, List.nil_append, List.replicate_succ, List.replicate_zero, List.length_cons, List.length_nil, Option.some.injEq, exists_eq_left', exists_eq_left, Wv.pu.injEq, D.sc.injEq, V.bl.injEq, V.int.injEq, V.str.injEq, Nat.reduceSub, Nat.reduceAdd, List.cons.injEq, and_true, true_and, exists_and_left, Option.map_some, if_true, if_false, Bool.false_eq_true, exists_eq_right, ex2a, ex2b, ex2c, D.tup.injEq, D.lst.injEq, M.lst.injEq, eq_self, kb_NoneType_bool, kb_NoneType_int, kb_NoneType_str, kb_NoneType_tuple, kb_NoneType_list, kb_NoneType_dict, kb_bool_bool, kb_bool_int, kb_bool_str, kb_bool_tuple, kb_bool_list, kb_bool_dict, kb_int_bool, kb_int_int, kb_int_str, kb_int_tuple, kb_int_list, kb_int_dict, kb_str_bool, kb_str_int, kb_str_str, kb_str_tuple, kb_str_list, kb_str_dict, kb_tuple_bool, kb_tuple_int, kb_tuple_str, kb_tuple_tuple, kb_tuple_list, kb_tuple_dict, kb_list_bool, kb_list_int, kb_list_str, kb_list_tuple, kb_list_list, kb_list_dict, kb_dict_bool, kb_dict_int, kb_dict_str, kb_dict_tuple, kb_dict_list, kb_dict_dict, flats, flatV, Bool.not_true, Bool.not_false, inV, e, isBitD, hbz] at q ⊢
          exact ⟨by decide, q⟩
        | true =>
          simp only [dSet, dRet, dRetN, dIfS, dFor, dIt, dgName, dgNil, dgCons, dgTup, dgLst, dgTxt, dgSet, dVar, dC, dG, dOp, dUn, dCallP, dCons, dNil, dTst, dAnd, dOr, dNot, dAndV, dOrV, dNotV, dIf, dFz, dTup, dLst, dCall, dChain, dSl, dONo, dOSome, dMs, dMi, dAsg, dPar, dDrop, dLc, dLc2, dYes, dRng1, dRng2, dEnum, dZip, dLam, dNewD, dRaise, dNext, dBrk, dCnt, DS.put, DS.wipe, DS.rest, wipeL, restL, val, slD, vals, frz1, put1, out1, pures, dargs, dback, getM, setM, M.frz, start0, par, dEnds, isRes, itemsD, p2i, addP, subP, mulP, divP, modP, powP, DL.ltP, DL.leP, DL.gtP, DL.geP, eqP, inP, isNP, ixP, lenP, isiP, allP, anyP, intP, listP, tupleP, sortedSP, reprP, slP, revP, negP, findP, countP, joinP, appP, insP, tyD, lenD, dMl, lcountP, isBP, dLSet, dLRg, List.getElem?_cons_zero, List.getElem?_cons_succ, List.set_cons_zero, List.set_cons_succ, List.cons_append, List.nil_append, List.replicate_succ, List.replicate_zero, List.length_cons, List.length_nil, Option.some.injEq, exists_eq_left', exists_eq_left, Wv.pu.injEq, D.sc.injEq, V.bl.injEq, V.int.injEq, V.str.injEq, Nat.reduceSub, Nat.reduceAdd, List.cons.injEq, and_true, true_and, exists_and_left, Option.map_some, if_true, if_false, Bool.false_eq_true, exists_eq_right, ex2a, ex2b, ex2c, D.tup.injEq, D.lst.injEq, M.lst.injEq, eq_self, kb_NoneType_bool, kb_NoneType_int, kb_NoneType_str, kb_NoneType_tuple, kb_NoneType_list, kb_NoneType_dict, kb_bool_bool, kb_bool_int, kb_bool_str, kb_bool_tuple, kb_bool_list, kb_bool_dict, kb_int_bool, kb_int_int, kb_int_str, kb_int_tuple, kb_int_list, kb_int_dict, kb_str_bool, kb_str_int, kb_str_str, kb_str_tuple, kb_str_list, kb_str_dict, kb_tuple_bool, kb_tuple_int, kb_tuple_str, kb_tuple_tuple, kb_tuple_list, kb_tuple_dict, kb_list_bool, kb_list_int, kb_list_str, kb_list_tuple, kb_list_list, kb_list_dict, kb_dict_bool, kb_dict_int, kb_dict_str, kb_dict_tuple, kb_dict_list, kb_dict_dict, flats, flatV, Bool.not_true, Bool.not_false, inV, e, isBitD, hbz] at q ⊢
          exact ⟨by decide, rest hbz⟩
      | _ => simp only [dSet, dRet, dRetN, dIfS, dFor, dIt, dgName, dgNil, dgCons, dgTup, dgLst, dgTxt, dgSet, dVar, dC, dG, dOp, dUn, dCallP, dCons, dNil, dTst, dAnd, dOr, dNot, dAndV, dOrV, dNotV, dIf, dFz, dTup, dLst, dCall, dChain, dSl, dONo, dOSome, dMs, dMi, dAsg, dPar, dDrop, dLc, dLc2, dYes, dRng1, dRng2, dEnum, dZip, dLam, dNewD, dRaise, dNext, dBrk, dCnt, DS.put, DS.wipe, DS.rest, wipeL, restL, val, slD, vals, frz1, put1, out1, pures, dargs, dback, getM, setM, M.frz, start0, par, dEnds, isRes, itemsD, p2i, addP, subP, mulP, divP, modP, powP, DL.ltP, DL.leP, DL.gtP, DL.geP, eqP, inP, isNP, ixP, lenP, isiP, allP, anyP, intP, listP, tupleP, sortedSP, reprP, slP, revP, negP, findP, countP, joinP, appP, insP, tyD, lenD, dMl, lcountP, isBP, dLSet, dLRg, List.getElem?_cons_zero, List.getElem?_cons_succ, List.set_cons_zero, List.set_cons_succ, List.cons_append, List.nil_append, List.replicate_succ, List.replicate_zero, List.length_cons, List.length_nil, Option.some.injEq, exists_eq_left', exists_eq_left, Wv.pu.injEq, D.sc.injEq, V.bl.injEq, V.int.injEq, V.str.injEq, Nat.reduceSub, Nat.reduceAdd, List.cons.injEq, and_true, true_and, exists_and_left, Option.map_some, if_true, if_false, Bool.false_eq_true, exists_eq_right, ex2a, ex2b, ex2c, D.tup.injEq, D.lst.injEq, M.lst.injEq, eq_self, kb_NoneType_bool, kb_NoneType_int, kb_NoneType_str, kb_NoneType_tuple, kb_NoneType_list, kb_NoneType_dict, kb_bool_bool, kb_bool_int, kb_bool_str, kb_bool_tuple, kb_bool_list, kb_bool_dict, kb_int_bool, kb_int_int, kb_int_str, kb_int_tuple, kb_int_list, kb_int_dict, kb_str_bool, kb_str_int, kb_str_str, kb_str_tuple, kb_str_list, kb_str_dict, kb_tuple_bool, kb_tuple_int, kb_tuple_str, kb_tuple_tuple, kb_tuple_list, kb_tuple_dict, kb_list_bool, kb_list_int, kb_list_str, kb_list_tuple, kb_list_list, kb_list_dict, kb_dict_bool, kb_dict_int, kb_dict_str, kb_dict_tuple, kb_dict_list, kb_dict_dict, isBitD, Bool.not_true, Bool.not_false] at q ht ⊢ <;> first | exact q | cases ht
    | scr ns => cases ht
    | _ => simp only [dSet, dRet, dRetN, dIfS, dFor, dIt, dgName, dgNil, dgCons, dgTup, dgLst, dgTxt, dgSet, dVar, dC, dG, dOp, dUn, dCallP, dCons, dNil, dTst, dAnd, dOr, dNot, dAndV, dOrV, dNotV, dIf, dFz, dTup, dLst, dCall, dChain, dSl, dONo, dOSome, dMs, dMi, dAsg, dPar, dDrop, dLc, dLc2, dYes, dRng1, dRng2, dEnum, dZip, dLam, dNewD, dRaise, dNext, dBrk, dCnt, DS.put, DS.wipe, DS.rest, wipeL, restL, val, slD, vals, frz1, put1, out1, pures, dargs, dback, getM, setM, M.frz, start0, par, dEnds, isRes, itemsD, p2i, addP, subP, mulP, divP, modP, powP, DL.ltP, DL.leP, DL.gtP, DL.geP, eqP, inP, isNP, ixP, lenP, isiP, allP, anyP, intP, listP, tupleP, sortedSP, reprP, slP, revP, negP, findP, countP, joinP, appP, insP, tyD, lenD, dMl, lcountP, isBP, dLSet, dLRg, List.getElem?_cons_zero, List.getElem?_cons_succ, List.set_cons_zero, List.set_cons_succ, List.cons_append, List.nil_append, List.replicate_succ, List.replicate_zero, List.length_cons, List.length_nil, Option.some.injEq, exists_eq_left', exists_eq_left, Wv.pu.injEq, D.sc.injEq, V.bl.injEq, V.int.injEq, V.str.injEq, Nat.reduceSub, Nat.reduceAdd, List.cons.injEq, and_true, true_and, exists_and_left, Option.map_some, if_true, if_false, Bool.false_eq_true, exists_eq_right, ex2a, ex2b, ex2c, D.tup.injEq, D.lst.injEq, M.lst.injEq, eq_self, kb_NoneType_bool, kb_NoneType_int, kb_NoneType_str, kb_NoneType_tuple, kb_NoneType_list, kb_NoneType_dict, kb_bool_bool, kb_bool_int, kb_bool_str, kb_bool_tuple, kb_bool_list, kb_bool_dict, kb_int_bool, kb_int_int, kb_int_str, kb_int_tuple, kb_int_list, kb_int_dict, kb_str_bool, kb_str_int, kb_str_str, kb_str_tuple, kb_str_list, kb_str_dict, kb_tuple_bool, kb_tuple_int, kb_tuple_str, kb_tuple_tuple, kb_tuple_list, kb_tuple_dict, kb_list_bool, kb_list_int, kb_list_str, kb_list_tuple, kb_list_list, kb_list_dict, kb_dict_bool, kb_dict_int, kb_dict_str, kb_dict_tuple, kb_dict_list, kb_dict_dict, isBitD, Bool.not_true, Bool.not_false] at q ht ⊢ <;> exact q
end
end Lw

/-! text RB -/
set_option Elab.async false
set_option linter.all false
set_option maxRecDepth 100000
set_option maxHeartbeats 4000000
namespace Lw
open PySem PySem.Spec PyProof.Rows L2 DL
section
variable {P : Program} {w : World} {base : Heap} {K : PySem.W.Frag} {ws : List Wv} {Q : Wv → List Wv → Prop} {Y : Value → List Wv → Prop} {mg : Str → Option Value}
theorem isBit_len {b : Str} (h : isBit b = true) : b.length = 1 := by
  simp only [isBit, Bool.or_eq_true, beq_iff_eq] at h
  rcases h with rfl | rfl | rfl <;> rfl
theorem dec_str (a b : Str) : decide (V.str a = V.str b) = (a == b) := by
  by_cases h : a = b
  · subst h; simp
  · rw [decide_eq_false (fun z => h (V.str.inj z))]
    exact (beq_eq_false_iff_ne.mpr h).symm
theorem leX_antisymm {a b : Str} (h1 : ltCps b.cps.toList a.cps.toList = false) (h2 : ltCps a.cps.toList b.cps.toList = false) : a = b := by
  rw [ltCps_eq] at h1 h2
  have e : a.cps.toList = b.cps.toList := List.le_antisymm (by simpa using h1) (by simpa using h2)
  obtain ⟨x⟩ := a
  obtain ⟨y⟩ := b
  exact congrArg Str.mk (Array.toList_inj.mp e)
theorem leX_trans {a b c : List Nat} (h1 : ltCps b a = false) (h2 : ltCps c b = false) : ltCps c a = false := by
  rw [ltCps_eq] at *
  have := List.le_trans (show a ≤ b by simpa using h1) (show b ≤ c by simpa using h2)
  simpa using this
theorem pair_of_rising : ∀ (p : Str) (l : List Str), risingS p l = true → (p :: l).Pairwise (fun a b => ltCps b.cps.toList a.cps.toList = false)
  | p, [], _ => by simp
  | p, x :: r, h => by
    have h' : (!ltCps x.cps.toList p.cps.toList && risingS x r) = true := h
    simp only [Bool.and_eq_true, Bool.not_eq_true'] at h'
    have ih := pair_of_rising x r h'.2
    refine List.pairwise_cons.mpr ⟨fun y hy => ?_, ih⟩
    rcases List.mem_cons.mp hy with rfl | hy
    · exact h'.1
    · exact leX_trans h'.1 ((List.pairwise_cons.mp ih).1 y hy)
theorem pair_of_sorted {l : List Str} (h : sortedS l = true) : l.Pairwise (fun a b => ltCps b.cps.toList a.cps.toList = false) := by
  cases l with
  | nil => exact .nil
  | cons x r => exact pair_of_rising x r h
theorem ins_perm (x : Str) : ∀ l, (insS x l).Perm (x :: l)
  | [] => .refl _
  | y :: r => by
    unfold insS
    split
    · exact ((ins_perm x r).cons y).trans (.swap x y r)
    · exact .refl _
theorem sort_perm : ∀ l, (sortS l).Perm l
  | [] => .refl _
  | x :: r => (ins_perm x (sortS r)).trans ((sort_perm r).cons x)
theorem ins_pair {x : Str} : ∀ {l : List Str}, l.Pairwise (fun a b => ltCps b.cps.toList a.cps.toList = false) → (insS x l).Pairwise (fun a b => ltCps b.cps.toList a.cps.toList = false)
  | [], _ => by simp [insS]
  | y :: r, h => by
    unfold insS
    obtain ⟨h1, h2⟩ := List.pairwise_cons.mp h
    split
    · rename_i c
      refine List.pairwise_cons.mpr ⟨fun z hz => ?_, ins_pair h2⟩
      rcases List.mem_cons.mp ((ins_perm x r).mem_iff.mp hz) with rfl | hz
      · rw [ltCps_eq] at c ⊢
        have : y.cps.toList < z.cps.toList := by simpa using c
        simpa using List.le_of_lt this
      · exact h1 z hz
    · rename_i c
      have c : ltCps y.cps.toList x.cps.toList = false := by simpa using c
      refine List.pairwise_cons.mpr ⟨fun z hz => ?_, h⟩
      rcases List.mem_cons.mp hz with rfl | hz
      · exact c
      · exact leX_trans c (h1 z hz)
theorem sort_pair : ∀ l, (sortS l).Pairwise (fun a b => ltCps b.cps.toList a.cps.toList = false)
  | [] => .nil
  | x :: r => ins_pair (sort_pair r)
theorem sort_uniq {ys zs : List Str} (p : ys.Perm zs) (h : sortedS ys = true) : ys = sortS zs :=
  List.Perm.eq_of_pairwise (fun a b _ _ h1 h2 => leX_antisymm h1 h2) (pair_of_sorted h) (sort_pair zs) (p.trans (sort_perm zs).symm)
theorem map_rng {α : Type} (f : D → α) (n : Nat) : (rngL 0 n).map f = (List.range n).map fun (m : Nat) => f (DI' (m : Int)) := by
  unfold rngL
  rw [List.map_map]
  refine List.map_congr_left fun m _ => ?_
  simp
theorem rng_len (lo : Int) (n : Nat) : (rngL lo n).length = n := by simp [rngL]
theorem raw_one {k b : Str} {n : Nat} (h : b ≠ "?" ∨ k = "plain") : rawReads k b n = [repS b n] := by
  unfold rawReads
  rw [if_pos]
  simpa [bne_iff_ne] using h
theorem raw_low {n : Nat} : rawReads "low" "?" n = sortS (flips "0" "1" n) := rfl
theorem raw_high {n : Nat} : rawReads "high" "?" n = sortS (flips "1" "0" n) := rfl
theorem rep_len1 {z : Str} {n : Int} (h : z.length = 1) : (repS z n).length = n.toNat := by rw [repS_len, h, Nat.one_mul]
theorem len_app (a b : Str) : (a ++ b).length = a.length + b.length := by
  show (a.cps ++ b.cps).size = _
  rw [Array.size_append]
  rfl
theorem small_sl {n : Nat} (h : n ≤ 100000) : n ≤ sizeLine := Nat.le_trans h (by decide)
/-- the branch with an undecided bit -/
theorem raw_flip {f l : Nat} {r : Int} {k b : Str} (h1 : 1 ≤ r) (h8 : r ≤ 8) (hf : f < 128) (hl : l < 128) (z : Str) (hz : z = ⟨#[f, l]⟩) (te : DTE) (hte : ∀ (G : Wv → DS → Prop) Y', G (.pu (DS' z)) ⟨[some (.pu (DS' k)), some (.pu (DS' b)), some (.pu (DI' r)), none, none, none, none], [.pu (DS' k), .pu (DS' b), .pu (DI' r)]⟩ → te ⟨[some (.pu (DS' k)), some (.pu (DS' b)), some (.pu (DI' r)), none, none, none, none], [.pu (DS' k), .pu (DS' b), .pu (DI' r)]⟩ G Y')
    (q : Q (strsL (sortS (flips (sign f) (sign l) r.toNat))) [.pu (DS' k), .pu (DS' b), .pu (DI' r)]) :
    dSeq (dAsg te (dgTxt (dgCons (dgName 3) (dgCons (dgName 4) dgNil))))
      (dSeq (dSet 5 (dLc (dRng1 (dCons (dOp addP (dVar 2) (dC (V.int 1))) dNil)) (dgName 6) dYes (dFz (dOp addP (dOp mulP (dVar 3) (dVar 6)) (dOp mulP (dVar 4) (dOp subP (dVar 2) (dVar 6))))) [6]))
        (dRet (dCallP sortedSP (dCons (dOp addP (dVar 5) (dLc (dRng1 (dCons (dVar 2) dNil)) (dgName 6) dYes
                  (dFz (dOp addP (dOp addP (dOp mulP (dVar 3) (dVar 6)) (dC (V.str (Str.ofString "?")))) (dOp mulP (dVar 4) (dOp subP (dOp subP (dVar 2) (dC (V.int 1))) (dVar 6))))) [6])) dNil))))
      (dEnds Q Y) ⟨[some (.pu (DS' k)), some (.pu (DS' b)), some (.pu (DI' r)), none, none, none, none], [.pu (DS' k), .pu (DS' b), .pu (DI' r)]⟩ := by
  refine seq_o fun N1 hN1 => ?_
  unfold dAsg
  refine hte _ _ ?_
  have e2 : two? z = some (f, l) := by
    subst hz
    unfold two?
    simp [hf, hl]
  simp only [dSet, dRet, dRetN, dIfS, dFor, dIt, dgName, dgNil, dgCons, dgTup, dgLst, dgTxt, dgSet, dVar, dC, dG, dOp, dUn, dCallP, dCons, dNil, dTst, dAnd, dOr, dNot, dAndV, dOrV, dNotV, dIf, dFz, dTup, dLst, dCall, dChain, dSl, dONo, dOSome, dMs, dMi, dAsg, dPar, dDrop, dLc, dLc2, dYes, dRng1, dRng2, dEnum, dZip, dLam, dNewD, dRaise, dNext, dBrk, dCnt, DS.put, DS.wipe, DS.rest, wipeL, restL, val, slD, vals, frz1, put1, out1, pures, dargs, dback, getM, setM, M.frz, start0, par, dEnds, isRes, itemsD, p2i, addP, subP, mulP, divP, modP, powP, DL.ltP, DL.leP, DL.gtP, DL.geP, eqP, inP, isNP, ixP, lenP, isiP, allP, anyP, intP, listP, tupleP, sortedSP, reprP, slP, revP, negP, findP, countP, joinP, appP, insP, tyD, lenD, dMl, lcountP, isBP, dLSet, dLRg, List.getElem?_cons_zero, List.getElem?_cons_succ, List.set_cons_zero, List.set_cons_succ, List.cons_append, List.nil_append, List.replicate_succ, List.replicate_zero, List.length_cons, List.length_nil, Option.some.injEq, exists_eq_left', exists_eq_left, Wv.pu.injEq, D.sc.injEq, V.bl.injEq, V.int.injEq, V.str.injEq, Nat.reduceSub, Nat.reduceAdd, List.cons.injEq, and_true, true_and, exists_and_left, Option.map_some, if_true, if_false, Bool.false_eq_true, exists_eq_right, ex2a, ex2b, ex2c, D.tup.injEq, D.lst.injEq, M.lst.injEq, eq_self, e2]
  subst hN1
  refine seq_o fun N2 hN2 => ?_
  simp only [dSet, dRet, dRetN, dIfS, dFor, dIt, dgName, dgNil, dgCons, dgTup, dgLst, dgTxt, dgSet, dVar, dC, dG, dOp, dUn, dCallP, dCons, dNil, dTst, dAnd, dOr, dNot, dAndV, dOrV, dNotV, dIf, dFz, dTup, dLst, dCall, dChain, dSl, dONo, dOSome, dMs, dMi, dAsg, dPar, dDrop, dLc, dLc2, dYes, dRng1, dRng2, dEnum, dZip, dLam, dNewD, dRaise, dNext, dBrk, dCnt, DS.put, DS.wipe, DS.rest, wipeL, restL, val, slD, vals, frz1, put1, out1, pures, dargs, dback, getM, setM, M.frz, start0, par, dEnds, isRes, itemsD, p2i, addP, subP, mulP, divP, modP, powP, DL.ltP, DL.leP, DL.gtP, DL.geP, eqP, inP, isNP, ixP, lenP, isiP, allP, anyP, intP, listP, tupleP, sortedSP, reprP, slP, revP, negP, findP, countP, joinP, appP, insP, tyD, lenD, dMl, lcountP, isBP, dLSet, dLRg, List.getElem?_cons_zero, List.getElem?_cons_succ, List.set_cons_zero, List.set_cons_succ, List.cons_append, List.nil_append, List.replicate_succ, List.replicate_zero, List.length_cons, List.length_nil, Option.some.injEq, exists_eq_left', exists_eq_left, Wv.pu.injEq, D.sc.injEq, V.bl.injEq, V.int.injEq, V.str.injEq, Nat.reduceSub, Nat.reduceAdd, List.cons.injEq, and_true, true_and, exists_and_left, Option.map_some, if_true, if_false, Bool.false_eq_true, exists_eq_right, ex2a, ex2b, ex2c, D.tup.injEq, D.lst.injEq, M.lst.injEq, eq_self]
  refine ⟨by omega, by omega, ?_⟩
  refine comp_map (fun d => match d with
    | .sc (.int m) => DS' (repS (sign f) m ++ repS (sign l) (r - m))
    | _ => DN') (rngL 0 (r + 1).toNat) [] _ (fun d hd K k => ?_) (by rw [rng_len]; refine small_sl ?_; simp; omega) ?_
  · obtain ⟨m, hm, rfl⟩ := List.mem_map.mp hd
    have hm := List.mem_range.mp hm
    simp only [Int.zero_add] at k
    have l1 : (sign f).length = 1 := rfl
    have l2 : (sign l).length = 1 := rfl
    simp only [dSet, dRet, dRetN, dIfS, dFor, dIt, dgName, dgNil, dgCons, dgTup, dgLst, dgTxt, dgSet, dVar, dC, dG, dOp, dUn, dCallP, dCons, dNil, dTst, dAnd, dOr, dNot, dAndV, dOrV, dNotV, dIf, dFz, dTup, dLst, dCall, dChain, dSl, dONo, dOSome, dMs, dMi, dAsg, dPar, dDrop, dLc, dLc2, dYes, dRng1, dRng2, dEnum, dZip, dLam, dNewD, dRaise, dNext, dBrk, dCnt, DS.put, DS.wipe, DS.rest, wipeL, restL, val, slD, vals, frz1, put1, out1, pures, dargs, dback, getM, setM, M.frz, start0, par, dEnds, isRes, itemsD, p2i, addP, subP, mulP, divP, modP, powP, DL.ltP, DL.leP, DL.gtP, DL.geP, eqP, inP, isNP, ixP, lenP, isiP, allP, anyP, intP, listP, tupleP, sortedSP, reprP, slP, revP, negP, findP, countP, joinP, appP, insP, tyD, lenD, dMl, lcountP, isBP, dLSet, dLRg, List.getElem?_cons_zero, List.getElem?_cons_succ, List.set_cons_zero, List.set_cons_succ, List.cons_append, List.nil_append, List.replicate_succ, List.replicate_zero, List.length_cons, List.length_nil, Option.some.injEq, exists_eq_left', exists_eq_left, Wv.pu.injEq, D.sc.injEq, V.bl.injEq, V.int.injEq, V.str.injEq, Nat.reduceSub, Nat.reduceAdd, List.cons.injEq, and_true, true_and, exists_and_left, Option.map_some, if_true, if_false, Bool.false_eq_true, exists_eq_right, ex2a, ex2b, ex2c, D.tup.injEq, D.lst.injEq, M.lst.injEq, eq_self, Int.zero_add, l1, l2, rep_len1 l1, rep_len1 l2]
    exact ⟨⟨by omega, by omega, by omega⟩, ⟨by omega, by omega, by omega⟩, small_sl (by omega), k _ rfl⟩
  rw [List.nil_append, map_rng]
  simp only [dSet, dRet, dRetN, dIfS, dFor, dIt, dgName, dgNil, dgCons, dgTup, dgLst, dgTxt, dgSet, dVar, dC, dG, dOp, dUn, dCallP, dCons, dNil, dTst, dAnd, dOr, dNot, dAndV, dOrV, dNotV, dIf, dFz, dTup, dLst, dCall, dChain, dSl, dONo, dOSome, dMs, dMi, dAsg, dPar, dDrop, dLc, dLc2, dYes, dRng1, dRng2, dEnum, dZip, dLam, dNewD, dRaise, dNext, dBrk, dCnt, DS.put, DS.wipe, DS.rest, wipeL, restL, val, slD, vals, frz1, put1, out1, pures, dargs, dback, getM, setM, M.frz, start0, par, dEnds, isRes, itemsD, p2i, addP, subP, mulP, divP, modP, powP, DL.ltP, DL.leP, DL.gtP, DL.geP, eqP, inP, isNP, ixP, lenP, isiP, allP, anyP, intP, listP, tupleP, sortedSP, reprP, slP, revP, negP, findP, countP, joinP, appP, insP, tyD, lenD, dMl, lcountP, isBP, dLSet, dLRg, List.getElem?_cons_zero, List.getElem?_cons_succ, List.set_cons_zero, List.set_cons_succ, List.cons_append, List.nil_append, List.replicate_succ, List.replicate_zero, List.length_cons, List.length_nil, Option.some.injEq, exists_eq_left', exists_eq_left, Wv.pu.injEq, D.sc.injEq, V.bl.injEq, V.int.injEq, V.str.injEq, Nat.reduceSub, Nat.reduceAdd, List.cons.injEq, and_true, true_and, exists_and_left, Option.map_some, if_true, if_false, Bool.false_eq_true, exists_eq_right, ex2a, ex2b, ex2c, D.tup.injEq, D.lst.injEq, M.lst.injEq, eq_self, hN2]
  refine ⟨by omega, by omega, ?_⟩
  refine comp_map (fun d => match d with
    | .sc (.int m) => DS' (repS (sign f) m ++ "?" ++ repS (sign l) (r - 1 - m))
    | _ => DN') (rngL 0 r.toNat) [] _ (fun d hd K k => ?_) (by rw [rng_len]; refine small_sl ?_; simp; omega) ?_
  · obtain ⟨m, hm, rfl⟩ := List.mem_map.mp hd
    have hm := List.mem_range.mp hm
    simp only [Int.zero_add] at k
    have l1 : (sign f).length = 1 := rfl
    have l2 : (sign l).length = 1 := rfl
    have l3 : (Str.ofString "?").length = 1 := rfl
    simp only [dSet, dRet, dRetN, dIfS, dFor, dIt, dgName, dgNil, dgCons, dgTup, dgLst, dgTxt, dgSet, dVar, dC, dG, dOp, dUn, dCallP, dCons, dNil, dTst, dAnd, dOr, dNot, dAndV, dOrV, dNotV, dIf, dFz, dTup, dLst, dCall, dChain, dSl, dONo, dOSome, dMs, dMi, dAsg, dPar, dDrop, dLc, dLc2, dYes, dRng1, dRng2, dEnum, dZip, dLam, dNewD, dRaise, dNext, dBrk, dCnt, DS.put, DS.wipe, DS.rest, wipeL, restL, val, slD, vals, frz1, put1, out1, pures, dargs, dback, getM, setM, M.frz, start0, par, dEnds, isRes, itemsD, p2i, addP, subP, mulP, divP, modP, powP, DL.ltP, DL.leP, DL.gtP, DL.geP, eqP, inP, isNP, ixP, lenP, isiP, allP, anyP, intP, listP, tupleP, sortedSP, reprP, slP, revP, negP, findP, countP, joinP, appP, insP, tyD, lenD, dMl, lcountP, isBP, dLSet, dLRg, List.getElem?_cons_zero, List.getElem?_cons_succ, List.set_cons_zero, List.set_cons_succ, List.cons_append, List.nil_append, List.replicate_succ, List.replicate_zero, List.length_cons, List.length_nil, Option.some.injEq, exists_eq_left', exists_eq_left, Wv.pu.injEq, D.sc.injEq, V.bl.injEq, V.int.injEq, V.str.injEq, Nat.reduceSub, Nat.reduceAdd, List.cons.injEq, and_true, true_and, exists_and_left, Option.map_some, if_true, if_false, Bool.false_eq_true, exists_eq_right, ex2a, ex2b, ex2c, D.tup.injEq, D.lst.injEq, M.lst.injEq, eq_self, Int.zero_add, l1, l2, l3, rep_len1 l1, rep_len1 l2, len_app]
    exact ⟨⟨by omega, by omega, by omega⟩, small_sl (by omega), ⟨by omega, by omega, by omega⟩, small_sl (by omega), k _ rfl⟩
  rw [List.nil_append, map_rng]
  simp only [dSet, dRet, dRetN, dIfS, dFor, dIt, dgName, dgNil, dgCons, dgTup, dgLst, dgTxt, dgSet, dVar, dC, dG, dOp, dUn, dCallP, dCons, dNil, dTst, dAnd, dOr, dNot, dAndV, dOrV, dNotV, dIf, dFz, dTup, dLst, dCall, dChain, dSl, dONo, dOSome, dMs, dMi, dAsg, dPar, dDrop, dLc, dLc2, dYes, dRng1, dRng2, dEnum, dZip, dLam, dNewD, dRaise, dNext, dBrk, dCnt, DS.put, DS.wipe, DS.rest, wipeL, restL, val, slD, vals, frz1, put1, out1, pures, dargs, dback, getM, setM, M.frz, start0, par, dEnds, isRes, itemsD, p2i, addP, subP, mulP, divP, modP, powP, DL.ltP, DL.leP, DL.gtP, DL.geP, eqP, inP, isNP, ixP, lenP, isiP, allP, anyP, intP, listP, tupleP, sortedSP, reprP, slP, revP, negP, findP, countP, joinP, appP, insP, tyD, lenD, dMl, lcountP, isBP, dLSet, dLRg, List.getElem?_cons_zero, List.getElem?_cons_succ, List.set_cons_zero, List.set_cons_succ, List.cons_append, List.nil_append, List.replicate_succ, List.replicate_zero, List.length_cons, List.length_nil, Option.some.injEq, exists_eq_left', exists_eq_left, Wv.pu.injEq, D.sc.injEq, V.bl.injEq, V.int.injEq, V.str.injEq, Nat.reduceSub, Nat.reduceAdd, List.cons.injEq, and_true, true_and, exists_and_left, Option.map_some, if_true, if_false, Bool.false_eq_true, exists_eq_right, ex2a, ex2b, ex2c, D.tup.injEq, D.lst.injEq, M.lst.injEq, eq_self, List.length_map, List.length_range]
  refine ⟨small_sl (by omega), ?_⟩
  have e3 : ((List.range (r + 1).toNat).map fun (m : Nat) => DS' (repS (sign f) (m : Int) ++ repS (sign l) (r - (m : Int)))) ++ ((List.range r.toNat).map fun (m : Nat) => DS' (repS (sign f) (m : Int) ++ "?" ++ repS (sign l) (r - 1 - (m : Int)))) = (flips (sign f) (sign l) r.toNat).map fun z => DS' z := by
    unfold flips
    rw [List.map_append, List.map_map, List.map_map]
    have er : ((r.toNat : Nat) : Int) = r := by omega
    have er1 : (r + 1).toNat = r.toNat + 1 := by omega
    rw [er, er1]
    rfl
  show ∃ zs, strsD (((List.range (r + 1).toNat).map fun (m : Nat) => DS' (repS (sign f) (m : Int) ++ repS (sign l) (r - (m : Int)))) ++ ((List.range r.toNat).map fun (m : Nat) => DS' (repS (sign f) (m : Int) ++ "?" ++ repS (sign l) (r - 1 - (m : Int))))) = some zs ∧ _
  rw [e3, strs_mapF]
  refine ⟨_, rfl, ?_, fun ys hp hs => ?_⟩
  · unfold flips
    simp
    omega
  · rw [sort_uniq hp hs]
    simp only [strsL] at q
    exact q
theorem r_raw_reads (h : sp_raw_reads K ws Q Y) : t_raw_reads K (dEnds Q Y) (start0 N_raw_reads ws) := by
  obtain ⟨ds, e, hl, ⟨k, b, r, rfl, hk, hb, h1, h8⟩, q⟩ := h
  have := pures_len e
  subst this
  have bl := isBit_len hb
  have er : ((r.toNat : Nat) : Int) = r := by omega
  simp only [List.map_cons, List.map_nil, List.getD_cons_zero, List.getD_cons_succ, str, nat, DS', DI'] at q ⊢
  unfold t_raw_reads
  refine seq_o fun N hN => ?_
  have fine : (b ≠ "?" ∨ k = "plain") → ((-2 ^ 63 ≤ r ∧ r < 2 ^ 63 ∧ b.length * r.toNat ≤ 16777216) ∧ 1 ≤ sizeLine ∧ Q (Wv.ow (M.lst [D.sc (V.str (repS b r))])) [Wv.pu (D.sc (V.str k)), Wv.pu (D.sc (V.str b)), Wv.pu (D.sc (V.int r))]) := fun h => by
    rw [raw_one h] at q
    simp only [strsL, List.map_cons, List.map_nil, er] at q
    exact ⟨⟨by omega, by omega, by rw [bl]; omega⟩, by decide, q.2⟩
  simp only [N_raw_reads, dSet, dRet, dRetN, dIfS, dFor, dIt, dgName, dgNil, dgCons, dgTup, dgLst, dgTxt, dgSet, dVar, dC, dG, dOp, dUn, dCallP, dCons, dNil, dTst, dAnd, dOr, dNot, dAndV, dOrV, dNotV, dIf, dFz, dTup, dLst, dCall, dChain, dSl, dONo, dOSome, dMs, dMi, dAsg, dPar, dDrop, dLc, dLc2, dYes, dRng1, dRng2, dEnum, dZip, dLam, dNewD, dRaise, dNext, dBrk, dCnt, DS.put, DS.wipe, DS.rest, wipeL, restL, val, slD, vals, frz1, put1, out1, pures, dargs, dback, getM, setM, M.frz, start0, par, dEnds, isRes, itemsD, p2i, addP, subP, mulP, divP, modP, powP, DL.ltP, DL.leP, DL.gtP, DL.geP, eqP, inP, isNP, ixP, lenP, isiP, allP, anyP, intP, listP, tupleP, sortedSP, reprP, slP, revP, negP, findP, countP, joinP, appP, insP, tyD, lenD, dMl, lcountP, isBP, dLSet, dLRg, List.getElem?_cons_zero, List.getElem?_cons_succ, List.set_cons_zero, List.set_cons_succ, List.cons_append, List.nil_append, List.replicate_succ, List.replicate_zero, List.length_cons, List.length_nil, Option.some.injEq, exists_eq_left', exists_eq_left, Wv.pu.injEq, D.sc.injEq, V.bl.injEq, V.int.injEq, V.str.injEq, Nat.reduceSub, Nat.reduceAdd, List.cons.injEq, and_true, true_and, exists_and_left, Option.map_some, if_true, if_false, Bool.false_eq_true, exists_eq_right, ex2a, ex2b, ex2c, D.tup.injEq, D.lst.injEq, M.lst.injEq, eq_self, dec_str, scal]
  by_cases c1 : b = "?"
  · by_cases c2 : k = "plain"
    · simp [c1, c2] at fine ⊢
      exact fine
    · have ek : k = "low" ∨ k = "high" := by
        simp only [isK, Bool.or_eq_true, beq_iff_eq] at hk
        exact hk.resolve_left c2
      simp [c1, c2]
      subst c1
      rw [hN]
      rcases ek with rfl | rfl
      · rw [raw_low] at q
        exact raw_flip (f := 48) (l := 49) (z := "01") h1 h8 (by decide) (by decide) rfl _ (fun G Y' g => by simpa [dSet, dRet, dRetN, dIfS, dFor, dIt, dgName, dgNil, dgCons, dgTup, dgLst, dgTxt, dgSet, dVar, dC, dG, dOp, dUn, dCallP, dCons, dNil, dTst, dAnd, dOr, dNot, dAndV, dOrV, dNotV, dIf, dFz, dTup, dLst, dCall, dChain, dSl, dONo, dOSome, dMs, dMi, dAsg, dPar, dDrop, dLc, dLc2, dYes, dRng1, dRng2, dEnum, dZip, dLam, dNewD, dRaise, dNext, dBrk, dCnt, DS.put, DS.wipe, DS.rest, wipeL, restL, val, slD, vals, frz1, put1, out1, pures, dargs, dback, getM, setM, M.frz, start0, par, dEnds, isRes, itemsD, p2i, addP, subP, mulP, divP, modP, powP, DL.ltP, DL.leP, DL.gtP, DL.geP, eqP, inP, isNP, ixP, lenP, isiP, allP, anyP, intP, listP, tupleP, sortedSP, reprP, slP, revP, negP, findP, countP, joinP, appP, insP, tyD, lenD, dMl, lcountP, isBP, dLSet, dLRg, List.getElem?_cons_zero, List.getElem?_cons_succ, List.set_cons_zero, List.set_cons_succ, List.cons_append, List.nil_append, List.replicate_succ, List.replicate_zero, List.length_cons, List.length_nil, Option.some.injEq, exists_eq_left', exists_eq_left, Wv.pu.injEq, D.sc.injEq, V.bl.injEq, V.int.injEq, V.str.injEq, Nat.reduceSub, Nat.reduceAdd, List.cons.injEq, and_true, true_and, exists_and_left, Option.map_some, if_true, if_false, Bool.false_eq_true, exists_eq_right, ex2a, ex2b, ex2c, D.tup.injEq, D.lst.injEq, M.lst.injEq, eq_self, dec_str, scal] using g) q.2
      · rw [raw_high] at q
        exact raw_flip (f := 49) (l := 48) (z := "10") h1 h8 (by decide) (by decide) rfl _ (fun G Y' g => by simpa [dSet, dRet, dRetN, dIfS, dFor, dIt, dgName, dgNil, dgCons, dgTup, dgLst, dgTxt, dgSet, dVar, dC, dG, dOp, dUn, dCallP, dCons, dNil, dTst, dAnd, dOr, dNot, dAndV, dOrV, dNotV, dIf, dFz, dTup, dLst, dCall, dChain, dSl, dONo, dOSome, dMs, dMi, dAsg, dPar, dDrop, dLc, dLc2, dYes, dRng1, dRng2, dEnum, dZip, dLam, dNewD, dRaise, dNext, dBrk, dCnt, DS.put, DS.wipe, DS.rest, wipeL, restL, val, slD, vals, frz1, put1, out1, pures, dargs, dback, getM, setM, M.frz, start0, par, dEnds, isRes, itemsD, p2i, addP, subP, mulP, divP, modP, powP, DL.ltP, DL.leP, DL.gtP, DL.geP, eqP, inP, isNP, ixP, lenP, isiP, allP, anyP, intP, listP, tupleP, sortedSP, reprP, slP, revP, negP, findP, countP, joinP, appP, insP, tyD, lenD, dMl, lcountP, isBP, dLSet, dLRg, List.getElem?_cons_zero, List.getElem?_cons_succ, List.set_cons_zero, List.set_cons_succ, List.cons_append, List.nil_append, List.replicate_succ, List.replicate_zero, List.length_cons, List.length_nil, Option.some.injEq, exists_eq_left', exists_eq_left, Wv.pu.injEq, D.sc.injEq, V.bl.injEq, V.int.injEq, V.str.injEq, Nat.reduceSub, Nat.reduceAdd, List.cons.injEq, and_true, true_and, exists_and_left, Option.map_some, if_true, if_false, Bool.false_eq_true, exists_eq_right, ex2a, ex2b, ex2c, D.tup.injEq, D.lst.injEq, M.lst.injEq, eq_self, dec_str, scal, show ¬ ("high" : Str) = "low" by decide] using g) q.2
  · simp [c1] at fine ⊢
    exact fine
end
end Lw

/-! text RC -/
set_option Elab.async false
set_option linter.all false
set_option maxRecDepth 100000
set_option maxHeartbeats 4000000
namespace Lw
open PySem PySem.Spec PyProof.Rows L2 DL
section
variable {P : Program} {w : World} {base : Heap} {K : PySem.W.Frag} {ws : List Wv} {Q : Wv → List Wv → Prop} {Y : Value → List Wv → Prop} {mg : Str → Option Value}
def rowsF (R : Str → Str → List Str) (ps : List (Str × Nat)) : List Str := ps.foldl (fun found p => found.flatMap fun start => (R p.1 (sign p.2)).map (start ++ ·)) [""]
theorem rowsF_snoc (R : Str → Str → List Str) (ps : List (Str × Nat)) (p : Str × Nat) : rowsF R (ps ++ [p]) = (rowsF R ps).flatMap fun start => (R p.1 (sign p.2)).map (start ++ ·) := by
  unfold rowsF
  rw [List.foldl_append]
  rfl
theorem flat_len {α β : Type} {c : Nat} {f : α → List β} : ∀ {l : List α}, (∀ x ∈ l, (f x).length ≤ c) → (l.flatMap f).length ≤ l.length * c
  | [], _ => by simp
  | x :: l, h => by
    rw [List.flatMap_cons, List.length_append, List.length_cons, Nat.add_mul, Nat.one_mul]
    have h1 := h x (List.mem_cons_self ..)
    have h2 := flat_len (l := l) fun y hy => h y (List.mem_cons_of_mem _ hy)
    omega
theorem rows_bound {R : Str → Str → List Str} {c e : Nat} : ∀ {n : Nat} {ps : List (Str × Nat)}, ps.length = n → (∀ p ∈ ps, (R p.1 (sign p.2)).length ≤ c ∧ ∀ x ∈ R p.1 (sign p.2), x.length ≤ e) → (rowsF R ps).length ≤ c ^ n ∧ ∀ x ∈ rowsF R ps, x.length ≤ n * e
  | 0, ps, h, _ => by
    have : ps = [] := List.length_eq_zero_iff.mp h
    subst this
    refine ⟨by simp [rowsF], fun x hx => ?_⟩
    have : x = "" := by simpa [rowsF] using hx
    subst this
    exact Nat.zero_le _
  | n + 1, ps, h, hp => by
    have hne : ps ≠ [] := fun z => by rw [z] at h; cases h
    obtain ⟨qs, p, rfl⟩ : ∃ qs p, ps = qs ++ [p] := ⟨ps.dropLast, ps.getLast hne, (List.dropLast_concat_getLast hne).symm⟩
    have hq : qs.length = n := by simpa using h
    obtain ⟨b1, b2⟩ := rows_bound hq fun q hq => hp q (List.mem_append_left _ hq)
    obtain ⟨c1, c2⟩ := hp p (by simp)
    rw [rowsF_snoc]
    refine ⟨?_, fun x hx => ?_⟩
    · have := flat_len (l := rowsF R qs) (f := fun start => (R p.1 (sign p.2)).map (start ++ ·)) (c := c) fun x _ => by simpa using c1
      rw [Nat.pow_succ]
      exact Nat.le_trans this (Nat.mul_le_mul_right _ b1)
    · obtain ⟨s, hs, hx⟩ := List.mem_flatMap.mp hx
      obtain ⟨y, hy, rfl⟩ := List.mem_map.mp hx
      rw [len_app, Nat.add_mul, Nat.one_mul]
      have := b2 s hs
      have := c2 y hy
      omega
theorem flips_mem {f l : Nat} {n : Nat} {x : Str} (h : x ∈ flips (sign f) (sign l) n) : x.length = n := by
  unfold flips at h
  have l1 : (sign f).length = 1 := rfl
  have l2 : (sign l).length = 1 := rfl
  have l3 : (Str.ofString "?").length = 1 := rfl
  rcases List.mem_append.mp h with h | h
  · obtain ⟨m, hm, rfl⟩ := List.mem_map.mp h
    have hm := List.mem_range.mp hm
    rw [len_app, rep_len1 l1, rep_len1 l2]
    omega
  · obtain ⟨m, hm, rfl⟩ := List.mem_map.mp h
    have hm := List.mem_range.mp hm
    rw [len_app, len_app, rep_len1 l1, rep_len1 l2, l3]
    omega
theorem raw_bound {k b : Str} {n : Nat} (hk : isK k = true) (hb : isBit b = true) (hn : n ≤ 8) : (rawReads k b n).length ≤ 17 ∧ ∀ x ∈ rawReads k b n, x.length = n := by
  have fl : ∀ f l : Nat, (sortS (flips (sign f) (sign l) n)).length ≤ 17 ∧ ∀ x ∈ sortS (flips (sign f) (sign l) n), x.length = n := fun f l => by
    refine ⟨?_, fun x hx => flips_mem ((sort_perm _).mem_iff.mp hx)⟩
    rw [(sort_perm _).length_eq]
    unfold flips
    simp
    omega
  by_cases c1 : b = "?"
  · by_cases c2 : k = "plain"
    · rw [raw_one (.inr c2)]
      refine ⟨by simp, fun x hx => ?_⟩
      rw [List.mem_singleton.mp hx, rep_len1 (isBit_len hb)]
      simp
    · have ek : k = "low" ∨ k = "high" := by
        simp only [isK, Bool.or_eq_true, beq_iff_eq] at hk
        exact hk.resolve_left c2
      subst c1
      rcases ek with rfl | rfl
      · exact fl 48 49
      · exact fl 49 48
  · rw [raw_one (.inl c1)]
    refine ⟨by simp, fun x hx => ?_⟩
    rw [List.mem_singleton.mp hx, rep_len1 (isBit_len hb)]
    simp
theorem zipD_map {α β : Type} (f : α → D) (g : β → D) : ∀ (xs : List α) (ys : List β), zipD (xs.map f) (ys.map g) = (xs.zip ys).map fun p => .tup [f p.1, g p.2]
  | [], _ => by simp [zipD]
  | _ :: _, [] => by simp [zipD]
  | x :: xs, y :: ys => by simp [zipD, zipD_map f g xs ys]
theorem r_raw_rows (h : sp_raw_rows K ws Q Y) : t_raw_rows K (dEnds Q Y) (start0 N_raw_rows ws) := by
  obtain ⟨ds, e, hl, ⟨ks, r, z, rfl, hk, h3, hz, hb, h1, h8⟩, q⟩ := h
  have := pures_len e
  subst this
  have er : ((r.toNat : Nat) : Int) = r := by omega
  have hcl : ks.length = z.cps.toList.length := by rw [hz]; simp [Str.length]
  simp only [List.map_cons, List.map_nil, List.getD_cons_zero, List.getD_cons_succ, str, nat, dstrs, DS', DI'] at q ⊢
  have eks : (ks.map fun k => D.sc (.str k)).map str = ks := by rw [List.map_map]; simp [Function.comp_def, str]
  rw [eks] at q
  unfold t_raw_rows
  refine seq_o fun N hN => ?_
  simp only [N_raw_rows, dSet, dRet, dRetN, dIfS, dFor, dIt, dgName, dgNil, dgCons, dgTup, dgLst, dgTxt, dgSet, dVar, dC, dG, dOp, dUn, dCallP, dCons, dNil, dTst, dAnd, dOr, dNot, dAndV, dOrV, dNotV, dIf, dFz, dTup, dLst, dCall, dChain, dSl, dONo, dOSome, dMs, dMi, dAsg, dPar, dDrop, dLc, dLc2, dYes, dRng1, dRng2, dEnum, dZip, dLam, dNewD, dRaise, dNext, dBrk, dCnt, DS.put, DS.wipe, DS.rest, wipeL, restL, val, slD, vals, frz1, put1, out1, pures, dargs, dback, getM, setM, M.frz, start0, par, dEnds, isRes, itemsD, p2i, addP, subP, mulP, divP, modP, powP, DL.ltP, DL.leP, DL.gtP, DL.geP, eqP, inP, isNP, ixP, lenP, isiP, allP, anyP, intP, listP, tupleP, sortedSP, reprP, slP, revP, negP, findP, countP, joinP, appP, insP, tyD, lenD, dMl, lcountP, isBP, dLSet, dLRg, List.getElem?_cons_zero, List.getElem?_cons_succ, List.set_cons_zero, List.set_cons_succ, List.cons_append, List.nil_append, List.replicate_succ, List.replicate_zero, List.length_cons, List.length_nil, Option.some.injEq, exists_eq_left', exists_eq_left, Wv.pu.injEq, D.sc.injEq, V.bl.injEq, V.int.injEq, V.str.injEq, Nat.reduceSub, Nat.reduceAdd, List.cons.injEq, and_true, true_and, exists_and_left, Option.map_some, if_true, if_false, Bool.false_eq_true, exists_eq_right, ex2a, ex2b, ex2c, D.tup.injEq, D.lst.injEq, M.lst.injEq, eq_self]
  refine ⟨by decide, ?_⟩
  subst hN
  refine seq_o fun N hN => ?_
  simp only [dSet, dRet, dRetN, dIfS, dFor, dIt, dgName, dgNil, dgCons, dgTup, dgLst, dgTxt, dgSet, dVar, dC, dG, dOp, dUn, dCallP, dCons, dNil, dTst, dAnd, dOr, dNot, dAndV, dOrV, dNotV, dIf, dFz, dTup, dLst, dCall, dChain, dSl, dONo, dOSome, dMs, dMi, dAsg, dPar, dDrop, dLc, dLc2, dYes, dRng1, dRng2, dEnum, dZip, dLam, dNewD, dRaise, dNext, dBrk, dCnt, DS.put, DS.wipe, DS.rest, wipeL, restL, val, slD, vals, frz1, put1, out1, pures, dargs, dback, getM, setM, M.frz, start0, par, dEnds, isRes, itemsD, p2i, addP, subP, mulP, divP, modP, powP, DL.ltP, DL.leP, DL.gtP, DL.geP, eqP, inP, isNP, ixP, lenP, isiP, allP, anyP, intP, listP, tupleP, sortedSP, reprP, slP, revP, negP, findP, countP, joinP, appP, insP, tyD, lenD, dMl, lcountP, isBP, dLSet, dLRg, List.getElem?_cons_zero, List.getElem?_cons_succ, List.set_cons_zero, List.set_cons_succ, List.cons_append, List.nil_append, List.replicate_succ, List.replicate_zero, List.length_cons, List.length_nil, Option.some.injEq, exists_eq_left', exists_eq_left, Wv.pu.injEq, D.sc.injEq, V.bl.injEq, V.int.injEq, V.str.injEq, Nat.reduceSub, Nat.reduceAdd, List.cons.injEq, and_true, true_and, exists_and_left, Option.map_some, if_true, if_false, Bool.false_eq_true, exists_eq_right, ex2a, ex2b, ex2c, D.tup.injEq, D.lst.injEq, M.lst.injEq, eq_self]
  refine ⟨fun _ => by simpa using hcl, ?_⟩
  rw [zipD_map]
  refine for_i (fun j δ => ∃ x y, δ = ⟨[some (.pu (.tup (ks.map fun k => D.sc (.str k)))), some (.pu (.sc (.int r))), some (.pu (.sc (.str z))), some (strsL (rowsF (fun k b => rawReads k b r.toNat) ((ks.zip z.cps.toList).take j))), x, y, none, none], [.pu (.tup (ks.map fun k => D.sc (.str k))), .pu (.sc (.int r)), .pu (.sc (.str z))]⟩) ⟨none, none, rfl⟩ (fun j d δ K' hd hI k => ?_) (fun δ hI => ?_)
  · obtain ⟨x, y, rfl⟩ := hI
    rw [List.getElem?_map] at hd
    cases hp : (ks.zip z.cps.toList)[j]? with
    | none => rw [hp] at hd; cases hd
    | some p =>
      rw [hp] at hd
      cases hd
      have hm : p ∈ ks.zip z.cps.toList := List.mem_of_getElem? hp
      have hj : j < ks.length := by
        have := (List.getElem?_eq_some_iff.mp hp).1
        rw [List.length_zip] at this
        omega
      have hpk := hk p.1 (List.of_mem_zip hm).1
      have hpb := hb p.2 (List.of_mem_zip hm).2
      obtain ⟨m1, m2⟩ := raw_bound hpk hpb (show r.toNat ≤ 8 by omega)
      have bd : ∀ q' ∈ (ks.zip z.cps.toList).take j, (rawReads q'.1 (sign q'.2) r.toNat).length ≤ 17 ∧ ∀ x ∈ rawReads q'.1 (sign q'.2) r.toNat, x.length ≤ 8 := fun q' hq' => by
        have hm' := List.mem_of_mem_take hq'
        obtain ⟨a1, a2⟩ := raw_bound (hk _ (List.of_mem_zip hm').1) (hb _ (List.of_mem_zip hm').2) (show r.toNat ≤ 8 by omega)
        exact ⟨a1, fun x hx => by rw [a2 x hx]; omega⟩
      have lt : ((ks.zip z.cps.toList).take j).length = j := by
        rw [List.length_take, List.length_zip]
        omega
      obtain ⟨b1, b2⟩ := rows_bound (R := fun k b => rawReads k b r.toNat) (c := 17) (e := 8) lt bd
      have p17 : 17 ^ j ≤ 289 := by
        have : j ≤ 2 := by omega
        exact Nat.le_trans (Nat.pow_le_pow_right (by decide) this) (by decide)
      simp only [dSet, dRet, dRetN, dIfS, dFor, dIt, dgName, dgNil, dgCons, dgTup, dgLst, dgTxt, dgSet, dVar, dC, dG, dOp, dUn, dCallP, dCons, dNil, dTst, dAnd, dOr, dNot, dAndV, dOrV, dNotV, dIf, dFz, dTup, dLst, dCall, dChain, dSl, dONo, dOSome, dMs, dMi, dAsg, dPar, dDrop, dLc, dLc2, dYes, dRng1, dRng2, dEnum, dZip, dLam, dNewD, dRaise, dNext, dBrk, dCnt, DS.put, DS.wipe, DS.rest, wipeL, restL, val, slD, vals, frz1, put1, out1, pures, dargs, dback, getM, setM, M.frz, start0, par, dEnds, isRes, itemsD, p2i, addP, subP, mulP, divP, modP, powP, DL.ltP, DL.leP, DL.gtP, DL.geP, eqP, inP, isNP, ixP, lenP, isiP, allP, anyP, intP, listP, tupleP, sortedSP, reprP, slP, revP, negP, findP, countP, joinP, appP, insP, tyD, lenD, dMl, lcountP, isBP, dLSet, dLRg, List.getElem?_cons_zero, List.getElem?_cons_succ, List.set_cons_zero, List.set_cons_succ, List.cons_append, List.nil_append, List.replicate_succ, List.replicate_zero, List.length_cons, List.length_nil, Option.some.injEq, exists_eq_left', exists_eq_left, Wv.pu.injEq, D.sc.injEq, V.bl.injEq, V.int.injEq, V.str.injEq, Nat.reduceSub, Nat.reduceAdd, List.cons.injEq, and_true, true_and, exists_and_left, Option.map_some, if_true, if_false, Bool.false_eq_true, exists_eq_right, ex2a, ex2b, ex2c, D.tup.injEq, D.lst.injEq, M.lst.injEq, eq_self, strsL]
      refine comp2_flat (fun d => (rawReads p.1 (sign p.2) r.toNat).map fun row => DS' (str d ++ row)) _ [] _ (fun d hd acc K2 hz2 k2 => ?_) ?_ ?_
      · obtain ⟨start, hs, rfl⟩ := List.mem_map.mp hd
        simp only [dSet, dRet, dRetN, dIfS, dFor, dIt, dgName, dgNil, dgCons, dgTup, dgLst, dgTxt, dgSet, dVar, dC, dG, dOp, dUn, dCallP, dCons, dNil, dTst, dAnd, dOr, dNot, dAndV, dOrV, dNotV, dIf, dFz, dTup, dLst, dCall, dChain, dSl, dONo, dOSome, dMs, dMi, dAsg, dPar, dDrop, dLc, dLc2, dYes, dRng1, dRng2, dEnum, dZip, dLam, dNewD, dRaise, dNext, dBrk, dCnt, DS.put, DS.wipe, DS.rest, wipeL, restL, val, slD, vals, frz1, put1, out1, pures, dargs, dback, getM, setM, M.frz, start0, par, dEnds, isRes, itemsD, p2i, addP, subP, mulP, divP, modP, powP, DL.ltP, DL.leP, DL.gtP, DL.geP, eqP, inP, isNP, ixP, lenP, isiP, allP, anyP, intP, listP, tupleP, sortedSP, reprP, slP, revP, negP, findP, countP, joinP, appP, insP, tyD, lenD, dMl, lcountP, isBP, dLSet, dLRg, List.getElem?_cons_zero, List.getElem?_cons_succ, List.set_cons_zero, List.set_cons_succ, List.cons_append, List.nil_append, List.replicate_succ, List.replicate_zero, List.length_cons, List.length_nil, Option.some.injEq, exists_eq_left', exists_eq_left, Wv.pu.injEq, D.sc.injEq, V.bl.injEq, V.int.injEq, V.str.injEq, Nat.reduceSub, Nat.reduceAdd, List.cons.injEq, and_true, true_and, exists_and_left, Option.map_some, if_true, if_false, Bool.false_eq_true, exists_eq_right, ex2a, ex2b, ex2c, D.tup.injEq, D.lst.injEq, M.lst.injEq, eq_self]
        refine call_ok (ds := [DS' p.1, DS' (sign p.2), DI' r]) rfl rfl ⟨p.1, sign p.2, r, rfl, hpk, hpb, h1, h8⟩ ?_
        simp only [dSet, dRet, dRetN, dIfS, dFor, dIt, dgName, dgNil, dgCons, dgTup, dgLst, dgTxt, dgSet, dVar, dC, dG, dOp, dUn, dCallP, dCons, dNil, dTst, dAnd, dOr, dNot, dAndV, dOrV, dNotV, dIf, dFz, dTup, dLst, dCall, dChain, dSl, dONo, dOSome, dMs, dMi, dAsg, dPar, dDrop, dLc, dLc2, dYes, dRng1, dRng2, dEnum, dZip, dLam, dNewD, dRaise, dNext, dBrk, dCnt, DS.put, DS.wipe, DS.rest, wipeL, restL, val, slD, vals, frz1, put1, out1, pures, dargs, dback, getM, setM, M.frz, start0, par, dEnds, isRes, itemsD, p2i, addP, subP, mulP, divP, modP, powP, DL.ltP, DL.leP, DL.gtP, DL.geP, eqP, inP, isNP, ixP, lenP, isiP, allP, anyP, intP, listP, tupleP, sortedSP, reprP, slP, revP, negP, findP, countP, joinP, appP, insP, tyD, lenD, dMl, lcountP, isBP, dLSet, dLRg, List.getElem?_cons_zero, List.getElem?_cons_succ, List.set_cons_zero, List.set_cons_succ, List.cons_append, List.nil_append, List.replicate_succ, List.replicate_zero, List.length_cons, List.length_nil, Option.some.injEq, exists_eq_left', exists_eq_left, Wv.pu.injEq, D.sc.injEq, V.bl.injEq, V.int.injEq, V.str.injEq, Nat.reduceSub, Nat.reduceAdd, List.cons.injEq, and_true, true_and, exists_and_left, Option.map_some, if_true, if_false, Bool.false_eq_true, exists_eq_right, ex2a, ex2b, ex2c, D.tup.injEq, D.lst.injEq, M.lst.injEq, eq_self, strsL, List.getD_cons_zero, List.getD_cons_succ, str, nat]
        have e4 : ((rawReads p.1 (sign p.2) r.toNat).map fun z => DS' z).map (fun d => DS' (start ++ str d)) = (rawReads p.1 (sign p.2) r.toNat).map fun row => DS' (str (DS' start) ++ row) := by
          rw [List.map_map]
          rfl
        have := DL.comp_map (gt := dgName 7) (te := dFz (dOp addP (dVar 6) (dVar 7))) (vs := [7]) (fun d => DS' (start ++ str d))
          (δ := ⟨[some (.pu (.tup (ks.map fun k => D.sc (.str k)))), some (.pu (.sc (.int r))), some (.pu (.sc (.str z))), some (.pu (.lst ((rowsF (fun k b => rawReads k b r.toNat) ((ks.zip z.cps.toList).take j)).map fun z => DS' z))), some (.pu (DS' p.1)), some (.pu (DS' (sign p.2))), some (.pu (DS' start)), none], [.pu (.tup (ks.map fun k => D.sc (.str k))), .pu (.sc (.int r)), .pu (.sc (.str z))]⟩)
          ((rawReads p.1 (sign p.2) r.toNat).map fun z => DS' z) acc K2 (fun d hd K3 k3 => by
            obtain ⟨row, hr, rfl⟩ := List.mem_map.mp hd
            simp only [dSet, dRet, dRetN, dIfS, dFor, dIt, dgName, dgNil, dgCons, dgTup, dgLst, dgTxt, dgSet, dVar, dC, dG, dOp, dUn, dCallP, dCons, dNil, dTst, dAnd, dOr, dNot, dAndV, dOrV, dNotV, dIf, dFz, dTup, dLst, dCall, dChain, dSl, dONo, dOSome, dMs, dMi, dAsg, dPar, dDrop, dLc, dLc2, dYes, dRng1, dRng2, dEnum, dZip, dLam, dNewD, dRaise, dNext, dBrk, dCnt, DS.put, DS.wipe, DS.rest, wipeL, restL, val, slD, vals, frz1, put1, out1, pures, dargs, dback, getM, setM, M.frz, start0, par, dEnds, isRes, itemsD, p2i, addP, subP, mulP, divP, modP, powP, DL.ltP, DL.leP, DL.gtP, DL.geP, eqP, inP, isNP, ixP, lenP, isiP, allP, anyP, intP, listP, tupleP, sortedSP, reprP, slP, revP, negP, findP, countP, joinP, appP, insP, tyD, lenD, dMl, lcountP, isBP, dLSet, dLRg, List.getElem?_cons_zero, List.getElem?_cons_succ, List.set_cons_zero, List.set_cons_succ, List.cons_append, List.nil_append, List.replicate_succ, List.replicate_zero, List.length_cons, List.length_nil, Option.some.injEq, exists_eq_left', exists_eq_left, Wv.pu.injEq, D.sc.injEq, V.bl.injEq, V.int.injEq, V.str.injEq, Nat.reduceSub, Nat.reduceAdd, List.cons.injEq, and_true, true_and, exists_and_left, Option.map_some, if_true, if_false, Bool.false_eq_true, exists_eq_right, ex2a, ex2b, ex2c, D.tup.injEq, D.lst.injEq, M.lst.injEq, eq_self]
            have l1 := b2 start hs
            have l2 := m2 row hr
            exact ⟨small_sl (by have : j ≤ 2 := by omega
                                have : j * 8 ≤ 16 := by omega
                                omega), k3 _ rfl⟩) (by simpa using hz2) (by rw [e4]; exact k2 _ (by simp [dSet, dRet, dRetN, dIfS, dFor, dIt, dgName, dgNil, dgCons, dgTup, dgLst, dgTxt, dgSet, dVar, dC, dG, dOp, dUn, dCallP, dCons, dNil, dTst, dAnd, dOr, dNot, dAndV, dOrV, dNotV, dIf, dFz, dTup, dLst, dCall, dChain, dSl, dONo, dOSome, dMs, dMi, dAsg, dPar, dDrop, dLc, dLc2, dYes, dRng1, dRng2, dEnum, dZip, dLam, dNewD, dRaise, dNext, dBrk, dCnt, DS.put, DS.wipe, DS.rest, wipeL, restL, val, slD, vals, frz1, put1, out1, pures, dargs, dback, getM, setM, M.frz, start0, par, dEnds, isRes, itemsD, p2i, addP, subP, mulP, divP, modP, powP, DL.ltP, DL.leP, DL.gtP, DL.geP, eqP, inP, isNP, ixP, lenP, isiP, allP, anyP, intP, listP, tupleP, sortedSP, reprP, slP, revP, negP, findP, countP, joinP, appP, insP, tyD, lenD, dMl, lcountP, isBP, dLSet, dLRg, List.getElem?_cons_zero, List.getElem?_cons_succ, List.set_cons_zero, List.set_cons_succ, List.cons_append, List.nil_append, List.replicate_succ, List.replicate_zero, List.length_cons, List.length_nil, Option.some.injEq, exists_eq_left', exists_eq_left, Wv.pu.injEq, D.sc.injEq, V.bl.injEq, V.int.injEq, V.str.injEq, Nat.reduceSub, Nat.reduceAdd, List.cons.injEq, and_true, true_and, exists_and_left, Option.map_some, if_true, if_false, Bool.false_eq_true, exists_eq_right, ex2a, ex2b, ex2c, D.tup.injEq, D.lst.injEq, M.lst.injEq, eq_self]))
        simpa [List.map_map, Function.comp_def, str] using this
      · rw [List.length_nil, Nat.zero_add]
        refine small_sl (Nat.le_trans (flat_len (c := 17) fun x hx => by simpa using m1) ?_)
        rw [List.length_map]
        have : (rowsF (fun k b => rawReads k b r.toNat) ((ks.zip z.cps.toList).take j)).length ≤ 289 := Nat.le_trans b1 p17
        omega
      · refine k _ ⟨some (.pu (DS' p.1)), some (.pu (DS' (sign p.2))), ?_⟩
        have e1 : (ks.zip z.cps.toList).take (j + 1) = (ks.zip z.cps.toList).take j ++ [p] := by
          rw [List.take_succ, hp]
          rfl
        rw [e1, rowsF_snoc, List.nil_append]
        simp only [dSet, dRet, dRetN, dIfS, dFor, dIt, dgName, dgNil, dgCons, dgTup, dgLst, dgTxt, dgSet, dVar, dC, dG, dOp, dUn, dCallP, dCons, dNil, dTst, dAnd, dOr, dNot, dAndV, dOrV, dNotV, dIf, dFz, dTup, dLst, dCall, dChain, dSl, dONo, dOSome, dMs, dMi, dAsg, dPar, dDrop, dLc, dLc2, dYes, dRng1, dRng2, dEnum, dZip, dLam, dNewD, dRaise, dNext, dBrk, dCnt, DS.put, DS.wipe, DS.rest, wipeL, restL, val, slD, vals, frz1, put1, out1, pures, dargs, dback, getM, setM, M.frz, start0, par, dEnds, isRes, itemsD, p2i, addP, subP, mulP, divP, modP, powP, DL.ltP, DL.leP, DL.gtP, DL.geP, eqP, inP, isNP, ixP, lenP, isiP, allP, anyP, intP, listP, tupleP, sortedSP, reprP, slP, revP, negP, findP, countP, joinP, appP, insP, tyD, lenD, dMl, lcountP, isBP, dLSet, dLRg, List.getElem?_cons_zero, List.getElem?_cons_succ, List.set_cons_zero, List.set_cons_succ, List.cons_append, List.nil_append, List.replicate_succ, List.replicate_zero, List.length_cons, List.length_nil, Option.some.injEq, exists_eq_left', exists_eq_left, Wv.pu.injEq, D.sc.injEq, V.bl.injEq, V.int.injEq, V.str.injEq, Nat.reduceSub, Nat.reduceAdd, List.cons.injEq, and_true, true_and, exists_and_left, Option.map_some, if_true, if_false, Bool.false_eq_true, exists_eq_right, ex2a, ex2b, ex2c, D.tup.injEq, D.lst.injEq, M.lst.injEq, eq_self, strsL, List.flatMap_map, List.map_flatMap, List.map_map, Function.comp_def, str]
  · obtain ⟨x, y, rfl⟩ := hI
    simp only [hN, dSet, dRet, dRetN, dIfS, dFor, dIt, dgName, dgNil, dgCons, dgTup, dgLst, dgTxt, dgSet, dVar, dC, dG, dOp, dUn, dCallP, dCons, dNil, dTst, dAnd, dOr, dNot, dAndV, dOrV, dNotV, dIf, dFz, dTup, dLst, dCall, dChain, dSl, dONo, dOSome, dMs, dMi, dAsg, dPar, dDrop, dLc, dLc2, dYes, dRng1, dRng2, dEnum, dZip, dLam, dNewD, dRaise, dNext, dBrk, dCnt, DS.put, DS.wipe, DS.rest, wipeL, restL, val, slD, vals, frz1, put1, out1, pures, dargs, dback, getM, setM, M.frz, start0, par, dEnds, isRes, itemsD, p2i, addP, subP, mulP, divP, modP, powP, DL.ltP, DL.leP, DL.gtP, DL.geP, eqP, inP, isNP, ixP, lenP, isiP, allP, anyP, intP, listP, tupleP, sortedSP, reprP, slP, revP, negP, findP, countP, joinP, appP, insP, tyD, lenD, dMl, lcountP, isBP, dLSet, dLRg, List.getElem?_cons_zero, List.getElem?_cons_succ, List.set_cons_zero, List.set_cons_succ, List.cons_append, List.nil_append, List.replicate_succ, List.replicate_zero, List.length_cons, List.length_nil, Option.some.injEq, exists_eq_left', exists_eq_left, Wv.pu.injEq, D.sc.injEq, V.bl.injEq, V.int.injEq, V.str.injEq, Nat.reduceSub, Nat.reduceAdd, List.cons.injEq, and_true, true_and, exists_and_left, Option.map_some, if_true, if_false, Bool.false_eq_true, exists_eq_right, ex2a, ex2b, ex2c, D.tup.injEq, D.lst.injEq, M.lst.injEq, eq_self, strsL]
    rw [List.length_map, List.take_length]
    exact q.2
end
end Lw

/-! text RD -/
set_option Elab.async false
set_option linter.all false
set_option maxRecDepth 100000
set_option maxHeartbeats 4000000
namespace Lw
open PySem PySem.Spec PyProof.Rows L2 DL
section
variable {P : Program} {w : World} {base : Heap} {K : PySem.W.Frag} {ws : List Wv} {Q : Wv → List Wv → Prop} {Y : Value → List Wv → Prop} {mg : Str → Option Value}
theorem r_are_kinds (h : sp_are_kinds K ws Q Y) : t_are_kinds K (dEnds Q Y) (start0 N_are_kinds ws) := by
  obtain ⟨ds, e, hl, hp, q⟩ := h
  obtain ⟨d, rfl⟩ := len1 hl
  obtain ⟨⟨⟨t, ht⟩, hz⟩, hx⟩ := hp d (by simp)
  have := pures_len e
  subst this
  cases d with
  | tup xs =>
    obtain ⟨hz2, hx⟩ := hx xs rfl
    simp only [List.map_cons, List.map_nil, t_are_kinds, N_are_kinds, dSet, dRet, dRetN, dIfS, dFor, dIt, dgName, dgNil, dgCons, dgTup, dgLst, dgTxt, dgSet, dVar, dC, dG, dOp, dUn, dCallP, dCons, dNil, dTst, dAnd, dOr, dNot, dAndV, dOrV, dNotV, dIf, dFz, dTup, dLst, dCall, dChain, dSl, dONo, dOSome, dMs, dMi, dAsg, dPar, dDrop, dLc, dLc2, dYes, dRng1, dRng2, dEnum, dZip, dLam, dNewD, dRaise, dNext, dBrk, dCnt, DS.put, DS.wipe, DS.rest, wipeL, restL, val, slD, vals, frz1, put1, out1, pures, dargs, dback, getM, setM, M.frz, start0, par, dEnds, isRes, itemsD, p2i, addP, subP, mulP, divP, modP, powP, DL.ltP, DL.leP, DL.gtP, DL.geP, eqP, inP, isNP, ixP, lenP, isiP, allP, anyP, intP, listP, tupleP, sortedSP, reprP, slP, revP, negP, findP, countP, joinP, appP, insP, tyD, lenD, dMl, lcountP, isBP, dLSet, dLRg, List.getElem?_cons_zero, List.getElem?_cons_succ, List.set_cons_zero, List.set_cons_succ, List.cons_append, List.nil_append, List.replicate_succ, List.replicate_zero, List.length_cons, List.length_nil, Option.some.injEq, exists_eq_left', exists_eq_left, Wv.pu.injEq, D.sc.injEq, V.bl.injEq, V.int.injEq, V.str.injEq, Nat.reduceSub, Nat.reduceAdd, List.cons.injEq, and_true, true_and, exists_and_left, Option.map_some, if_true, if_false, Bool.false_eq_true, exists_eq_right, ex2a, ex2b, ex2c, D.tup.injEq, D.lst.injEq, M.lst.injEq, eq_self, kb_NoneType_bool, kb_NoneType_int, kb_NoneType_str, kb_NoneType_tuple, kb_NoneType_list, kb_NoneType_dict, kb_bool_bool, kb_bool_int, kb_bool_str, kb_bool_tuple, kb_bool_list, kb_bool_dict, kb_int_bool, kb_int_int, kb_int_str, kb_int_tuple, kb_int_list, kb_int_dict, kb_str_bool, kb_str_int, kb_str_str, kb_str_tuple, kb_str_list, kb_str_dict, kb_tuple_bool, kb_tuple_int, kb_tuple_str, kb_tuple_tuple, kb_tuple_list, kb_tuple_dict, kb_list_bool, kb_list_int, kb_list_str, kb_list_tuple, kb_list_list, kb_list_dict, kb_dict_bool, kb_dict_int, kb_dict_str, kb_dict_tuple, kb_dict_list, kb_dict_dict, List.headD_cons, areK] at q ⊢
    by_cases h1 : 1 ≤ xs.length
    · have i1 : (1 : Int) ≤ (xs.length : Int) := by omega
      by_cases h2 : xs.length ≤ 3
      · have i2 : (xs.length : Int) ≤ 3 := by omega
        simp only [i1, i2, h1, h2, dSet, dRet, dRetN, dIfS, dFor, dIt, dgName, dgNil, dgCons, dgTup, dgLst, dgTxt, dgSet, dVar, dC, dG, dOp, dUn, dCallP, dCons, dNil, dTst, dAnd, dOr, dNot, dAndV, dOrV, dNotV, dIf, dFz, dTup, dLst, dCall, dChain, dSl, dONo, dOSome, dMs, dMi, dAsg, dPar, dDrop, dLc, dLc2, dYes, dRng1, dRng2, dEnum, dZip, dLam, dNewD, dRaise, dNext, dBrk, dCnt, DS.put, DS.wipe, DS.rest, wipeL, restL, val, slD, vals, frz1, put1, out1, pures, dargs, dback, getM, setM, M.frz, start0, par, dEnds, isRes, itemsD, p2i, addP, subP, mulP, divP, modP, powP, DL.ltP, DL.leP, DL.gtP, DL.geP, eqP, inP, isNP, ixP, lenP, isiP, allP, anyP, intP, listP, tupleP, sortedSP, reprP, slP, revP, negP, findP, countP, joinP, appP, insP, tyD, lenD, dMl, lcountP, isBP, dLSet, dLRg, List.getElem?_cons_zero, List.getElem?_cons_succ, List.set_cons_zero, List.set_cons_succ, List.cons_append, List.nil_append, List.replicate_succ, List.replicate_zero, List.length_cons, List.length_nil, Option.some.injEq, exists_eq_left', exists_eq_left, Wv.pu.injEq, D.sc.injEq, V.bl.injEq, V.int.injEq, V.str.injEq, Nat.reduceSub, Nat.reduceAdd, List.cons.injEq, and_true, true_and, exists_and_left, Option.map_some, if_true, if_false, Bool.false_eq_true, exists_eq_right, ex2a, ex2b, ex2c, D.tup.injEq, D.lst.injEq, M.lst.injEq, eq_self, decide_true, Bool.true_and, DB'] at q ⊢
        refine comp_map (fun d => DB' (isKD d)) xs [] _ (fun d hd K2 k => ?_) (by simpa using hz2) ?_
        · simp only [dSet, dRet, dRetN, dIfS, dFor, dIt, dgName, dgNil, dgCons, dgTup, dgLst, dgTxt, dgSet, dVar, dC, dG, dOp, dUn, dCallP, dCons, dNil, dTst, dAnd, dOr, dNot, dAndV, dOrV, dNotV, dIf, dFz, dTup, dLst, dCall, dChain, dSl, dONo, dOSome, dMs, dMi, dAsg, dPar, dDrop, dLc, dLc2, dYes, dRng1, dRng2, dEnum, dZip, dLam, dNewD, dRaise, dNext, dBrk, dCnt, DS.put, DS.wipe, DS.rest, wipeL, restL, val, slD, vals, frz1, put1, out1, pures, dargs, dback, getM, setM, M.frz, start0, par, dEnds, isRes, itemsD, p2i, addP, subP, mulP, divP, modP, powP, DL.ltP, DL.leP, DL.gtP, DL.geP, eqP, inP, isNP, ixP, lenP, isiP, allP, anyP, intP, listP, tupleP, sortedSP, reprP, slP, revP, negP, findP, countP, joinP, appP, insP, tyD, lenD, dMl, lcountP, isBP, dLSet, dLRg, List.getElem?_cons_zero, List.getElem?_cons_succ, List.set_cons_zero, List.set_cons_succ, List.cons_append, List.nil_append, List.replicate_succ, List.replicate_zero, List.length_cons, List.length_nil, Option.some.injEq, exists_eq_left', exists_eq_left, Wv.pu.injEq, D.sc.injEq, V.bl.injEq, V.int.injEq, V.str.injEq, Nat.reduceSub, Nat.reduceAdd, List.cons.injEq, and_true, true_and, exists_and_left, Option.map_some, if_true, if_false, Bool.false_eq_true, exists_eq_right, ex2a, ex2b, ex2c, D.tup.injEq, D.lst.injEq, M.lst.injEq, eq_self]
          refine call_ok (ds := [d]) rfl rfl (by simpa using hx d hd) ?_
          simp only [dSet, dRet, dRetN, dIfS, dFor, dIt, dgName, dgNil, dgCons, dgTup, dgLst, dgTxt, dgSet, dVar, dC, dG, dOp, dUn, dCallP, dCons, dNil, dTst, dAnd, dOr, dNot, dAndV, dOrV, dNotV, dIf, dFz, dTup, dLst, dCall, dChain, dSl, dONo, dOSome, dMs, dMi, dAsg, dPar, dDrop, dLc, dLc2, dYes, dRng1, dRng2, dEnum, dZip, dLam, dNewD, dRaise, dNext, dBrk, dCnt, DS.put, DS.wipe, DS.rest, wipeL, restL, val, slD, vals, frz1, put1, out1, pures, dargs, dback, getM, setM, M.frz, start0, par, dEnds, isRes, itemsD, p2i, addP, subP, mulP, divP, modP, powP, DL.ltP, DL.leP, DL.gtP, DL.geP, eqP, inP, isNP, ixP, lenP, isiP, allP, anyP, intP, listP, tupleP, sortedSP, reprP, slP, revP, negP, findP, countP, joinP, appP, insP, tyD, lenD, dMl, lcountP, isBP, dLSet, dLRg, List.getElem?_cons_zero, List.getElem?_cons_succ, List.set_cons_zero, List.set_cons_succ, List.cons_append, List.nil_append, List.replicate_succ, List.replicate_zero, List.length_cons, List.length_nil, Option.some.injEq, exists_eq_left', exists_eq_left, Wv.pu.injEq, D.sc.injEq, V.bl.injEq, V.int.injEq, V.str.injEq, Nat.reduceSub, Nat.reduceAdd, List.cons.injEq, and_true, true_and, exists_and_left, Option.map_some, if_true, if_false, Bool.false_eq_true, exists_eq_right, ex2a, ex2b, ex2c, D.tup.injEq, D.lst.injEq, M.lst.injEq, eq_self, List.headD_cons]
          exact k _ rfl
        · rw [List.nil_append]
          show ∃ bs, bools (xs.map fun x => DB' (isKD x)) = some bs ∧ _
          rw [bools_mapF]
          refine ⟨_, rfl, ?_⟩
          have e : (xs.map isKD).all id = xs.all isKD := by simp [List.all_map]
          rw [e]
          exact q
      · have i2 : ¬ (xs.length : Int) ≤ 3 := by omega
        simp only [i1, i2, h1, h2, dSet, dRet, dRetN, dIfS, dFor, dIt, dgName, dgNil, dgCons, dgTup, dgLst, dgTxt, dgSet, dVar, dC, dG, dOp, dUn, dCallP, dCons, dNil, dTst, dAnd, dOr, dNot, dAndV, dOrV, dNotV, dIf, dFz, dTup, dLst, dCall, dChain, dSl, dONo, dOSome, dMs, dMi, dAsg, dPar, dDrop, dLc, dLc2, dYes, dRng1, dRng2, dEnum, dZip, dLam, dNewD, dRaise, dNext, dBrk, dCnt, DS.put, DS.wipe, DS.rest, wipeL, restL, val, slD, vals, frz1, put1, out1, pures, dargs, dback, getM, setM, M.frz, start0, par, dEnds, isRes, itemsD, p2i, addP, subP, mulP, divP, modP, powP, DL.ltP, DL.leP, DL.gtP, DL.geP, eqP, inP, isNP, ixP, lenP, isiP, allP, anyP, intP, listP, tupleP, sortedSP, reprP, slP, revP, negP, findP, countP, joinP, appP, insP, tyD, lenD, dMl, lcountP, isBP, dLSet, dLRg, List.getElem?_cons_zero, List.getElem?_cons_succ, List.set_cons_zero, List.set_cons_succ, List.cons_append, List.nil_append, List.replicate_succ, List.replicate_zero, List.length_cons, List.length_nil, Option.some.injEq, exists_eq_left', exists_eq_left, Wv.pu.injEq, D.sc.injEq, V.bl.injEq, V.int.injEq, V.str.injEq, Nat.reduceSub, Nat.reduceAdd, List.cons.injEq, and_true, true_and, exists_and_left, Option.map_some, if_true, if_false, Bool.false_eq_true, exists_eq_right, ex2a, ex2b, ex2c, D.tup.injEq, D.lst.injEq, M.lst.injEq, eq_self, decide_true, decide_false, Bool.true_and, Bool.false_and, DB'] at q ⊢
        exact q
    · have i1 : ¬ (1 : Int) ≤ (xs.length : Int) := by omega
      simp only [i1, h1, dSet, dRet, dRetN, dIfS, dFor, dIt, dgName, dgNil, dgCons, dgTup, dgLst, dgTxt, dgSet, dVar, dC, dG, dOp, dUn, dCallP, dCons, dNil, dTst, dAnd, dOr, dNot, dAndV, dOrV, dNotV, dIf, dFz, dTup, dLst, dCall, dChain, dSl, dONo, dOSome, dMs, dMi, dAsg, dPar, dDrop, dLc, dLc2, dYes, dRng1, dRng2, dEnum, dZip, dLam, dNewD, dRaise, dNext, dBrk, dCnt, DS.put, DS.wipe, DS.rest, wipeL, restL, val, slD, vals, frz1, put1, out1, pures, dargs, dback, getM, setM, M.frz, start0, par, dEnds, isRes, itemsD, p2i, addP, subP, mulP, divP, modP, powP, DL.ltP, DL.leP, DL.gtP, DL.geP, eqP, inP, isNP, ixP, lenP, isiP, allP, anyP, intP, listP, tupleP, sortedSP, reprP, slP, revP, negP, findP, countP, joinP, appP, insP, tyD, lenD, dMl, lcountP, isBP, dLSet, dLRg, List.getElem?_cons_zero, List.getElem?_cons_succ, List.set_cons_zero, List.set_cons_succ, List.cons_append, List.nil_append, List.replicate_succ, List.replicate_zero, List.length_cons, List.length_nil, Option.some.injEq, exists_eq_left', exists_eq_left, Wv.pu.injEq, D.sc.injEq, V.bl.injEq, V.int.injEq, V.str.injEq, Nat.reduceSub, Nat.reduceAdd, List.cons.injEq, and_true, true_and, exists_and_left, Option.map_some, if_true, if_false, Bool.false_eq_true, exists_eq_right, ex2a, ex2b, ex2c, D.tup.injEq, D.lst.injEq, M.lst.injEq, eq_self, decide_false, Bool.false_and, DB'] at q ⊢
      exact q
  | sc v => cases v <;> simp only [List.map_cons, List.map_nil, t_are_kinds, N_are_kinds, dSet, dRet, dRetN, dIfS, dFor, dIt, dgName, dgNil, dgCons, dgTup, dgLst, dgTxt, dgSet, dVar, dC, dG, dOp, dUn, dCallP, dCons, dNil, dTst, dAnd, dOr, dNot, dAndV, dOrV, dNotV, dIf, dFz, dTup, dLst, dCall, dChain, dSl, dONo, dOSome, dMs, dMi, dAsg, dPar, dDrop, dLc, dLc2, dYes, dRng1, dRng2, dEnum, dZip, dLam, dNewD, dRaise, dNext, dBrk, dCnt, DS.put, DS.wipe, DS.rest, wipeL, restL, val, slD, vals, frz1, put1, out1, pures, dargs, dback, getM, setM, M.frz, start0, par, dEnds, isRes, itemsD, p2i, addP, subP, mulP, divP, modP, powP, DL.ltP, DL.leP, DL.gtP, DL.geP, eqP, inP, isNP, ixP, lenP, isiP, allP, anyP, intP, listP, tupleP, sortedSP, reprP, slP, revP, negP, findP, countP, joinP, appP, insP, tyD, lenD, dMl, lcountP, isBP, dLSet, dLRg, List.getElem?_cons_zero, List.getElem?_cons_succ, List.set_cons_zero, List.set_cons_succ, List.cons_append, List.nil_append, List.replicate_succ, List.replicate_zero, List.length_cons, List.length_nil, Option.some.injEq, exists_eq_left', exists_eq_left, Wv.pu.injEq, D.sc.injEq, V.bl.injEq, V.int.injEq, V.str.injEq, Nat.reduceSub, Nat.reduceAdd, List.cons.injEq, and_true, true_and, exists_and_left, Option.map_some, if_true, if_false, Bool.false_eq_true, exists_eq_right, ex2a, ex2b, ex2c, D.tup.injEq, D.lst.injEq, M.lst.injEq, eq_self, kb_NoneType_bool, kb_NoneType_int, kb_NoneType_str, kb_NoneType_tuple, kb_NoneType_list, kb_NoneType_dict, kb_bool_bool, kb_bool_int, kb_bool_str, kb_bool_tuple, kb_bool_list, kb_bool_dict, kb_int_bool, kb_int_int, kb_int_str, kb_int_tuple, kb_int_list, kb_int_dict, kb_str_bool, kb_str_int, kb_str_str, kb_str_tuple, kb_str_list, kb_str_dict, kb_tuple_bool, kb_tuple_int, kb_tuple_str, kb_tuple_tuple, kb_tuple_list, kb_tuple_dict, kb_list_bool, kb_list_int, kb_list_str, kb_list_tuple, kb_list_list, kb_list_dict, kb_dict_bool, kb_dict_int, kb_dict_str, kb_dict_tuple, kb_dict_list, kb_dict_dict, List.headD_cons, areK, DB'] at q ht ⊢ <;> first | exact q | cases ht
  | scr ns => cases ht
  | _ => simp only [List.map_cons, List.map_nil, t_are_kinds, N_are_kinds, dSet, dRet, dRetN, dIfS, dFor, dIt, dgName, dgNil, dgCons, dgTup, dgLst, dgTxt, dgSet, dVar, dC, dG, dOp, dUn, dCallP, dCons, dNil, dTst, dAnd, dOr, dNot, dAndV, dOrV, dNotV, dIf, dFz, dTup, dLst, dCall, dChain, dSl, dONo, dOSome, dMs, dMi, dAsg, dPar, dDrop, dLc, dLc2, dYes, dRng1, dRng2, dEnum, dZip, dLam, dNewD, dRaise, dNext, dBrk, dCnt, DS.put, DS.wipe, DS.rest, wipeL, restL, val, slD, vals, frz1, put1, out1, pures, dargs, dback, getM, setM, M.frz, start0, par, dEnds, isRes, itemsD, p2i, addP, subP, mulP, divP, modP, powP, DL.ltP, DL.leP, DL.gtP, DL.geP, eqP, inP, isNP, ixP, lenP, isiP, allP, anyP, intP, listP, tupleP, sortedSP, reprP, slP, revP, negP, findP, countP, joinP, appP, insP, tyD, lenD, dMl, lcountP, isBP, dLSet, dLRg, List.getElem?_cons_zero, List.getElem?_cons_succ, List.set_cons_zero, List.set_cons_succ, List.cons_append, List.nil_append, List.replicate_succ, List.replicate_zero, List.length_cons, List.length_nil, Option.some.injEq, exists_eq_left', exists_eq_left, Wv.pu.injEq, D.sc.injEq, V.bl.injEq, V.int.injEq, V.str.injEq, Nat.reduceSub, Nat.reduceAdd, List.cons.injEq, and_true, true_and, exists_and_left, Option.map_some, if_true, if_false, Bool.false_eq_true, exists_eq_right, ex2a, ex2b, ex2c, D.tup.injEq, D.lst.injEq, M.lst.injEq, eq_self, kb_NoneType_bool, kb_NoneType_int, kb_NoneType_str, kb_NoneType_tuple, kb_NoneType_list, kb_NoneType_dict, kb_bool_bool, kb_bool_int, kb_bool_str, kb_bool_tuple, kb_bool_list, kb_bool_dict, kb_int_bool, kb_int_int, kb_int_str, kb_int_tuple, kb_int_list, kb_int_dict, kb_str_bool, kb_str_int, kb_str_str, kb_str_tuple, kb_str_list, kb_str_dict, kb_tuple_bool, kb_tuple_int, kb_tuple_str, kb_tuple_tuple, kb_tuple_list, kb_tuple_dict, kb_list_bool, kb_list_int, kb_list_str, kb_list_tuple, kb_list_list, kb_list_dict, kb_dict_bool, kb_dict_int, kb_dict_str, kb_dict_tuple, kb_dict_list, kb_dict_dict, List.headD_cons, areK, DB'] at q ht ⊢ <;> exact q
theorem areK_tup {d : D} (h : areK d = true) : ∃ ks : List Str, d = .tup (ks.map fun k => DS' k) ∧ (∀ k ∈ ks, isK k = true) ∧ 1 ≤ ks.length ∧ ks.length ≤ 3 := by
  cases d with
  | tup xs =>
    simp only [areK, Bool.and_eq_true, decide_eq_true_eq, List.all_eq_true] at h
    obtain ⟨⟨h1, h2⟩, h3⟩ := h
    refine ⟨xs.map str, ?_, fun k hk => ?_, by simpa using h1, by simpa using h2⟩
    · rw [List.map_map]
      congr 1
      refine (List.map_id xs).symm.trans (List.map_congr_left fun x hx => ?_)
      have := h3 x hx
      cases x with
      | sc v => cases v <;> first | rfl | cases this
      | _ => cases this
    · obtain ⟨x, hx, rfl⟩ := List.mem_map.mp hk
      have := h3 x hx
      cases x with
      | sc v => cases v <;> first | exact this | cases this
      | _ => cases this
  | _ => cases h
theorem isW_bits {z : Str} (h : isW z = true) : 1 ≤ z.length ∧ z.length ≤ 32 ∧ ∀ c ∈ z.cps.toList, isBit (sign c) = true := by
  simp only [isW, Bool.and_eq_true, decide_eq_true_eq, List.all_eq_true] at h
  refine ⟨h.1.1, h.1.2, fun c hc => ?_⟩
  have := h.2 c hc
  have e : ("01?" : Str).cps.toList = [48, 49, 63] := rfl
  rw [e] at this
  simp only [List.mem_cons, List.not_mem_nil, or_false] at this
  rcases this with rfl | rfl | rfl <;> decide
theorem r_rows_of (h : sp_rows_of K ws Q Y) : t_rows_of K (dEnds Q Y) (start0 N_rows_of ws) := by
  obtain ⟨ds, e, hl, hp, q⟩ := h
  obtain ⟨a, b, c, rfl⟩ := len3 hl
  have ha := hp a (by simp)
  have hb := hp b (by simp)
  have hc := hp c (by simp)
  have := pures_len e
  subst this
  simp only [List.map_cons, List.map_nil, List.getD_cons_zero, List.getD_cons_succ] at q ⊢
  unfold t_rows_of
  refine seq_o fun N hN => ?_
  simp only [N_rows_of, dSet, dRet, dRetN, dIfS, dFor, dIt, dgName, dgNil, dgCons, dgTup, dgLst, dgTxt, dgSet, dVar, dC, dG, dOp, dUn, dCallP, dCons, dNil, dTst, dAnd, dOr, dNot, dAndV, dOrV, dNotV, dIf, dFz, dTup, dLst, dCall, dChain, dSl, dONo, dOSome, dMs, dMi, dAsg, dPar, dDrop, dLc, dLc2, dYes, dRng1, dRng2, dEnum, dZip, dLam, dNewD, dRaise, dNext, dBrk, dCnt, DS.put, DS.wipe, DS.rest, wipeL, restL, val, slD, vals, frz1, put1, out1, pures, dargs, dback, getM, setM, M.frz, start0, par, dEnds, isRes, itemsD, p2i, addP, subP, mulP, divP, modP, powP, DL.ltP, DL.leP, DL.gtP, DL.geP, eqP, inP, isNP, ixP, lenP, isiP, allP, anyP, intP, listP, tupleP, sortedSP, reprP, slP, revP, negP, findP, countP, joinP, appP, insP, tyD, lenD, dMl, lcountP, isBP, dLSet, dLRg, List.getElem?_cons_zero, List.getElem?_cons_succ, List.set_cons_zero, List.set_cons_succ, List.cons_append, List.nil_append, List.replicate_succ, List.replicate_zero, List.length_cons, List.length_nil, Option.some.injEq, exists_eq_left', exists_eq_left, Wv.pu.injEq, D.sc.injEq, V.bl.injEq, V.int.injEq, V.str.injEq, Nat.reduceSub, Nat.reduceAdd, List.cons.injEq, and_true, true_and, exists_and_left, Option.map_some, if_true, if_false, Bool.false_eq_true, exists_eq_right, ex2a, ex2b, ex2c, D.tup.injEq, D.lst.injEq, M.lst.injEq, eq_self]
  refine call_ok (ds := [a]) rfl rfl (by simpa using ha) ?_
  simp only [dSet, dRet, dRetN, dIfS, dFor, dIt, dgName, dgNil, dgCons, dgTup, dgLst, dgTxt, dgSet, dVar, dC, dG, dOp, dUn, dCallP, dCons, dNil, dTst, dAnd, dOr, dNot, dAndV, dOrV, dNotV, dIf, dFz, dTup, dLst, dCall, dChain, dSl, dONo, dOSome, dMs, dMi, dAsg, dPar, dDrop, dLc, dLc2, dYes, dRng1, dRng2, dEnum, dZip, dLam, dNewD, dRaise, dNext, dBrk, dCnt, DS.put, DS.wipe, DS.rest, wipeL, restL, val, slD, vals, frz1, put1, out1, pures, dargs, dback, getM, setM, M.frz, start0, par, dEnds, isRes, itemsD, p2i, addP, subP, mulP, divP, modP, powP, DL.ltP, DL.leP, DL.gtP, DL.geP, eqP, inP, isNP, ixP, lenP, isiP, allP, anyP, intP, listP, tupleP, sortedSP, reprP, slP, revP, negP, findP, countP, joinP, appP, insP, tyD, lenD, dMl, lcountP, isBP, dLSet, dLRg, List.getElem?_cons_zero, List.getElem?_cons_succ, List.set_cons_zero, List.set_cons_succ, List.cons_append, List.nil_append, List.replicate_succ, List.replicate_zero, List.length_cons, List.length_nil, Option.some.injEq, exists_eq_left', exists_eq_left, Wv.pu.injEq, D.sc.injEq, V.bl.injEq, V.int.injEq, V.str.injEq, Nat.reduceSub, Nat.reduceAdd, List.cons.injEq, and_true, true_and, exists_and_left, Option.map_some, if_true, if_false, Bool.false_eq_true, exists_eq_right, ex2a, ex2b, ex2c, D.tup.injEq, D.lst.injEq, M.lst.injEq, eq_self, List.headD_cons, DB']
  by_cases hk : areK a = true
  rotate_left
  · have hk : areK a = false := by simpa using hk
    simp only [hk, dSet, dRet, dRetN, dIfS, dFor, dIt, dgName, dgNil, dgCons, dgTup, dgLst, dgTxt, dgSet, dVar, dC, dG, dOp, dUn, dCallP, dCons, dNil, dTst, dAnd, dOr, dNot, dAndV, dOrV, dNotV, dIf, dFz, dTup, dLst, dCall, dChain, dSl, dONo, dOSome, dMs, dMi, dAsg, dPar, dDrop, dLc, dLc2, dYes, dRng1, dRng2, dEnum, dZip, dLam, dNewD, dRaise, dNext, dBrk, dCnt, DS.put, DS.wipe, DS.rest, wipeL, restL, val, slD, vals, frz1, put1, out1, pures, dargs, dback, getM, setM, M.frz, start0, par, dEnds, isRes, itemsD, p2i, addP, subP, mulP, divP, modP, powP, DL.ltP, DL.leP, DL.gtP, DL.geP, eqP, inP, isNP, ixP, lenP, isiP, allP, anyP, intP, listP, tupleP, sortedSP, reprP, slP, revP, negP, findP, countP, joinP, appP, insP, tyD, lenD, dMl, lcountP, isBP, dLSet, dLRg, List.getElem?_cons_zero, List.getElem?_cons_succ, List.set_cons_zero, List.set_cons_succ, List.cons_append, List.nil_append, List.replicate_succ, List.replicate_zero, List.length_cons, List.length_nil, Option.some.injEq, exists_eq_left', exists_eq_left, Wv.pu.injEq, D.sc.injEq, V.bl.injEq, V.int.injEq, V.str.injEq, Nat.reduceSub, Nat.reduceAdd, List.cons.injEq, and_true, true_and, exists_and_left, Option.map_some, if_true, if_false, Bool.false_eq_true, exists_eq_right, ex2a, ex2b, ex2c, D.tup.injEq, D.lst.injEq, M.lst.injEq, eq_self, Bool.not_false] at q ⊢
    exact q
  simp only [hk, dSet, dRet, dRetN, dIfS, dFor, dIt, dgName, dgNil, dgCons, dgTup, dgLst, dgTxt, dgSet, dVar, dC, dG, dOp, dUn, dCallP, dCons, dNil, dTst, dAnd, dOr, dNot, dAndV, dOrV, dNotV, dIf, dFz, dTup, dLst, dCall, dChain, dSl, dONo, dOSome, dMs, dMi, dAsg, dPar, dDrop, dLc, dLc2, dYes, dRng1, dRng2, dEnum, dZip, dLam, dNewD, dRaise, dNext, dBrk, dCnt, DS.put, DS.wipe, DS.rest, wipeL, restL, val, slD, vals, frz1, put1, out1, pures, dargs, dback, getM, setM, M.frz, start0, par, dEnds, isRes, itemsD, p2i, addP, subP, mulP, divP, modP, powP, DL.ltP, DL.leP, DL.gtP, DL.geP, eqP, inP, isNP, ixP, lenP, isiP, allP, anyP, intP, listP, tupleP, sortedSP, reprP, slP, revP, negP, findP, countP, joinP, appP, insP, tyD, lenD, dMl, lcountP, isBP, dLSet, dLRg, List.getElem?_cons_zero, List.getElem?_cons_succ, List.set_cons_zero, List.set_cons_succ, List.cons_append, List.nil_append, List.replicate_succ, List.replicate_zero, List.length_cons, List.length_nil, Option.some.injEq, exists_eq_left', exists_eq_left, Wv.pu.injEq, D.sc.injEq, V.bl.injEq, V.int.injEq, V.str.injEq, Nat.reduceSub, Nat.reduceAdd, List.cons.injEq, and_true, true_and, exists_and_left, Option.map_some, if_true, if_false, Bool.false_eq_true, exists_eq_right, ex2a, ex2b, ex2c, D.tup.injEq, D.lst.injEq, M.lst.injEq, eq_self, Bool.not_true] at q ⊢
  subst hN
  refine seq_o fun N hN => ?_
  simp only [dSet, dRet, dRetN, dIfS, dFor, dIt, dgName, dgNil, dgCons, dgTup, dgLst, dgTxt, dgSet, dVar, dC, dG, dOp, dUn, dCallP, dCons, dNil, dTst, dAnd, dOr, dNot, dAndV, dOrV, dNotV, dIf, dFz, dTup, dLst, dCall, dChain, dSl, dONo, dOSome, dMs, dMi, dAsg, dPar, dDrop, dLc, dLc2, dYes, dRng1, dRng2, dEnum, dZip, dLam, dNewD, dRaise, dNext, dBrk, dCnt, DS.put, DS.wipe, DS.rest, wipeL, restL, val, slD, vals, frz1, put1, out1, pures, dargs, dback, getM, setM, M.frz, start0, par, dEnds, isRes, itemsD, p2i, addP, subP, mulP, divP, modP, powP, DL.ltP, DL.leP, DL.gtP, DL.geP, eqP, inP, isNP, ixP, lenP, isiP, allP, anyP, intP, listP, tupleP, sortedSP, reprP, slP, revP, negP, findP, countP, joinP, appP, insP, tyD, lenD, dMl, lcountP, isBP, dLSet, dLRg, List.getElem?_cons_zero, List.getElem?_cons_succ, List.set_cons_zero, List.set_cons_succ, List.cons_append, List.nil_append, List.replicate_succ, List.replicate_zero, List.length_cons, List.length_nil, Option.some.injEq, exists_eq_left', exists_eq_left, Wv.pu.injEq, D.sc.injEq, V.bl.injEq, V.int.injEq, V.str.injEq, Nat.reduceSub, Nat.reduceAdd, List.cons.injEq, and_true, true_and, exists_and_left, Option.map_some, if_true, if_false, Bool.false_eq_true, exists_eq_right, ex2a, ex2b, ex2c, D.tup.injEq, D.lst.injEq, M.lst.injEq, eq_self]
  refine call_ok (ds := [b]) rfl rfl (by simpa using hb.1) ?_
  simp only [dSet, dRet, dRetN, dIfS, dFor, dIt, dgName, dgNil, dgCons, dgTup, dgLst, dgTxt, dgSet, dVar, dC, dG, dOp, dUn, dCallP, dCons, dNil, dTst, dAnd, dOr, dNot, dAndV, dOrV, dNotV, dIf, dFz, dTup, dLst, dCall, dChain, dSl, dONo, dOSome, dMs, dMi, dAsg, dPar, dDrop, dLc, dLc2, dYes, dRng1, dRng2, dEnum, dZip, dLam, dNewD, dRaise, dNext, dBrk, dCnt, DS.put, DS.wipe, DS.rest, wipeL, restL, val, slD, vals, frz1, put1, out1, pures, dargs, dback, getM, setM, M.frz, start0, par, dEnds, isRes, itemsD, p2i, addP, subP, mulP, divP, modP, powP, DL.ltP, DL.leP, DL.gtP, DL.geP, eqP, inP, isNP, ixP, lenP, isiP, allP, anyP, intP, listP, tupleP, sortedSP, reprP, slP, revP, negP, findP, countP, joinP, appP, insP, tyD, lenD, dMl, lcountP, isBP, dLSet, dLRg, List.getElem?_cons_zero, List.getElem?_cons_succ, List.set_cons_zero, List.set_cons_succ, List.cons_append, List.nil_append, List.replicate_succ, List.replicate_zero, List.length_cons, List.length_nil, Option.some.injEq, exists_eq_left', exists_eq_left, Wv.pu.injEq, D.sc.injEq, V.bl.injEq, V.int.injEq, V.str.injEq, Nat.reduceSub, Nat.reduceAdd, List.cons.injEq, and_true, true_and, exists_and_left, Option.map_some, if_true, if_false, Bool.false_eq_true, exists_eq_right, ex2a, ex2b, ex2c, D.tup.injEq, D.lst.injEq, M.lst.injEq, eq_self, List.headD_cons]
  by_cases hr : isRD b = true
  rotate_left
  · simp only [hr, dSet, dRet, dRetN, dIfS, dFor, dIt, dgName, dgNil, dgCons, dgTup, dgLst, dgTxt, dgSet, dVar, dC, dG, dOp, dUn, dCallP, dCons, dNil, dTst, dAnd, dOr, dNot, dAndV, dOrV, dNotV, dIf, dFz, dTup, dLst, dCall, dChain, dSl, dONo, dOSome, dMs, dMi, dAsg, dPar, dDrop, dLc, dLc2, dYes, dRng1, dRng2, dEnum, dZip, dLam, dNewD, dRaise, dNext, dBrk, dCnt, DS.put, DS.wipe, DS.rest, wipeL, restL, val, slD, vals, frz1, put1, out1, pures, dargs, dback, getM, setM, M.frz, start0, par, dEnds, isRes, itemsD, p2i, addP, subP, mulP, divP, modP, powP, DL.ltP, DL.leP, DL.gtP, DL.geP, eqP, inP, isNP, ixP, lenP, isiP, allP, anyP, intP, listP, tupleP, sortedSP, reprP, slP, revP, negP, findP, countP, joinP, appP, insP, tyD, lenD, dMl, lcountP, isBP, dLSet, dLRg, List.getElem?_cons_zero, List.getElem?_cons_succ, List.set_cons_zero, List.set_cons_succ, List.cons_append, List.nil_append, List.replicate_succ, List.replicate_zero, List.length_cons, List.length_nil, Option.some.injEq, exists_eq_left', exists_eq_left, Wv.pu.injEq, D.sc.injEq, V.bl.injEq, V.int.injEq, V.str.injEq, Nat.reduceSub, Nat.reduceAdd, List.cons.injEq, and_true, true_and, exists_and_left, Option.map_some, if_true, if_false, Bool.false_eq_true, exists_eq_right, ex2a, ex2b, ex2c, D.tup.injEq, D.lst.injEq, M.lst.injEq, eq_self] at q ⊢
    exact q
  simp only [hr, dSet, dRet, dRetN, dIfS, dFor, dIt, dgName, dgNil, dgCons, dgTup, dgLst, dgTxt, dgSet, dVar, dC, dG, dOp, dUn, dCallP, dCons, dNil, dTst, dAnd, dOr, dNot, dAndV, dOrV, dNotV, dIf, dFz, dTup, dLst, dCall, dChain, dSl, dONo, dOSome, dMs, dMi, dAsg, dPar, dDrop, dLc, dLc2, dYes, dRng1, dRng2, dEnum, dZip, dLam, dNewD, dRaise, dNext, dBrk, dCnt, DS.put, DS.wipe, DS.rest, wipeL, restL, val, slD, vals, frz1, put1, out1, pures, dargs, dback, getM, setM, M.frz, start0, par, dEnds, isRes, itemsD, p2i, addP, subP, mulP, divP, modP, powP, DL.ltP, DL.leP, DL.gtP, DL.geP, eqP, inP, isNP, ixP, lenP, isiP, allP, anyP, intP, listP, tupleP, sortedSP, reprP, slP, revP, negP, findP, countP, joinP, appP, insP, tyD, lenD, dMl, lcountP, isBP, dLSet, dLRg, List.getElem?_cons_zero, List.getElem?_cons_succ, List.set_cons_zero, List.set_cons_succ, List.cons_append, List.nil_append, List.replicate_succ, List.replicate_zero, List.length_cons, List.length_nil, Option.some.injEq, exists_eq_left', exists_eq_left, Wv.pu.injEq, D.sc.injEq, V.bl.injEq, V.int.injEq, V.str.injEq, Nat.reduceSub, Nat.reduceAdd, List.cons.injEq, and_true, true_and, exists_and_left, Option.map_some, if_true, if_false, Bool.false_eq_true, exists_eq_right, ex2a, ex2b, ex2c, D.tup.injEq, D.lst.injEq, M.lst.injEq, eq_self] at q ⊢
  subst hN
  refine seq_o fun N hN => ?_
  simp only [dSet, dRet, dRetN, dIfS, dFor, dIt, dgName, dgNil, dgCons, dgTup, dgLst, dgTxt, dgSet, dVar, dC, dG, dOp, dUn, dCallP, dCons, dNil, dTst, dAnd, dOr, dNot, dAndV, dOrV, dNotV, dIf, dFz, dTup, dLst, dCall, dChain, dSl, dONo, dOSome, dMs, dMi, dAsg, dPar, dDrop, dLc, dLc2, dYes, dRng1, dRng2, dEnum, dZip, dLam, dNewD, dRaise, dNext, dBrk, dCnt, DS.put, DS.wipe, DS.rest, wipeL, restL, val, slD, vals, frz1, put1, out1, pures, dargs, dback, getM, setM, M.frz, start0, par, dEnds, isRes, itemsD, p2i, addP, subP, mulP, divP, modP, powP, DL.ltP, DL.leP, DL.gtP, DL.geP, eqP, inP, isNP, ixP, lenP, isiP, allP, anyP, intP, listP, tupleP, sortedSP, reprP, slP, revP, negP, findP, countP, joinP, appP, insP, tyD, lenD, dMl, lcountP, isBP, dLSet, dLRg, List.getElem?_cons_zero, List.getElem?_cons_succ, List.set_cons_zero, List.set_cons_succ, List.cons_append, List.nil_append, List.replicate_succ, List.replicate_zero, List.length_cons, List.length_nil, Option.some.injEq, exists_eq_left', exists_eq_left, Wv.pu.injEq, D.sc.injEq, V.bl.injEq, V.int.injEq, V.str.injEq, Nat.reduceSub, Nat.reduceAdd, List.cons.injEq, and_true, true_and, exists_and_left, Option.map_some, if_true, if_false, Bool.false_eq_true, exists_eq_right, ex2a, ex2b, ex2c, D.tup.injEq, D.lst.injEq, M.lst.injEq, eq_self]
  refine call_ok (ds := [c]) rfl rfl (by simpa using hc.1) ?_
  simp only [dSet, dRet, dRetN, dIfS, dFor, dIt, dgName, dgNil, dgCons, dgTup, dgLst, dgTxt, dgSet, dVar, dC, dG, dOp, dUn, dCallP, dCons, dNil, dTst, dAnd, dOr, dNot, dAndV, dOrV, dNotV, dIf, dFz, dTup, dLst, dCall, dChain, dSl, dONo, dOSome, dMs, dMi, dAsg, dPar, dDrop, dLc, dLc2, dYes, dRng1, dRng2, dEnum, dZip, dLam, dNewD, dRaise, dNext, dBrk, dCnt, DS.put, DS.wipe, DS.rest, wipeL, restL, val, slD, vals, frz1, put1, out1, pures, dargs, dback, getM, setM, M.frz, start0, par, dEnds, isRes, itemsD, p2i, addP, subP, mulP, divP, modP, powP, DL.ltP, DL.leP, DL.gtP, DL.geP, eqP, inP, isNP, ixP, lenP, isiP, allP, anyP, intP, listP, tupleP, sortedSP, reprP, slP, revP, negP, findP, countP, joinP, appP, insP, tyD, lenD, dMl, lcountP, isBP, dLSet, dLRg, List.getElem?_cons_zero, List.getElem?_cons_succ, List.set_cons_zero, List.set_cons_succ, List.cons_append, List.nil_append, List.replicate_succ, List.replicate_zero, List.length_cons, List.length_nil, Option.some.injEq, exists_eq_left', exists_eq_left, Wv.pu.injEq, D.sc.injEq, V.bl.injEq, V.int.injEq, V.str.injEq, Nat.reduceSub, Nat.reduceAdd, List.cons.injEq, and_true, true_and, exists_and_left, Option.map_some, if_true, if_false, Bool.false_eq_true, exists_eq_right, ex2a, ex2b, ex2c, D.tup.injEq, D.lst.injEq, M.lst.injEq, eq_self, List.headD_cons]
  by_cases hw : isWD c = true
  rotate_left
  · simp only [hw, dSet, dRet, dRetN, dIfS, dFor, dIt, dgName, dgNil, dgCons, dgTup, dgLst, dgTxt, dgSet, dVar, dC, dG, dOp, dUn, dCallP, dCons, dNil, dTst, dAnd, dOr, dNot, dAndV, dOrV, dNotV, dIf, dFz, dTup, dLst, dCall, dChain, dSl, dONo, dOSome, dMs, dMi, dAsg, dPar, dDrop, dLc, dLc2, dYes, dRng1, dRng2, dEnum, dZip, dLam, dNewD, dRaise, dNext, dBrk, dCnt, DS.put, DS.wipe, DS.rest, wipeL, restL, val, slD, vals, frz1, put1, out1, pures, dargs, dback, getM, setM, M.frz, start0, par, dEnds, isRes, itemsD, p2i, addP, subP, mulP, divP, modP, powP, DL.ltP, DL.leP, DL.gtP, DL.geP, eqP, inP, isNP, ixP, lenP, isiP, allP, anyP, intP, listP, tupleP, sortedSP, reprP, slP, revP, negP, findP, countP, joinP, appP, insP, tyD, lenD, dMl, lcountP, isBP, dLSet, dLRg, List.getElem?_cons_zero, List.getElem?_cons_succ, List.set_cons_zero, List.set_cons_succ, List.cons_append, List.nil_append, List.replicate_succ, List.replicate_zero, List.length_cons, List.length_nil, Option.some.injEq, exists_eq_left', exists_eq_left, Wv.pu.injEq, D.sc.injEq, V.bl.injEq, V.int.injEq, V.str.injEq, Nat.reduceSub, Nat.reduceAdd, List.cons.injEq, and_true, true_and, exists_and_left, Option.map_some, if_true, if_false, Bool.false_eq_true, exists_eq_right, ex2a, ex2b, ex2c, D.tup.injEq, D.lst.injEq, M.lst.injEq, eq_self] at q ⊢
    exact q
  simp only [hw, dSet, dRet, dRetN, dIfS, dFor, dIt, dgName, dgNil, dgCons, dgTup, dgLst, dgTxt, dgSet, dVar, dC, dG, dOp, dUn, dCallP, dCons, dNil, dTst, dAnd, dOr, dNot, dAndV, dOrV, dNotV, dIf, dFz, dTup, dLst, dCall, dChain, dSl, dONo, dOSome, dMs, dMi, dAsg, dPar, dDrop, dLc, dLc2, dYes, dRng1, dRng2, dEnum, dZip, dLam, dNewD, dRaise, dNext, dBrk, dCnt, DS.put, DS.wipe, DS.rest, wipeL, restL, val, slD, vals, frz1, put1, out1, pures, dargs, dback, getM, setM, M.frz, start0, par, dEnds, isRes, itemsD, p2i, addP, subP, mulP, divP, modP, powP, DL.ltP, DL.leP, DL.gtP, DL.geP, eqP, inP, isNP, ixP, lenP, isiP, allP, anyP, intP, listP, tupleP, sortedSP, reprP, slP, revP, negP, findP, countP, joinP, appP, insP, tyD, lenD, dMl, lcountP, isBP, dLSet, dLRg, List.getElem?_cons_zero, List.getElem?_cons_succ, List.set_cons_zero, List.set_cons_succ, List.cons_append, List.nil_append, List.replicate_succ, List.replicate_zero, List.length_cons, List.length_nil, Option.some.injEq, exists_eq_left', exists_eq_left, Wv.pu.injEq, D.sc.injEq, V.bl.injEq, V.int.injEq, V.str.injEq, Nat.reduceSub, Nat.reduceAdd, List.cons.injEq, and_true, true_and, exists_and_left, Option.map_some, if_true, if_false, Bool.false_eq_true, exists_eq_right, ex2a, ex2b, ex2c, D.tup.injEq, D.lst.injEq, M.lst.injEq, eq_self] at q ⊢
  subst hN
  refine seq_o fun N hN => ?_
  obtain ⟨ks, rfl, k1, k2, k3⟩ := areK_tup hk
  cases c with
  | sc v =>
    cases v with
    | str z =>
      obtain ⟨z1, z2, z3⟩ := isW_bits (show isW z = true from hw)
      have zs : z.length ≤ sizeLine := small_sl (by omega)
      cases b with
      | sc v =>
        cases v with
        | int r =>
          have hi : 1 ≤ r ∧ r ≤ 8 := by simpa [isRD] using hr
          simp only [dSet, dRet, dRetN, dIfS, dFor, dIt, dgName, dgNil, dgCons, dgTup, dgLst, dgTxt, dgSet, dVar, dC, dG, dOp, dUn, dCallP, dCons, dNil, dTst, dAnd, dOr, dNot, dAndV, dOrV, dNotV, dIf, dFz, dTup, dLst, dCall, dChain, dSl, dONo, dOSome, dMs, dMi, dAsg, dPar, dDrop, dLc, dLc2, dYes, dRng1, dRng2, dEnum, dZip, dLam, dNewD, dRaise, dNext, dBrk, dCnt, DS.put, DS.wipe, DS.rest, wipeL, restL, val, slD, vals, frz1, put1, out1, pures, dargs, dback, getM, setM, M.frz, start0, par, dEnds, isRes, itemsD, p2i, addP, subP, mulP, divP, modP, powP, DL.ltP, DL.leP, DL.gtP, DL.geP, eqP, inP, isNP, ixP, lenP, isiP, allP, anyP, intP, listP, tupleP, sortedSP, reprP, slP, revP, negP, findP, countP, joinP, appP, insP, tyD, lenD, dMl, lcountP, isBP, dLSet, dLRg, List.getElem?_cons_zero, List.getElem?_cons_succ, List.set_cons_zero, List.set_cons_succ, List.cons_append, List.nil_append, List.replicate_succ, List.replicate_zero, List.length_cons, List.length_nil, Option.some.injEq, exists_eq_left', exists_eq_left, Wv.pu.injEq, D.sc.injEq, V.bl.injEq, V.int.injEq, V.str.injEq, Nat.reduceSub, Nat.reduceAdd, List.cons.injEq, and_true, true_and, exists_and_left, Option.map_some, if_true, if_false, Bool.false_eq_true, exists_eq_right, ex2a, ex2b, ex2c, D.tup.injEq, D.lst.injEq, M.lst.injEq, eq_self, zs, scal, str, lenT, List.length_map] at q ⊢
          by_cases hm : z.length = ks.length
          · have e : decide ((z.length : Int) = (ks.length : Int)) = true := by rw [hm]; simp
            simp only [e, hm, dSet, dRet, dRetN, dIfS, dFor, dIt, dgName, dgNil, dgCons, dgTup, dgLst, dgTxt, dgSet, dVar, dC, dG, dOp, dUn, dCallP, dCons, dNil, dTst, dAnd, dOr, dNot, dAndV, dOrV, dNotV, dIf, dFz, dTup, dLst, dCall, dChain, dSl, dONo, dOSome, dMs, dMi, dAsg, dPar, dDrop, dLc, dLc2, dYes, dRng1, dRng2, dEnum, dZip, dLam, dNewD, dRaise, dNext, dBrk, dCnt, DS.put, DS.wipe, DS.rest, wipeL, restL, val, slD, vals, frz1, put1, out1, pures, dargs, dback, getM, setM, M.frz, start0, par, dEnds, isRes, itemsD, p2i, addP, subP, mulP, divP, modP, powP, DL.ltP, DL.leP, DL.gtP, DL.geP, eqP, inP, isNP, ixP, lenP, isiP, allP, anyP, intP, listP, tupleP, sortedSP, reprP, slP, revP, negP, findP, countP, joinP, appP, insP, tyD, lenD, dMl, lcountP, isBP, dLSet, dLRg, List.getElem?_cons_zero, List.getElem?_cons_succ, List.set_cons_zero, List.set_cons_succ, List.cons_append, List.nil_append, List.replicate_succ, List.replicate_zero, List.length_cons, List.length_nil, Option.some.injEq, exists_eq_left', exists_eq_left, Wv.pu.injEq, D.sc.injEq, V.bl.injEq, V.int.injEq, V.str.injEq, Nat.reduceSub, Nat.reduceAdd, List.cons.injEq, and_true, true_and, exists_and_left, Option.map_some, if_true, if_false, Bool.false_eq_true, exists_eq_right, ex2a, ex2b, ex2c, D.tup.injEq, D.lst.injEq, M.lst.injEq, eq_self, Bool.true_xor, Bool.not_true] at q ⊢
            rw [hN]
            simp only [dSet, dRet, dRetN, dIfS, dFor, dIt, dgName, dgNil, dgCons, dgTup, dgLst, dgTxt, dgSet, dVar, dC, dG, dOp, dUn, dCallP, dCons, dNil, dTst, dAnd, dOr, dNot, dAndV, dOrV, dNotV, dIf, dFz, dTup, dLst, dCall, dChain, dSl, dONo, dOSome, dMs, dMi, dAsg, dPar, dDrop, dLc, dLc2, dYes, dRng1, dRng2, dEnum, dZip, dLam, dNewD, dRaise, dNext, dBrk, dCnt, DS.put, DS.wipe, DS.rest, wipeL, restL, val, slD, vals, frz1, put1, out1, pures, dargs, dback, getM, setM, M.frz, start0, par, dEnds, isRes, itemsD, p2i, addP, subP, mulP, divP, modP, powP, DL.ltP, DL.leP, DL.gtP, DL.geP, eqP, inP, isNP, ixP, lenP, isiP, allP, anyP, intP, listP, tupleP, sortedSP, reprP, slP, revP, negP, findP, countP, joinP, appP, insP, tyD, lenD, dMl, lcountP, isBP, dLSet, dLRg, List.getElem?_cons_zero, List.getElem?_cons_succ, List.set_cons_zero, List.set_cons_succ, List.cons_append, List.nil_append, List.replicate_succ, List.replicate_zero, List.length_cons, List.length_nil, Option.some.injEq, exists_eq_left', exists_eq_left, Wv.pu.injEq, D.sc.injEq, V.bl.injEq, V.int.injEq, V.str.injEq, Nat.reduceSub, Nat.reduceAdd, List.cons.injEq, and_true, true_and, exists_and_left, Option.map_some, if_true, if_false, Bool.false_eq_true, exists_eq_right, ex2a, ex2b, ex2c, D.tup.injEq, D.lst.injEq, M.lst.injEq, eq_self, decide_true, Bool.not_true]
            refine call_ok (ds := [.tup (ks.map fun k => DS' k), DI' r, DS' z]) rfl rfl ?_ ?_
            · exact ⟨ks, r, z, rfl, k1, k3, hm.symm, z3, hi⟩
            simp only [dSet, dRet, dRetN, dIfS, dFor, dIt, dgName, dgNil, dgCons, dgTup, dgLst, dgTxt, dgSet, dVar, dC, dG, dOp, dUn, dCallP, dCons, dNil, dTst, dAnd, dOr, dNot, dAndV, dOrV, dNotV, dIf, dFz, dTup, dLst, dCall, dChain, dSl, dONo, dOSome, dMs, dMi, dAsg, dPar, dDrop, dLc, dLc2, dYes, dRng1, dRng2, dEnum, dZip, dLam, dNewD, dRaise, dNext, dBrk, dCnt, DS.put, DS.wipe, DS.rest, wipeL, restL, val, slD, vals, frz1, put1, out1, pures, dargs, dback, getM, setM, M.frz, start0, par, dEnds, isRes, itemsD, p2i, addP, subP, mulP, divP, modP, powP, DL.ltP, DL.leP, DL.gtP, DL.geP, eqP, inP, isNP, ixP, lenP, isiP, allP, anyP, intP, listP, tupleP, sortedSP, reprP, slP, revP, negP, findP, countP, joinP, appP, insP, tyD, lenD, dMl, lcountP, isBP, dLSet, dLRg, List.getElem?_cons_zero, List.getElem?_cons_succ, List.set_cons_zero, List.set_cons_succ, List.cons_append, List.nil_append, List.replicate_succ, List.replicate_zero, List.length_cons, List.length_nil, Option.some.injEq, exists_eq_left', exists_eq_left, Wv.pu.injEq, D.sc.injEq, V.bl.injEq, V.int.injEq, V.str.injEq, Nat.reduceSub, Nat.reduceAdd, List.cons.injEq, and_true, true_and, exists_and_left, Option.map_some, if_true, if_false, Bool.false_eq_true, exists_eq_right, ex2a, ex2b, ex2c, D.tup.injEq, D.lst.injEq, M.lst.injEq, eq_self, strsL, List.getD_cons_zero, List.getD_cons_succ, str] at q ⊢
            exact q
          · have e : decide ((z.length : Int) = (ks.length : Int)) = false := decide_eq_false fun q => hm (by omega)
            simp only [e, hm, dSet, dRet, dRetN, dIfS, dFor, dIt, dgName, dgNil, dgCons, dgTup, dgLst, dgTxt, dgSet, dVar, dC, dG, dOp, dUn, dCallP, dCons, dNil, dTst, dAnd, dOr, dNot, dAndV, dOrV, dNotV, dIf, dFz, dTup, dLst, dCall, dChain, dSl, dONo, dOSome, dMs, dMi, dAsg, dPar, dDrop, dLc, dLc2, dYes, dRng1, dRng2, dEnum, dZip, dLam, dNewD, dRaise, dNext, dBrk, dCnt, DS.put, DS.wipe, DS.rest, wipeL, restL, val, slD, vals, frz1, put1, out1, pures, dargs, dback, getM, setM, M.frz, start0, par, dEnds, isRes, itemsD, p2i, addP, subP, mulP, divP, modP, powP, DL.ltP, DL.leP, DL.gtP, DL.geP, eqP, inP, isNP, ixP, lenP, isiP, allP, anyP, intP, listP, tupleP, sortedSP, reprP, slP, revP, negP, findP, countP, joinP, appP, insP, tyD, lenD, dMl, lcountP, isBP, dLSet, dLRg, List.getElem?_cons_zero, List.getElem?_cons_succ, List.set_cons_zero, List.set_cons_succ, List.cons_append, List.nil_append, List.replicate_succ, List.replicate_zero, List.length_cons, List.length_nil, Option.some.injEq, exists_eq_left', exists_eq_left, Wv.pu.injEq, D.sc.injEq, V.bl.injEq, V.int.injEq, V.str.injEq, Nat.reduceSub, Nat.reduceAdd, List.cons.injEq, and_true, true_and, exists_and_left, Option.map_some, if_true, if_false, Bool.false_eq_true, exists_eq_right, ex2a, ex2b, ex2c, D.tup.injEq, D.lst.injEq, M.lst.injEq, eq_self, Bool.true_xor, Bool.not_false] at q ⊢
            exact q
        | _ => cases hr
      | _ => cases hr
    | _ => cases hw
  | _ => cases hw
end
end Lw

/-! text RE -/
set_option Elab.async false
set_option linter.all false
set_option maxRecDepth 100000
set_option maxHeartbeats 4000000
namespace Lw
open PySem PySem.Spec PyProof.Rows L2 DL
section
variable {P : Program} {w : World} {base : Heap} {K : PySem.W.Frag} {ws : List Wv} {Q : Wv → List Wv → Prop} {Y : Value → List Wv → Prop} {mg : Str → Option Value}
theorem lg2 {a : Int} {n : Nat} (h : a.natAbs < 2 ^ n) (hn : 0 < n) : a.natAbs.log2 < n := by
  by_cases z : a.natAbs = 0
  · rw [z]; simpa using hn
  · exact (Nat.log2_lt z).mpr h
theorem lg (a : Int) (n : Nat) (h0 : 0 ≤ a) (h : a < 2 ^ n) (hn : 0 < n) : a.natAbs.log2 < n := by
  refine lg2 ?_ hn
  have : (a.natAbs : Int) = a := Int.natAbs_of_nonneg h0
  have e : ((2 ^ n : Nat) : Int) = 2 ^ n := by norm_cast
  omega
def PR : List D := [D.sc (V.int 2147483629), D.sc (V.int 2147483587), D.sc (V.int 2147483579), D.sc (V.int 2147483563), D.sc (V.int 2147483549), D.sc (V.int 2147483543), D.sc (V.int 2147483497), D.sc (V.int 2147483489), D.sc (V.int 2147483477), D.sc (V.int 2147483423), D.sc (V.int 2147483399), D.sc (V.int 2147483353), D.sc (V.int 2147483323)]
theorem pr_at {i : Int} (h0 : 0 ≤ i) (h1 : i < 13) : ∃ p : Int, atI PR i = some (D.sc (V.int p)) ∧ 0 < p ∧ p < 2147483648 := by
  have h : i = 0 ∨ i = 1 ∨ i = 2 ∨ i = 3 ∨ i = 4 ∨ i = 5 ∨ i = 6 ∨ i = 7 ∨ i = 8 ∨ i = 9 ∨ i = 10 ∨ i = 11 ∨ i = 12 := by omega
  rcases h with rfl | rfl | rfl | rfl | rfl | rfl | rfl | rfl | rfl | rfl | rfl | rfl | rfl <;> exact ⟨_, rfl, by decide, by decide⟩
theorem log_mul {a b : Int} {m n : Nat} (ha0 : 0 ≤ a) (ha : a < 2 ^ m) (hb0 : 0 ≤ b) (hb : b < 2 ^ n) (hm : 0 < m) (hn : 0 < n) (h : m + n ≤ 1000000) : a.natAbs.log2 + b.natAbs.log2 < 1000000 := by
  have h1 := lg a m ha0 ha hm
  have h2 := lg b n hb0 hb hn
  omega
theorem mul_lt {a b A B : Int} (a0 : 0 ≤ a) (b0 : 0 ≤ b) (ha : a ≤ A) (hb : b ≤ B) : a * b ≤ A * B := Int.mul_le_mul ha hb b0 (by omega)
theorem na {a : Int} (h0 : 0 ≤ a) (h : a < 18446744073709551616) : a.natAbs < 2 ^ 64 := by
  have e : (2 : Nat) ^ 64 = 18446744073709551616 := by decide
  rw [e]
  omega
theorem r__law_spread (h : sp__law_spread K ws Q Y) : t__law_spread K (dEnds Q Y) (start0 N__law_spread ws) := by
  obtain ⟨c, k, rfl, k0, k1, q⟩ := h
  unfold t__law_spread
  refine seq_o fun N hN => ?_
  simp only [N__law_spread, dSet, dRet, dRetN, dIfS, dFor, dIt, dgName, dgNil, dgCons, dgTup, dgLst, dgTxt, dgSet, dVar, dC, dG, dOp, dUn, dCallP, dCons, dNil, dTst, dAnd, dOr, dNot, dAndV, dOrV, dNotV, dIf, dFz, dTup, dLst, dCall, dChain, dSl, dONo, dOSome, dMs, dMi, dAsg, dPar, dDrop, dLc, dLc2, dYes, dRng1, dRng2, dEnum, dZip, dLam, dNewD, dRaise, dNext, dBrk, dCnt, DS.put, DS.wipe, DS.rest, wipeL, restL, val, slD, vals, frz1, put1, out1, pures, dargs, dback, getM, setM, M.frz, start0, par, dEnds, isRes, itemsD, p2i, addP, subP, mulP, divP, modP, powP, DL.ltP, DL.leP, DL.gtP, DL.geP, eqP, inP, isNP, ixP, lenP, isiP, allP, anyP, intP, listP, tupleP, sortedSP, reprP, slP, revP, negP, findP, countP, joinP, appP, insP, tyD, lenD, dMl, lcountP, isBP, dLSet, dLRg, List.getElem?_cons_zero, List.getElem?_cons_succ, List.set_cons_zero, List.set_cons_succ, List.cons_append, List.nil_append, List.replicate_succ, List.replicate_zero, List.length_cons, List.length_nil, Option.some.injEq, exists_eq_left', exists_eq_left, Wv.pu.injEq, D.sc.injEq, V.bl.injEq, V.int.injEq, V.str.injEq, Nat.reduceSub, Nat.reduceAdd, List.cons.injEq, and_true, true_and, exists_and_left, Option.map_some, if_true, if_false, Bool.false_eq_true, exists_eq_right, ex2a, ex2b, ex2c, D.tup.injEq, D.lst.injEq, M.lst.injEq, eq_self]
  refine ⟨⟨by decide, by decide, by decide⟩, ?_⟩
  by_cases hc : (10 : Int) ^ Int.toNat 18 ≤ c
  · simp only [hc, decide_true, dSet, dRet, dRetN, dIfS, dFor, dIt, dgName, dgNil, dgCons, dgTup, dgLst, dgTxt, dgSet, dVar, dC, dG, dOp, dUn, dCallP, dCons, dNil, dTst, dAnd, dOr, dNot, dAndV, dOrV, dNotV, dIf, dFz, dTup, dLst, dCall, dChain, dSl, dONo, dOSome, dMs, dMi, dAsg, dPar, dDrop, dLc, dLc2, dYes, dRng1, dRng2, dEnum, dZip, dLam, dNewD, dRaise, dNext, dBrk, dCnt, DS.put, DS.wipe, DS.rest, wipeL, restL, val, slD, vals, frz1, put1, out1, pures, dargs, dback, getM, setM, M.frz, start0, par, dEnds, isRes, itemsD, p2i, addP, subP, mulP, divP, modP, powP, DL.ltP, DL.leP, DL.gtP, DL.geP, eqP, inP, isNP, ixP, lenP, isiP, allP, anyP, intP, listP, tupleP, sortedSP, reprP, slP, revP, negP, findP, countP, joinP, appP, insP, tyD, lenD, dMl, lcountP, isBP, dLSet, dLRg, List.getElem?_cons_zero, List.getElem?_cons_succ, List.set_cons_zero, List.set_cons_succ, List.cons_append, List.nil_append, List.replicate_succ, List.replicate_zero, List.length_cons, List.length_nil, Option.some.injEq, exists_eq_left', exists_eq_left, Wv.pu.injEq, D.sc.injEq, V.bl.injEq, V.int.injEq, V.str.injEq, Nat.reduceSub, Nat.reduceAdd, List.cons.injEq, and_true, true_and, exists_and_left, Option.map_some, if_true, if_false, Bool.false_eq_true, exists_eq_right, ex2a, ex2b, ex2c, D.tup.injEq, D.lst.injEq, M.lst.injEq, eq_self]
    exact q c (by have : (0 : Int) ≤ 10 ^ Int.toNat 18 := by decide
                  omega)
  simp only [hc, decide_false, dSet, dRet, dRetN, dIfS, dFor, dIt, dgName, dgNil, dgCons, dgTup, dgLst, dgTxt, dgSet, dVar, dC, dG, dOp, dUn, dCallP, dCons, dNil, dTst, dAnd, dOr, dNot, dAndV, dOrV, dNotV, dIf, dFz, dTup, dLst, dCall, dChain, dSl, dONo, dOSome, dMs, dMi, dAsg, dPar, dDrop, dLc, dLc2, dYes, dRng1, dRng2, dEnum, dZip, dLam, dNewD, dRaise, dNext, dBrk, dCnt, DS.put, DS.wipe, DS.rest, wipeL, restL, val, slD, vals, frz1, put1, out1, pures, dargs, dback, getM, setM, M.frz, start0, par, dEnds, isRes, itemsD, p2i, addP, subP, mulP, divP, modP, powP, DL.ltP, DL.leP, DL.gtP, DL.geP, eqP, inP, isNP, ixP, lenP, isiP, allP, anyP, intP, listP, tupleP, sortedSP, reprP, slP, revP, negP, findP, countP, joinP, appP, insP, tyD, lenD, dMl, lcountP, isBP, dLSet, dLRg, List.getElem?_cons_zero, List.getElem?_cons_succ, List.set_cons_zero, List.set_cons_succ, List.cons_append, List.nil_append, List.replicate_succ, List.replicate_zero, List.length_cons, List.length_nil, Option.some.injEq, exists_eq_left', exists_eq_left, Wv.pu.injEq, D.sc.injEq, V.bl.injEq, V.int.injEq, V.str.injEq, Nat.reduceSub, Nat.reduceAdd, List.cons.injEq, and_true, true_and, exists_and_left, Option.map_some, if_true, if_false, Bool.false_eq_true, exists_eq_right, ex2a, ex2b, ex2c, D.tup.injEq, D.lst.injEq, M.lst.injEq, eq_self]
  subst hN
  refine seq_o fun N hN => ?_
  simp only [dSet, dRet, dRetN, dIfS, dFor, dIt, dgName, dgNil, dgCons, dgTup, dgLst, dgTxt, dgSet, dVar, dC, dG, dOp, dUn, dCallP, dCons, dNil, dTst, dAnd, dOr, dNot, dAndV, dOrV, dNotV, dIf, dFz, dTup, dLst, dCall, dChain, dSl, dONo, dOSome, dMs, dMi, dAsg, dPar, dDrop, dLc, dLc2, dYes, dRng1, dRng2, dEnum, dZip, dLam, dNewD, dRaise, dNext, dBrk, dCnt, DS.put, DS.wipe, DS.rest, wipeL, restL, val, slD, vals, frz1, put1, out1, pures, dargs, dback, getM, setM, M.frz, start0, par, dEnds, isRes, itemsD, p2i, addP, subP, mulP, divP, modP, powP, DL.ltP, DL.leP, DL.gtP, DL.geP, eqP, inP, isNP, ixP, lenP, isiP, allP, anyP, intP, listP, tupleP, sortedSP, reprP, slP, revP, negP, findP, countP, joinP, appP, insP, tyD, lenD, dMl, lcountP, isBP, dLSet, dLRg, List.getElem?_cons_zero, List.getElem?_cons_succ, List.set_cons_zero, List.set_cons_succ, List.cons_append, List.nil_append, List.replicate_succ, List.replicate_zero, List.length_cons, List.length_nil, Option.some.injEq, exists_eq_left', exists_eq_left, Wv.pu.injEq, D.sc.injEq, V.bl.injEq, V.int.injEq, V.str.injEq, Nat.reduceSub, Nat.reduceAdd, List.cons.injEq, and_true, true_and, exists_and_left, Option.map_some, if_true, if_false, Bool.false_eq_true, exists_eq_right, ex2a, ex2b, ex2c, D.tup.injEq, D.lst.injEq, M.lst.injEq, eq_self]
  refine ⟨by decide, ?_⟩
  subst hN
  refine seq_o fun N hN => ?_
  simp only [dSet, dRet, dRetN, dIfS, dFor, dIt, dgName, dgNil, dgCons, dgTup, dgLst, dgTxt, dgSet, dVar, dC, dG, dOp, dUn, dCallP, dCons, dNil, dTst, dAnd, dOr, dNot, dAndV, dOrV, dNotV, dIf, dFz, dTup, dLst, dCall, dChain, dSl, dONo, dOSome, dMs, dMi, dAsg, dPar, dDrop, dLc, dLc2, dYes, dRng1, dRng2, dEnum, dZip, dLam, dNewD, dRaise, dNext, dBrk, dCnt, DS.put, DS.wipe, DS.rest, wipeL, restL, val, slD, vals, frz1, put1, out1, pures, dargs, dback, getM, setM, M.frz, start0, par, dEnds, isRes, itemsD, p2i, addP, subP, mulP, divP, modP, powP, DL.ltP, DL.leP, DL.gtP, DL.geP, eqP, inP, isNP, ixP, lenP, isiP, allP, anyP, intP, listP, tupleP, sortedSP, reprP, slP, revP, negP, findP, countP, joinP, appP, insP, tyD, lenD, dMl, lcountP, isBP, dLSet, dLRg, List.getElem?_cons_zero, List.getElem?_cons_succ, List.set_cons_zero, List.set_cons_succ, List.cons_append, List.nil_append, List.replicate_succ, List.replicate_zero, List.length_cons, List.length_nil, Option.some.injEq, exists_eq_left', exists_eq_left, Wv.pu.injEq, D.sc.injEq, V.bl.injEq, V.int.injEq, V.str.injEq, Nat.reduceSub, Nat.reduceAdd, List.cons.injEq, and_true, true_and, exists_and_left, Option.map_some, if_true, if_false, Bool.false_eq_true, exists_eq_right, ex2a, ex2b, ex2c, D.tup.injEq, D.lst.injEq, M.lst.injEq, eq_self]
  refine ⟨by decide, by decide, ?_⟩
  subst hN
  refine seq_o fun N hN => ?_
  simp only [dSet, dRet, dRetN, dIfS, dFor, dIt, dgName, dgNil, dgCons, dgTup, dgLst, dgTxt, dgSet, dVar, dC, dG, dOp, dUn, dCallP, dCons, dNil, dTst, dAnd, dOr, dNot, dAndV, dOrV, dNotV, dIf, dFz, dTup, dLst, dCall, dChain, dSl, dONo, dOSome, dMs, dMi, dAsg, dPar, dDrop, dLc, dLc2, dYes, dRng1, dRng2, dEnum, dZip, dLam, dNewD, dRaise, dNext, dBrk, dCnt, DS.put, DS.wipe, DS.rest, wipeL, restL, val, slD, vals, frz1, put1, out1, pures, dargs, dback, getM, setM, M.frz, start0, par, dEnds, isRes, itemsD, p2i, addP, subP, mulP, divP, modP, powP, DL.ltP, DL.leP, DL.gtP, DL.geP, eqP, inP, isNP, ixP, lenP, isiP, allP, anyP, intP, listP, tupleP, sortedSP, reprP, slP, revP, negP, findP, countP, joinP, appP, insP, tyD, lenD, dMl, lcountP, isBP, dLSet, dLRg, List.getElem?_cons_zero, List.getElem?_cons_succ, List.set_cons_zero, List.set_cons_succ, List.cons_append, List.nil_append, List.replicate_succ, List.replicate_zero, List.length_cons, List.length_nil, Option.some.injEq, exists_eq_left', exists_eq_left, Wv.pu.injEq, D.sc.injEq, V.bl.injEq, V.int.injEq, V.str.injEq, Nat.reduceSub, Nat.reduceAdd, List.cons.injEq, and_true, true_and, exists_and_left, Option.map_some, if_true, if_false, Bool.false_eq_true, exists_eq_right, ex2a, ex2b, ex2c, D.tup.injEq, D.lst.injEq, M.lst.injEq, eq_self]
  have c1 := Int.emod_nonneg c (show (1000000007 : Int) ≠ 0 by decide)
  have c2 := Int.emod_lt_of_pos c (show (0 : Int) < 1000000007 by decide)
  generalize ec : c % 1000000007 = u at c1 c2
  refine ⟨by decide, log_mul (m := 2) (n := 40) (by decide) (by decide) k0 (by omega) (by decide) (by decide) (by decide), ?_⟩
  refine ⟨log_mul (m := 40) (n := 40) c1 (by omega) (by omega) (by omega) (by decide) (by decide) (by decide), ?_⟩
  have o1 : 0 ≤ u * (2 * k + 69069) := Int.mul_nonneg c1 (by omega)
  have o2 : u * (2 * k + 69069) ≤ 1000000007 * (2 * 1073741824 + 69069) := mul_lt c1 (by omega) (by omega) (by omega)
  generalize eo : u * (2 * k + 69069) = o at o1 o2
  subst hN
  refine seq_o fun N hN => ?_
  simp only [dSet, dRet, dRetN, dIfS, dFor, dIt, dgName, dgNil, dgCons, dgTup, dgLst, dgTxt, dgSet, dVar, dC, dG, dOp, dUn, dCallP, dCons, dNil, dTst, dAnd, dOr, dNot, dAndV, dOrV, dNotV, dIf, dFz, dTup, dLst, dCall, dChain, dSl, dONo, dOSome, dMs, dMi, dAsg, dPar, dDrop, dLc, dLc2, dYes, dRng1, dRng2, dEnum, dZip, dLam, dNewD, dRaise, dNext, dBrk, dCnt, DS.put, DS.wipe, DS.rest, wipeL, restL, val, slD, vals, frz1, put1, out1, pures, dargs, dback, getM, setM, M.frz, start0, par, dEnds, isRes, itemsD, p2i, addP, subP, mulP, divP, modP, powP, DL.ltP, DL.leP, DL.gtP, DL.geP, eqP, inP, isNP, ixP, lenP, isiP, allP, anyP, intP, listP, tupleP, sortedSP, reprP, slP, revP, negP, findP, countP, joinP, appP, insP, tyD, lenD, dMl, lcountP, isBP, dLSet, dLRg, List.getElem?_cons_zero, List.getElem?_cons_succ, List.set_cons_zero, List.set_cons_succ, List.cons_append, List.nil_append, List.replicate_succ, List.replicate_zero, List.length_cons, List.length_nil, Option.some.injEq, exists_eq_left', exists_eq_left, Wv.pu.injEq, D.sc.injEq, V.bl.injEq, V.int.injEq, V.str.injEq, Nat.reduceSub, Nat.reduceAdd, List.cons.injEq, and_true, true_and, exists_and_left, Option.map_some, if_true, if_false, Bool.false_eq_true, exists_eq_right, ex2a, ex2b, ex2c, D.tup.injEq, D.lst.injEq, M.lst.injEq, eq_self]
  refine ⟨log_mul (m := 40) (n := 40) k0 (by omega) (by decide) (by decide) (by decide) (by decide) (by decide), ⟨by decide, by decide, na (by omega) (by omega)⟩, by decide, ?_⟩
  obtain ⟨p, e1, p1, p2⟩ := pr_at (Int.emod_nonneg k (show (13 : Int) ≠ 0 by decide)) (Int.emod_lt_of_pos k (by decide))
  refine ⟨_, e1, ?_⟩
  simp only [dSet, dRet, dRetN, dIfS, dFor, dIt, dgName, dgNil, dgCons, dgTup, dgLst, dgTxt, dgSet, dVar, dC, dG, dOp, dUn, dCallP, dCons, dNil, dTst, dAnd, dOr, dNot, dAndV, dOrV, dNotV, dIf, dFz, dTup, dLst, dCall, dChain, dSl, dONo, dOSome, dMs, dMi, dAsg, dPar, dDrop, dLc, dLc2, dYes, dRng1, dRng2, dEnum, dZip, dLam, dNewD, dRaise, dNext, dBrk, dCnt, DS.put, DS.wipe, DS.rest, wipeL, restL, val, slD, vals, frz1, put1, out1, pures, dargs, dback, getM, setM, M.frz, start0, par, dEnds, isRes, itemsD, p2i, addP, subP, mulP, divP, modP, powP, DL.ltP, DL.leP, DL.gtP, DL.geP, eqP, inP, isNP, ixP, lenP, isiP, allP, anyP, intP, listP, tupleP, sortedSP, reprP, slP, revP, negP, findP, countP, joinP, appP, insP, tyD, lenD, dMl, lcountP, isBP, dLSet, dLRg, List.getElem?_cons_zero, List.getElem?_cons_succ, List.set_cons_zero, List.set_cons_succ, List.cons_append, List.nil_append, List.replicate_succ, List.replicate_zero, List.length_cons, List.length_nil, Option.some.injEq, exists_eq_left', exists_eq_left, Wv.pu.injEq, D.sc.injEq, V.bl.injEq, V.int.injEq, V.str.injEq, Nat.reduceSub, Nat.reduceAdd, List.cons.injEq, and_true, true_and, exists_and_left, Option.map_some, if_true, if_false, Bool.false_eq_true, exists_eq_right, ex2a, ex2b, ex2c, D.tup.injEq, D.lst.injEq, M.lst.injEq, eq_self]
  refine ⟨p1, ?_⟩
  have s1 := Int.emod_nonneg ((o + k * 40503 + 977) ^ Int.toNat 3) (show p ≠ 0 by omega)
  have s2 := Int.emod_lt_of_pos ((o + k * 40503 + 977) ^ Int.toNat 3) p1
  generalize es : (o + k * 40503 + 977) ^ Int.toNat 3 % p = a at s1 s2
  subst hN
  refine seq_o fun N hN => ?_
  simp only [dSet, dRet, dRetN, dIfS, dFor, dIt, dgName, dgNil, dgCons, dgTup, dgLst, dgTxt, dgSet, dVar, dC, dG, dOp, dUn, dCallP, dCons, dNil, dTst, dAnd, dOr, dNot, dAndV, dOrV, dNotV, dIf, dFz, dTup, dLst, dCall, dChain, dSl, dONo, dOSome, dMs, dMi, dAsg, dPar, dDrop, dLc, dLc2, dYes, dRng1, dRng2, dEnum, dZip, dLam, dNewD, dRaise, dNext, dBrk, dCnt, DS.put, DS.wipe, DS.rest, wipeL, restL, val, slD, vals, frz1, put1, out1, pures, dargs, dback, getM, setM, M.frz, start0, par, dEnds, isRes, itemsD, p2i, addP, subP, mulP, divP, modP, powP, DL.ltP, DL.leP, DL.gtP, DL.geP, eqP, inP, isNP, ixP, lenP, isiP, allP, anyP, intP, listP, tupleP, sortedSP, reprP, slP, revP, negP, findP, countP, joinP, appP, insP, tyD, lenD, dMl, lcountP, isBP, dLSet, dLRg, List.getElem?_cons_zero, List.getElem?_cons_succ, List.set_cons_zero, List.set_cons_succ, List.cons_append, List.nil_append, List.replicate_succ, List.replicate_zero, List.length_cons, List.length_nil, Option.some.injEq, exists_eq_left', exists_eq_left, Wv.pu.injEq, D.sc.injEq, V.bl.injEq, V.int.injEq, V.str.injEq, Nat.reduceSub, Nat.reduceAdd, List.cons.injEq, and_true, true_and, exists_and_left, Option.map_some, if_true, if_false, Bool.false_eq_true, exists_eq_right, ex2a, ex2b, ex2c, D.tup.injEq, D.lst.injEq, M.lst.injEq, eq_self]
  have t1 := Int.emod_nonneg c (show (65537 : Int) ≠ 0 by decide)
  have t2 := Int.emod_lt_of_pos c (show (0 : Int) < 65537 by decide)
  generalize et : c % 65537 = b at t1 t2
  have m1 : 0 ≤ a * (k + 3) := Int.mul_nonneg s1 (by omega)
  have m2 : a * (k + 3) ≤ 2147483648 * 1073741827 := mul_lt s1 (by omega) (by omega) (by omega)
  refine ⟨log_mul (m := 40) (n := 40) s1 (by omega) (by omega) (by omega) (by decide) (by decide) (by decide), by decide, ⟨by decide, by decide, na (by omega) (by omega)⟩, by decide, ?_⟩
  obtain ⟨p', e1', p1', p2'⟩ := pr_at (Int.emod_nonneg (k + 5) (show (13 : Int) ≠ 0 by decide)) (Int.emod_lt_of_pos (k + 5) (by decide))
  refine ⟨_, e1', ?_⟩
  simp only [dSet, dRet, dRetN, dIfS, dFor, dIt, dgName, dgNil, dgCons, dgTup, dgLst, dgTxt, dgSet, dVar, dC, dG, dOp, dUn, dCallP, dCons, dNil, dTst, dAnd, dOr, dNot, dAndV, dOrV, dNotV, dIf, dFz, dTup, dLst, dCall, dChain, dSl, dONo, dOSome, dMs, dMi, dAsg, dPar, dDrop, dLc, dLc2, dYes, dRng1, dRng2, dEnum, dZip, dLam, dNewD, dRaise, dNext, dBrk, dCnt, DS.put, DS.wipe, DS.rest, wipeL, restL, val, slD, vals, frz1, put1, out1, pures, dargs, dback, getM, setM, M.frz, start0, par, dEnds, isRes, itemsD, p2i, addP, subP, mulP, divP, modP, powP, DL.ltP, DL.leP, DL.gtP, DL.geP, eqP, inP, isNP, ixP, lenP, isiP, allP, anyP, intP, listP, tupleP, sortedSP, reprP, slP, revP, negP, findP, countP, joinP, appP, insP, tyD, lenD, dMl, lcountP, isBP, dLSet, dLRg, List.getElem?_cons_zero, List.getElem?_cons_succ, List.set_cons_zero, List.set_cons_succ, List.cons_append, List.nil_append, List.replicate_succ, List.replicate_zero, List.length_cons, List.length_nil, Option.some.injEq, exists_eq_left', exists_eq_left, Wv.pu.injEq, D.sc.injEq, V.bl.injEq, V.int.injEq, V.str.injEq, Nat.reduceSub, Nat.reduceAdd, List.cons.injEq, and_true, true_and, exists_and_left, Option.map_some, if_true, if_false, Bool.false_eq_true, exists_eq_right, ex2a, ex2b, ex2c, D.tup.injEq, D.lst.injEq, M.lst.injEq, eq_self]
  refine ⟨p1', ?_⟩
  have u1 := Int.emod_nonneg ((a * (k + 3) + b + 5) ^ Int.toNat 5) (show p' ≠ 0 by omega)
  have u2 := Int.emod_lt_of_pos ((a * (k + 3) + b + 5) ^ Int.toNat 5) p1'
  generalize eu : (a * (k + 3) + b + 5) ^ Int.toNat 5 % p' = d at u1 u2
  subst hN
  refine seq_o fun N hN => ?_
  simp only [dSet, dRet, dRetN, dIfS, dFor, dIt, dgName, dgNil, dgCons, dgTup, dgLst, dgTxt, dgSet, dVar, dC, dG, dOp, dUn, dCallP, dCons, dNil, dTst, dAnd, dOr, dNot, dAndV, dOrV, dNotV, dIf, dFz, dTup, dLst, dCall, dChain, dSl, dONo, dOSome, dMs, dMi, dAsg, dPar, dDrop, dLc, dLc2, dYes, dRng1, dRng2, dEnum, dZip, dLam, dNewD, dRaise, dNext, dBrk, dCnt, DS.put, DS.wipe, DS.rest, wipeL, restL, val, slD, vals, frz1, put1, out1, pures, dargs, dback, getM, setM, M.frz, start0, par, dEnds, isRes, itemsD, p2i, addP, subP, mulP, divP, modP, powP, DL.ltP, DL.leP, DL.gtP, DL.geP, eqP, inP, isNP, ixP, lenP, isiP, allP, anyP, intP, listP, tupleP, sortedSP, reprP, slP, revP, negP, findP, countP, joinP, appP, insP, tyD, lenD, dMl, lcountP, isBP, dLSet, dLRg, List.getElem?_cons_zero, List.getElem?_cons_succ, List.set_cons_zero, List.set_cons_succ, List.cons_append, List.nil_append, List.replicate_succ, List.replicate_zero, List.length_cons, List.length_nil, Option.some.injEq, exists_eq_left', exists_eq_left, Wv.pu.injEq, D.sc.injEq, V.bl.injEq, V.int.injEq, V.str.injEq, Nat.reduceSub, Nat.reduceAdd, List.cons.injEq, and_true, true_and, exists_and_left, Option.map_some, if_true, if_false, Bool.false_eq_true, exists_eq_right, ex2a, ex2b, ex2c, D.tup.injEq, D.lst.injEq, M.lst.injEq, eq_self]
  have v1 := Int.emod_nonneg a (show (1009 : Int) ≠ 0 by decide)
  have v2 := Int.emod_lt_of_pos a (show (0 : Int) < 1009 by decide)
  generalize ev : a % 1009 = f at v1 v2
  refine ⟨by decide, ⟨by decide, by decide, na (by omega) (by omega)⟩, by decide, ?_⟩
  obtain ⟨p'', e1'', p1'', p2''⟩ := pr_at (Int.emod_nonneg (k + 7) (show (13 : Int) ≠ 0 by decide)) (Int.emod_lt_of_pos (k + 7) (by decide))
  refine ⟨_, e1'', ?_⟩
  simp only [dSet, dRet, dRetN, dIfS, dFor, dIt, dgName, dgNil, dgCons, dgTup, dgLst, dgTxt, dgSet, dVar, dC, dG, dOp, dUn, dCallP, dCons, dNil, dTst, dAnd, dOr, dNot, dAndV, dOrV, dNotV, dIf, dFz, dTup, dLst, dCall, dChain, dSl, dONo, dOSome, dMs, dMi, dAsg, dPar, dDrop, dLc, dLc2, dYes, dRng1, dRng2, dEnum, dZip, dLam, dNewD, dRaise, dNext, dBrk, dCnt, DS.put, DS.wipe, DS.rest, wipeL, restL, val, slD, vals, frz1, put1, out1, pures, dargs, dback, getM, setM, M.frz, start0, par, dEnds, isRes, itemsD, p2i, addP, subP, mulP, divP, modP, powP, DL.ltP, DL.leP, DL.gtP, DL.geP, eqP, inP, isNP, ixP, lenP, isiP, allP, anyP, intP, listP, tupleP, sortedSP, reprP, slP, revP, negP, findP, countP, joinP, appP, insP, tyD, lenD, dMl, lcountP, isBP, dLSet, dLRg, List.getElem?_cons_zero, List.getElem?_cons_succ, List.set_cons_zero, List.set_cons_succ, List.cons_append, List.nil_append, List.replicate_succ, List.replicate_zero, List.length_cons, List.length_nil, Option.some.injEq, exists_eq_left', exists_eq_left, Wv.pu.injEq, D.sc.injEq, V.bl.injEq, V.int.injEq, V.str.injEq, Nat.reduceSub, Nat.reduceAdd, List.cons.injEq, and_true, true_and, exists_and_left, Option.map_some, if_true, if_false, Bool.false_eq_true, exists_eq_right, ex2a, ex2b, ex2c, D.tup.injEq, D.lst.injEq, M.lst.injEq, eq_self]
  refine ⟨p1'', ?_⟩
  have w1 := Int.emod_nonneg ((d + f + k) ^ Int.toNat 3) (show p'' ≠ 0 by omega)
  have w2 := Int.emod_lt_of_pos ((d + f + k) ^ Int.toNat 3) p1''
  generalize ew : (d + f + k) ^ Int.toNat 3 % p'' = g at w1 w2
  subst hN
  simp only [dSet, dRet, dRetN, dIfS, dFor, dIt, dgName, dgNil, dgCons, dgTup, dgLst, dgTxt, dgSet, dVar, dC, dG, dOp, dUn, dCallP, dCons, dNil, dTst, dAnd, dOr, dNot, dAndV, dOrV, dNotV, dIf, dFz, dTup, dLst, dCall, dChain, dSl, dONo, dOSome, dMs, dMi, dAsg, dPar, dDrop, dLc, dLc2, dYes, dRng1, dRng2, dEnum, dZip, dLam, dNewD, dRaise, dNext, dBrk, dCnt, DS.put, DS.wipe, DS.rest, wipeL, restL, val, slD, vals, frz1, put1, out1, pures, dargs, dback, getM, setM, M.frz, start0, par, dEnds, isRes, itemsD, p2i, addP, subP, mulP, divP, modP, powP, DL.ltP, DL.leP, DL.gtP, DL.geP, eqP, inP, isNP, ixP, lenP, isiP, allP, anyP, intP, listP, tupleP, sortedSP, reprP, slP, revP, negP, findP, countP, joinP, appP, insP, tyD, lenD, dMl, lcountP, isBP, dLSet, dLRg, List.getElem?_cons_zero, List.getElem?_cons_succ, List.set_cons_zero, List.set_cons_succ, List.cons_append, List.nil_append, List.replicate_succ, List.replicate_zero, List.length_cons, List.length_nil, Option.some.injEq, exists_eq_left', exists_eq_left, Wv.pu.injEq, D.sc.injEq, V.bl.injEq, V.int.injEq, V.str.injEq, Nat.reduceSub, Nat.reduceAdd, List.cons.injEq, and_true, true_and, exists_and_left, Option.map_some, if_true, if_false, Bool.false_eq_true, exists_eq_right, ex2a, ex2b, ex2c, D.tup.injEq, D.lst.injEq, M.lst.injEq, eq_self]
  have x1 : 0 ≤ a * 2147483647 := Int.mul_nonneg s1 (by decide)
  have x2 : a * 2147483647 ≤ 2147483648 * 2147483647 := mul_lt s1 (by decide) (by omega) (by decide)
  have y1 : 0 ≤ (a * 2147483647 + d) * 2147483647 := Int.mul_nonneg (by omega) (by decide)
  refine ⟨log_mul (m := 40) (n := 40) s1 (by omega) (by decide) (by decide) (by decide) (by decide) (by decide), log_mul (m := 80) (n := 40) (by omega) (by omega) (by decide) (by decide) (by decide) (by decide) (by decide), ?_⟩
  exact q _ (by omega)
theorem ix0 (a b c : D) : atI [a, b, c] 0 = some a := rfl
theorem ix1 (a b c : D) : atI [a, b, c] 1 = some b := rfl
theorem ix2 (a b c : D) : atI [a, b, c] 2 = some c := rfl
theorem at_of {α : Type} {xs : List α} {i : Int} (h0 : 0 ≤ i) (h : i < xs.length) : ∃ x, atI xs i = some x ∧ x ∈ xs := by
  have hn : i.toNat < xs.length := by omega
  refine ⟨xs[i.toNat], ?_, List.getElem_mem hn⟩
  unfold atI ixN
  rw [if_pos h0, if_pos h]
  simp [hn]
theorem ixn0 : ixN 3 0 = some 0 := rfl
theorem ixn1 : ixN 3 1 = some 1 := rfl
theorem ixn2 : ixN 3 2 = some 2 := rfl
theorem r__law_take (h : sp__law_take K ws Q Y) : t__law_take K (dEnds Q Y) (start0 N__law_take ws) := by
  obtain ⟨b, pen, many, rfl, ⟨cells, k, n, rfl, hc, k0, kb, n0⟩, hb, m0, m1, q⟩ := h
  have log : many.natAbs.log2 < 9000 := by have := lg many 40 (by omega) (by omega) (by decide); omega
  have fin : ∀ (k' n' : Int) (x : Option Wv) (y : Option Wv), 0 ≤ k' → k' ≤ b + 1 → 0 ≤ n' → (dSeq (dSet 4 (dOp modP (dCallP intP (dCons (dOp ixP (dVar 0) (dC (.int 2))) (dNil))) (dVar 1)))
  (dSeq (dAsg (dOp divP (dOp ixP (dVar 0) (dC (.int 2))) (dVar 1)) (dgSet (dVar 0) (dC (.int 2))))
  (dRet (dVar 4)))) (dEnds Q Y) ⟨[some (.io 0), some (.pu (DI' many)), x, y, none], [.ow (.lst [.lst (cells.map fun c => DI' c), DI' k', DI' n']), .pu (DI' many)]⟩ := fun k' n' x y k1 k2 n1 => by
    refine seq_o fun N hN => ?_
    simp only [dSet, dRet, dRetN, dIfS, dFor, dIt, dgName, dgNil, dgCons, dgTup, dgLst, dgTxt, dgSet, dVar, dC, dG, dOp, dUn, dCallP, dCons, dNil, dTst, dAnd, dOr, dNot, dAndV, dOrV, dNotV, dIf, dFz, dTup, dLst, dCall, dChain, dSl, dONo, dOSome, dMs, dMi, dAsg, dPar, dDrop, dLc, dLc2, dYes, dRng1, dRng2, dEnum, dZip, dLam, dNewD, dRaise, dNext, dBrk, dCnt, DS.put, DS.wipe, DS.rest, wipeL, restL, val, slD, vals, frz1, put1, out1, pures, dargs, dback, getM, setM, M.frz, start0, par, dEnds, isRes, itemsD, p2i, addP, subP, mulP, divP, modP, powP, DL.ltP, DL.leP, DL.gtP, DL.geP, eqP, inP, isNP, ixP, lenP, isiP, allP, anyP, intP, listP, tupleP, sortedSP, reprP, slP, revP, negP, findP, countP, joinP, appP, insP, tyD, lenD, dMl, lcountP, isBP, dLSet, dLRg, List.getElem?_cons_zero, List.getElem?_cons_succ, List.set_cons_zero, List.set_cons_succ, List.cons_append, List.nil_append, List.replicate_succ, List.replicate_zero, List.length_cons, List.length_nil, Option.some.injEq, exists_eq_left', exists_eq_left, Wv.pu.injEq, D.sc.injEq, V.bl.injEq, V.int.injEq, V.str.injEq, Nat.reduceSub, Nat.reduceAdd, List.cons.injEq, and_true, true_and, exists_and_left, Option.map_some, if_true, if_false, Bool.false_eq_true, exists_eq_right, ex2a, ex2b, ex2c, D.tup.injEq, D.lst.injEq, M.lst.injEq, eq_self, ix2]
    refine ⟨m0, ?_⟩
    subst hN
    refine seq_o fun N hN => ?_
    simp only [dSet, dRet, dRetN, dIfS, dFor, dIt, dgName, dgNil, dgCons, dgTup, dgLst, dgTxt, dgSet, dVar, dC, dG, dOp, dUn, dCallP, dCons, dNil, dTst, dAnd, dOr, dNot, dAndV, dOrV, dNotV, dIf, dFz, dTup, dLst, dCall, dChain, dSl, dONo, dOSome, dMs, dMi, dAsg, dPar, dDrop, dLc, dLc2, dYes, dRng1, dRng2, dEnum, dZip, dLam, dNewD, dRaise, dNext, dBrk, dCnt, DS.put, DS.wipe, DS.rest, wipeL, restL, val, slD, vals, frz1, put1, out1, pures, dargs, dback, getM, setM, M.frz, start0, par, dEnds, isRes, itemsD, p2i, addP, subP, mulP, divP, modP, powP, DL.ltP, DL.leP, DL.gtP, DL.geP, eqP, inP, isNP, ixP, lenP, isiP, allP, anyP, intP, listP, tupleP, sortedSP, reprP, slP, revP, negP, findP, countP, joinP, appP, insP, tyD, lenD, dMl, lcountP, isBP, dLSet, dLRg, List.getElem?_cons_zero, List.getElem?_cons_succ, List.set_cons_zero, List.set_cons_succ, List.cons_append, List.nil_append, List.replicate_succ, List.replicate_zero, List.length_cons, List.length_nil, Option.some.injEq, exists_eq_left', exists_eq_left, Wv.pu.injEq, D.sc.injEq, V.bl.injEq, V.int.injEq, V.str.injEq, Nat.reduceSub, Nat.reduceAdd, List.cons.injEq, and_true, true_and, exists_and_left, Option.map_some, if_true, if_false, Bool.false_eq_true, exists_eq_right, ex2a, ex2b, ex2c, D.tup.injEq, D.lst.injEq, M.lst.injEq, eq_self, ix2, ixn2]
    refine ⟨⟨m0, log⟩, ?_⟩
    subst hN
    simp only [dSet, dRet, dRetN, dIfS, dFor, dIt, dgName, dgNil, dgCons, dgTup, dgLst, dgTxt, dgSet, dVar, dC, dG, dOp, dUn, dCallP, dCons, dNil, dTst, dAnd, dOr, dNot, dAndV, dOrV, dNotV, dIf, dFz, dTup, dLst, dCall, dChain, dSl, dONo, dOSome, dMs, dMi, dAsg, dPar, dDrop, dLc, dLc2, dYes, dRng1, dRng2, dEnum, dZip, dLam, dNewD, dRaise, dNext, dBrk, dCnt, DS.put, DS.wipe, DS.rest, wipeL, restL, val, slD, vals, frz1, put1, out1, pures, dargs, dback, getM, setM, M.frz, start0, par, dEnds, isRes, itemsD, p2i, addP, subP, mulP, divP, modP, powP, DL.ltP, DL.leP, DL.gtP, DL.geP, eqP, inP, isNP, ixP, lenP, isiP, allP, anyP, intP, listP, tupleP, sortedSP, reprP, slP, revP, negP, findP, countP, joinP, appP, insP, tyD, lenD, dMl, lcountP, isBP, dLSet, dLRg, List.getElem?_cons_zero, List.getElem?_cons_succ, List.set_cons_zero, List.set_cons_succ, List.cons_append, List.nil_append, List.replicate_succ, List.replicate_zero, List.length_cons, List.length_nil, Option.some.injEq, exists_eq_left', exists_eq_left, Wv.pu.injEq, D.sc.injEq, V.bl.injEq, V.int.injEq, V.str.injEq, Nat.reduceSub, Nat.reduceAdd, List.cons.injEq, and_true, true_and, exists_and_left, Option.map_some, if_true, if_false, Bool.false_eq_true, exists_eq_right, ex2a, ex2b, ex2c, D.tup.injEq, D.lst.injEq, M.lst.injEq, eq_self]
    exact q _ _ (Int.emod_nonneg _ (by omega)) (Int.emod_lt_of_pos _ m0) ⟨cells, k', _, rfl, hc, k1, by omega, Int.ediv_nonneg n1 (by omega)⟩
  unfold t__law_take
  refine seq_o fun N hN => ?_
  simp only [N__law_take, dSet, dRet, dRetN, dIfS, dFor, dIt, dgName, dgNil, dgCons, dgTup, dgLst, dgTxt, dgSet, dVar, dC, dG, dOp, dUn, dCallP, dCons, dNil, dTst, dAnd, dOr, dNot, dAndV, dOrV, dNotV, dIf, dFz, dTup, dLst, dCall, dChain, dSl, dONo, dOSome, dMs, dMi, dAsg, dPar, dDrop, dLc, dLc2, dYes, dRng1, dRng2, dEnum, dZip, dLam, dNewD, dRaise, dNext, dBrk, dCnt, DS.put, DS.wipe, DS.rest, wipeL, restL, val, slD, vals, frz1, put1, out1, pures, dargs, dback, getM, setM, M.frz, start0, par, dEnds, isRes, itemsD, p2i, addP, subP, mulP, divP, modP, powP, DL.ltP, DL.leP, DL.gtP, DL.geP, eqP, inP, isNP, ixP, lenP, isiP, allP, anyP, intP, listP, tupleP, sortedSP, reprP, slP, revP, negP, findP, countP, joinP, appP, insP, tyD, lenD, dMl, lcountP, isBP, dLSet, dLRg, List.getElem?_cons_zero, List.getElem?_cons_succ, List.set_cons_zero, List.set_cons_succ, List.cons_append, List.nil_append, List.replicate_succ, List.replicate_zero, List.length_cons, List.length_nil, Option.some.injEq, exists_eq_left', exists_eq_left, Wv.pu.injEq, D.sc.injEq, V.bl.injEq, V.int.injEq, V.str.injEq, Nat.reduceSub, Nat.reduceAdd, List.cons.injEq, and_true, true_and, exists_and_left, Option.map_some, if_true, if_false, Bool.false_eq_true, exists_eq_right, ex2a, ex2b, ex2c, D.tup.injEq, D.lst.injEq, M.lst.injEq, eq_self, ix2]
  by_cases hlt : n < many
  rotate_left
  · simp only [hlt, decide_false, dSet, dRet, dRetN, dIfS, dFor, dIt, dgName, dgNil, dgCons, dgTup, dgLst, dgTxt, dgSet, dVar, dC, dG, dOp, dUn, dCallP, dCons, dNil, dTst, dAnd, dOr, dNot, dAndV, dOrV, dNotV, dIf, dFz, dTup, dLst, dCall, dChain, dSl, dONo, dOSome, dMs, dMi, dAsg, dPar, dDrop, dLc, dLc2, dYes, dRng1, dRng2, dEnum, dZip, dLam, dNewD, dRaise, dNext, dBrk, dCnt, DS.put, DS.wipe, DS.rest, wipeL, restL, val, slD, vals, frz1, put1, out1, pures, dargs, dback, getM, setM, M.frz, start0, par, dEnds, isRes, itemsD, p2i, addP, subP, mulP, divP, modP, powP, DL.ltP, DL.leP, DL.gtP, DL.geP, eqP, inP, isNP, ixP, lenP, isiP, allP, anyP, intP, listP, tupleP, sortedSP, reprP, slP, revP, negP, findP, countP, joinP, appP, insP, tyD, lenD, dMl, lcountP, isBP, dLSet, dLRg, List.getElem?_cons_zero, List.getElem?_cons_succ, List.set_cons_zero, List.set_cons_succ, List.cons_append, List.nil_append, List.replicate_succ, List.replicate_zero, List.length_cons, List.length_nil, Option.some.injEq, exists_eq_left', exists_eq_left, Wv.pu.injEq, D.sc.injEq, V.bl.injEq, V.int.injEq, V.str.injEq, Nat.reduceSub, Nat.reduceAdd, List.cons.injEq, and_true, true_and, exists_and_left, Option.map_some, if_true, if_false, Bool.false_eq_true, exists_eq_right, ex2a, ex2b, ex2c, D.tup.injEq, D.lst.injEq, M.lst.injEq, eq_self]
    subst hN
    exact fin k n none none k0 (by omega) n0
  simp only [hlt, decide_true, dSet, dRet, dRetN, dIfS, dFor, dIt, dgName, dgNil, dgCons, dgTup, dgLst, dgTxt, dgSet, dVar, dC, dG, dOp, dUn, dCallP, dCons, dNil, dTst, dAnd, dOr, dNot, dAndV, dOrV, dNotV, dIf, dFz, dTup, dLst, dCall, dChain, dSl, dONo, dOSome, dMs, dMi, dAsg, dPar, dDrop, dLc, dLc2, dYes, dRng1, dRng2, dEnum, dZip, dLam, dNewD, dRaise, dNext, dBrk, dCnt, DS.put, DS.wipe, DS.rest, wipeL, restL, val, slD, vals, frz1, put1, out1, pures, dargs, dback, getM, setM, M.frz, start0, par, dEnds, isRes, itemsD, p2i, addP, subP, mulP, divP, modP, powP, DL.ltP, DL.leP, DL.gtP, DL.geP, eqP, inP, isNP, ixP, lenP, isiP, allP, anyP, intP, listP, tupleP, sortedSP, reprP, slP, revP, negP, findP, countP, joinP, appP, insP, tyD, lenD, dMl, lcountP, isBP, dLSet, dLRg, List.getElem?_cons_zero, List.getElem?_cons_succ, List.set_cons_zero, List.set_cons_succ, List.cons_append, List.nil_append, List.replicate_succ, List.replicate_zero, List.length_cons, List.length_nil, Option.some.injEq, exists_eq_left', exists_eq_left, Wv.pu.injEq, D.sc.injEq, V.bl.injEq, V.int.injEq, V.str.injEq, Nat.reduceSub, Nat.reduceAdd, List.cons.injEq, and_true, true_and, exists_and_left, Option.map_some, if_true, if_false, Bool.false_eq_true, exists_eq_right, ex2a, ex2b, ex2c, D.tup.injEq, D.lst.injEq, M.lst.injEq, eq_self]
  have fin2 : ∀ (c : Int), dSeq (dAsg (dOp addP (dVar 2) (dC (.int 1))) (dgSet (dVar 0) (dC (.int 1)))) (dAsg (dCall ((sp__law_spread K)) (dCons (dFz (dVar 3)) (dCons (dFz (dVar 2)) (dNil)))) (dgSet (dVar 0) (dC (.int 2)))) ({ dEnds Q Y with nx := N } : DEnds) ⟨[some (.io 0), some (.pu (DI' many)), some (.pu (DI' k)), some (.pu (DI' c)), none], [.ow (.lst [.lst (cells.map fun c => DI' c), DI' k, DI' n]), .pu (DI' many)]⟩ := fun c => by
    refine seq_o fun N2 hN2 => ?_
    simp only [dSet, dRet, dRetN, dIfS, dFor, dIt, dgName, dgNil, dgCons, dgTup, dgLst, dgTxt, dgSet, dVar, dC, dG, dOp, dUn, dCallP, dCons, dNil, dTst, dAnd, dOr, dNot, dAndV, dOrV, dNotV, dIf, dFz, dTup, dLst, dCall, dChain, dSl, dONo, dOSome, dMs, dMi, dAsg, dPar, dDrop, dLc, dLc2, dYes, dRng1, dRng2, dEnum, dZip, dLam, dNewD, dRaise, dNext, dBrk, dCnt, DS.put, DS.wipe, DS.rest, wipeL, restL, val, slD, vals, frz1, put1, out1, pures, dargs, dback, getM, setM, M.frz, start0, par, dEnds, isRes, itemsD, p2i, addP, subP, mulP, divP, modP, powP, DL.ltP, DL.leP, DL.gtP, DL.geP, eqP, inP, isNP, ixP, lenP, isiP, allP, anyP, intP, listP, tupleP, sortedSP, reprP, slP, revP, negP, findP, countP, joinP, appP, insP, tyD, lenD, dMl, lcountP, isBP, dLSet, dLRg, List.getElem?_cons_zero, List.getElem?_cons_succ, List.set_cons_zero, List.set_cons_succ, List.cons_append, List.nil_append, List.replicate_succ, List.replicate_zero, List.length_cons, List.length_nil, Option.some.injEq, exists_eq_left', exists_eq_left, Wv.pu.injEq, D.sc.injEq, V.bl.injEq, V.int.injEq, V.str.injEq, Nat.reduceSub, Nat.reduceAdd, List.cons.injEq, and_true, true_and, exists_and_left, Option.map_some, if_true, if_false, Bool.false_eq_true, exists_eq_right, ex2a, ex2b, ex2c, D.tup.injEq, D.lst.injEq, M.lst.injEq, eq_self, ixn1]
    subst hN2
    simp only [dSet, dRet, dRetN, dIfS, dFor, dIt, dgName, dgNil, dgCons, dgTup, dgLst, dgTxt, dgSet, dVar, dC, dG, dOp, dUn, dCallP, dCons, dNil, dTst, dAnd, dOr, dNot, dAndV, dOrV, dNotV, dIf, dFz, dTup, dLst, dCall, dChain, dSl, dONo, dOSome, dMs, dMi, dAsg, dPar, dDrop, dLc, dLc2, dYes, dRng1, dRng2, dEnum, dZip, dLam, dNewD, dRaise, dNext, dBrk, dCnt, DS.put, DS.wipe, DS.rest, wipeL, restL, val, slD, vals, frz1, put1, out1, pures, dargs, dback, getM, setM, M.frz, start0, par, dEnds, isRes, itemsD, p2i, addP, subP, mulP, divP, modP, powP, DL.ltP, DL.leP, DL.gtP, DL.geP, eqP, inP, isNP, ixP, lenP, isiP, allP, anyP, intP, listP, tupleP, sortedSP, reprP, slP, revP, negP, findP, countP, joinP, appP, insP, tyD, lenD, dMl, lcountP, isBP, dLSet, dLRg, List.getElem?_cons_zero, List.getElem?_cons_succ, List.set_cons_zero, List.set_cons_succ, List.cons_append, List.nil_append, List.replicate_succ, List.replicate_zero, List.length_cons, List.length_nil, Option.some.injEq, exists_eq_left', exists_eq_left, Wv.pu.injEq, D.sc.injEq, V.bl.injEq, V.int.injEq, V.str.injEq, Nat.reduceSub, Nat.reduceAdd, List.cons.injEq, and_true, true_and, exists_and_left, Option.map_some, if_true, if_false, Bool.false_eq_true, exists_eq_right, ex2a, ex2b, ex2c, D.tup.injEq, D.lst.injEq, M.lst.injEq, eq_self, ixn2]
    refine ⟨c, k, rfl, k0, by omega, fun v v0 => ?_⟩
    simp only [dSet, dRet, dRetN, dIfS, dFor, dIt, dgName, dgNil, dgCons, dgTup, dgLst, dgTxt, dgSet, dVar, dC, dG, dOp, dUn, dCallP, dCons, dNil, dTst, dAnd, dOr, dNot, dAndV, dOrV, dNotV, dIf, dFz, dTup, dLst, dCall, dChain, dSl, dONo, dOSome, dMs, dMi, dAsg, dPar, dDrop, dLc, dLc2, dYes, dRng1, dRng2, dEnum, dZip, dLam, dNewD, dRaise, dNext, dBrk, dCnt, DS.put, DS.wipe, DS.rest, wipeL, restL, val, slD, vals, frz1, put1, out1, pures, dargs, dback, getM, setM, M.frz, start0, par, dEnds, isRes, itemsD, p2i, addP, subP, mulP, divP, modP, powP, DL.ltP, DL.leP, DL.gtP, DL.geP, eqP, inP, isNP, ixP, lenP, isiP, allP, anyP, intP, listP, tupleP, sortedSP, reprP, slP, revP, negP, findP, countP, joinP, appP, insP, tyD, lenD, dMl, lcountP, isBP, dLSet, dLRg, List.getElem?_cons_zero, List.getElem?_cons_succ, List.set_cons_zero, List.set_cons_succ, List.cons_append, List.nil_append, List.replicate_succ, List.replicate_zero, List.length_cons, List.length_nil, Option.some.injEq, exists_eq_left', exists_eq_left, Wv.pu.injEq, D.sc.injEq, V.bl.injEq, V.int.injEq, V.str.injEq, Nat.reduceSub, Nat.reduceAdd, List.cons.injEq, and_true, true_and, exists_and_left, Option.map_some, if_true, if_false, Bool.false_eq_true, exists_eq_right, ex2a, ex2b, ex2c, D.tup.injEq, D.lst.injEq, M.lst.injEq, eq_self, ixn2]
    subst hN
    exact fin (k + 1) v _ _ (by omega) (by omega) v0
  refine seq_o fun N2 hN2 => ?_
  simp only [dSet, dRet, dRetN, dIfS, dFor, dIt, dgName, dgNil, dgCons, dgTup, dgLst, dgTxt, dgSet, dVar, dC, dG, dOp, dUn, dCallP, dCons, dNil, dTst, dAnd, dOr, dNot, dAndV, dOrV, dNotV, dIf, dFz, dTup, dLst, dCall, dChain, dSl, dONo, dOSome, dMs, dMi, dAsg, dPar, dDrop, dLc, dLc2, dYes, dRng1, dRng2, dEnum, dZip, dLam, dNewD, dRaise, dNext, dBrk, dCnt, DS.put, DS.wipe, DS.rest, wipeL, restL, val, slD, vals, frz1, put1, out1, pures, dargs, dback, getM, setM, M.frz, start0, par, dEnds, isRes, itemsD, p2i, addP, subP, mulP, divP, modP, powP, DL.ltP, DL.leP, DL.gtP, DL.geP, eqP, inP, isNP, ixP, lenP, isiP, allP, anyP, intP, listP, tupleP, sortedSP, reprP, slP, revP, negP, findP, countP, joinP, appP, insP, tyD, lenD, dMl, lcountP, isBP, dLSet, dLRg, List.getElem?_cons_zero, List.getElem?_cons_succ, List.set_cons_zero, List.set_cons_succ, List.cons_append, List.nil_append, List.replicate_succ, List.replicate_zero, List.length_cons, List.length_nil, Option.some.injEq, exists_eq_left', exists_eq_left, Wv.pu.injEq, D.sc.injEq, V.bl.injEq, V.int.injEq, V.str.injEq, Nat.reduceSub, Nat.reduceAdd, List.cons.injEq, and_true, true_and, exists_and_left, Option.map_some, if_true, if_false, Bool.false_eq_true, exists_eq_right, ex2a, ex2b, ex2c, D.tup.injEq, D.lst.injEq, M.lst.injEq, eq_self, ix1]
  subst hN2
  refine seq_o fun N2 hN2 => ?_
  simp only [dSet, dRet, dRetN, dIfS, dFor, dIt, dgName, dgNil, dgCons, dgTup, dgLst, dgTxt, dgSet, dVar, dC, dG, dOp, dUn, dCallP, dCons, dNil, dTst, dAnd, dOr, dNot, dAndV, dOrV, dNotV, dIf, dFz, dTup, dLst, dCall, dChain, dSl, dONo, dOSome, dMs, dMi, dAsg, dPar, dDrop, dLc, dLc2, dYes, dRng1, dRng2, dEnum, dZip, dLam, dNewD, dRaise, dNext, dBrk, dCnt, DS.put, DS.wipe, DS.rest, wipeL, restL, val, slD, vals, frz1, put1, out1, pures, dargs, dback, getM, setM, M.frz, start0, par, dEnds, isRes, itemsD, p2i, addP, subP, mulP, divP, modP, powP, DL.ltP, DL.leP, DL.gtP, DL.geP, eqP, inP, isNP, ixP, lenP, isiP, allP, anyP, intP, listP, tupleP, sortedSP, reprP, slP, revP, negP, findP, countP, joinP, appP, insP, tyD, lenD, dMl, lcountP, isBP, dLSet, dLRg, List.getElem?_cons_zero, List.getElem?_cons_succ, List.set_cons_zero, List.set_cons_succ, List.cons_append, List.nil_append, List.replicate_succ, List.replicate_zero, List.length_cons, List.length_nil, Option.some.injEq, exists_eq_left', exists_eq_left, Wv.pu.injEq, D.sc.injEq, V.bl.injEq, V.int.injEq, V.str.injEq, Nat.reduceSub, Nat.reduceAdd, List.cons.injEq, and_true, true_and, exists_and_left, Option.map_some, if_true, if_false, Bool.false_eq_true, exists_eq_right, ex2a, ex2b, ex2c, D.tup.injEq, D.lst.injEq, M.lst.injEq, eq_self]
  subst hN2
  refine seq_o fun N2 hN2 => ?_
  simp only [dSet, dRet, dRetN, dIfS, dFor, dIt, dgName, dgNil, dgCons, dgTup, dgLst, dgTxt, dgSet, dVar, dC, dG, dOp, dUn, dCallP, dCons, dNil, dTst, dAnd, dOr, dNot, dAndV, dOrV, dNotV, dIf, dFz, dTup, dLst, dCall, dChain, dSl, dONo, dOSome, dMs, dMi, dAsg, dPar, dDrop, dLc, dLc2, dYes, dRng1, dRng2, dEnum, dZip, dLam, dNewD, dRaise, dNext, dBrk, dCnt, DS.put, DS.wipe, DS.rest, wipeL, restL, val, slD, vals, frz1, put1, out1, pures, dargs, dback, getM, setM, M.frz, start0, par, dEnds, isRes, itemsD, p2i, addP, subP, mulP, divP, modP, powP, DL.ltP, DL.leP, DL.gtP, DL.geP, eqP, inP, isNP, ixP, lenP, isiP, allP, anyP, intP, listP, tupleP, sortedSP, reprP, slP, revP, negP, findP, countP, joinP, appP, insP, tyD, lenD, dMl, lcountP, isBP, dLSet, dLRg, List.getElem?_cons_zero, List.getElem?_cons_succ, List.set_cons_zero, List.set_cons_succ, List.cons_append, List.nil_append, List.replicate_succ, List.replicate_zero, List.length_cons, List.length_nil, Option.some.injEq, exists_eq_left', exists_eq_left, Wv.pu.injEq, D.sc.injEq, V.bl.injEq, V.int.injEq, V.str.injEq, Nat.reduceSub, Nat.reduceAdd, List.cons.injEq, and_true, true_and, exists_and_left, Option.map_some, if_true, if_false, Bool.false_eq_true, exists_eq_right, ex2a, ex2b, ex2c, D.tup.injEq, D.lst.injEq, M.lst.injEq, eq_self, ix0, List.length_map]
  by_cases h1 : k < (cells.length : Int)
  · simp only [h1, decide_true, dSet, dRet, dRetN, dIfS, dFor, dIt, dgName, dgNil, dgCons, dgTup, dgLst, dgTxt, dgSet, dVar, dC, dG, dOp, dUn, dCallP, dCons, dNil, dTst, dAnd, dOr, dNot, dAndV, dOrV, dNotV, dIf, dFz, dTup, dLst, dCall, dChain, dSl, dONo, dOSome, dMs, dMi, dAsg, dPar, dDrop, dLc, dLc2, dYes, dRng1, dRng2, dEnum, dZip, dLam, dNewD, dRaise, dNext, dBrk, dCnt, DS.put, DS.wipe, DS.rest, wipeL, restL, val, slD, vals, frz1, put1, out1, pures, dargs, dback, getM, setM, M.frz, start0, par, dEnds, isRes, itemsD, p2i, addP, subP, mulP, divP, modP, powP, DL.ltP, DL.leP, DL.gtP, DL.geP, eqP, inP, isNP, ixP, lenP, isiP, allP, anyP, intP, listP, tupleP, sortedSP, reprP, slP, revP, negP, findP, countP, joinP, appP, insP, tyD, lenD, dMl, lcountP, isBP, dLSet, dLRg, List.getElem?_cons_zero, List.getElem?_cons_succ, List.set_cons_zero, List.set_cons_succ, List.cons_append, List.nil_append, List.replicate_succ, List.replicate_zero, List.length_cons, List.length_nil, Option.some.injEq, exists_eq_left', exists_eq_left, Wv.pu.injEq, D.sc.injEq, V.bl.injEq, V.int.injEq, V.str.injEq, Nat.reduceSub, Nat.reduceAdd, List.cons.injEq, and_true, true_and, exists_and_left, Option.map_some, if_true, if_false, Bool.false_eq_true, exists_eq_right, ex2a, ex2b, ex2c, D.tup.injEq, D.lst.injEq, M.lst.injEq, eq_self, ix0]
    obtain ⟨x, e, hx⟩ := at_of (xs := cells.map fun c => DI' c) k0 (by simpa using h1)
    obtain ⟨c, _, rfl⟩ := List.mem_map.mp hx
    refine ⟨_, e, ?_⟩
    subst hN2
    exact fin2 c
  · simp only [h1, decide_false, dSet, dRet, dRetN, dIfS, dFor, dIt, dgName, dgNil, dgCons, dgTup, dgLst, dgTxt, dgSet, dVar, dC, dG, dOp, dUn, dCallP, dCons, dNil, dTst, dAnd, dOr, dNot, dAndV, dOrV, dNotV, dIf, dFz, dTup, dLst, dCall, dChain, dSl, dONo, dOSome, dMs, dMi, dAsg, dPar, dDrop, dLc, dLc2, dYes, dRng1, dRng2, dEnum, dZip, dLam, dNewD, dRaise, dNext, dBrk, dCnt, DS.put, DS.wipe, DS.rest, wipeL, restL, val, slD, vals, frz1, put1, out1, pures, dargs, dback, getM, setM, M.frz, start0, par, dEnds, isRes, itemsD, p2i, addP, subP, mulP, divP, modP, powP, DL.ltP, DL.leP, DL.gtP, DL.geP, eqP, inP, isNP, ixP, lenP, isiP, allP, anyP, intP, listP, tupleP, sortedSP, reprP, slP, revP, negP, findP, countP, joinP, appP, insP, tyD, lenD, dMl, lcountP, isBP, dLSet, dLRg, List.getElem?_cons_zero, List.getElem?_cons_succ, List.set_cons_zero, List.set_cons_succ, List.cons_append, List.nil_append, List.replicate_succ, List.replicate_zero, List.length_cons, List.length_nil, Option.some.injEq, exists_eq_left', exists_eq_left, Wv.pu.injEq, D.sc.injEq, V.bl.injEq, V.int.injEq, V.str.injEq, Nat.reduceSub, Nat.reduceAdd, List.cons.injEq, and_true, true_and, exists_and_left, Option.map_some, if_true, if_false, Bool.false_eq_true, exists_eq_right, ex2a, ex2b, ex2c, D.tup.injEq, D.lst.injEq, M.lst.injEq, eq_self, ix0, List.length_map]
    by_cases h2 : 0 < (cells.length : Int)
    · simp only [h2, decide_true, dSet, dRet, dRetN, dIfS, dFor, dIt, dgName, dgNil, dgCons, dgTup, dgLst, dgTxt, dgSet, dVar, dC, dG, dOp, dUn, dCallP, dCons, dNil, dTst, dAnd, dOr, dNot, dAndV, dOrV, dNotV, dIf, dFz, dTup, dLst, dCall, dChain, dSl, dONo, dOSome, dMs, dMi, dAsg, dPar, dDrop, dLc, dLc2, dYes, dRng1, dRng2, dEnum, dZip, dLam, dNewD, dRaise, dNext, dBrk, dCnt, DS.put, DS.wipe, DS.rest, wipeL, restL, val, slD, vals, frz1, put1, out1, pures, dargs, dback, getM, setM, M.frz, start0, par, dEnds, isRes, itemsD, p2i, addP, subP, mulP, divP, modP, powP, DL.ltP, DL.leP, DL.gtP, DL.geP, eqP, inP, isNP, ixP, lenP, isiP, allP, anyP, intP, listP, tupleP, sortedSP, reprP, slP, revP, negP, findP, countP, joinP, appP, insP, tyD, lenD, dMl, lcountP, isBP, dLSet, dLRg, List.getElem?_cons_zero, List.getElem?_cons_succ, List.set_cons_zero, List.set_cons_succ, List.cons_append, List.nil_append, List.replicate_succ, List.replicate_zero, List.length_cons, List.length_nil, Option.some.injEq, exists_eq_left', exists_eq_left, Wv.pu.injEq, D.sc.injEq, V.bl.injEq, V.int.injEq, V.str.injEq, Nat.reduceSub, Nat.reduceAdd, List.cons.injEq, and_true, true_and, exists_and_left, Option.map_some, if_true, if_false, Bool.false_eq_true, exists_eq_right, ex2a, ex2b, ex2c, D.tup.injEq, D.lst.injEq, M.lst.injEq, eq_self, ix0, List.length_map]
      have j1 := Int.emod_nonneg (k * 5 + 3) (show (cells.length : Int) ≠ 0 by omega)
      have j2 := Int.emod_lt_of_pos (k * 5 + 3) h2
      refine ⟨log_mul (m := 40) (n := 40) k0 (by omega) (by decide) (by decide) (by decide) (by decide) (by decide), ?_⟩
      obtain ⟨x, e, hx⟩ := at_of (xs := cells.map fun c => DI' c) j1 (by simpa using j2)
      obtain ⟨c, _, rfl⟩ := List.mem_map.mp hx
      refine ⟨_, e, ?_⟩
      simp only [dSet, dRet, dRetN, dIfS, dFor, dIt, dgName, dgNil, dgCons, dgTup, dgLst, dgTxt, dgSet, dVar, dC, dG, dOp, dUn, dCallP, dCons, dNil, dTst, dAnd, dOr, dNot, dAndV, dOrV, dNotV, dIf, dFz, dTup, dLst, dCall, dChain, dSl, dONo, dOSome, dMs, dMi, dAsg, dPar, dDrop, dLc, dLc2, dYes, dRng1, dRng2, dEnum, dZip, dLam, dNewD, dRaise, dNext, dBrk, dCnt, DS.put, DS.wipe, DS.rest, wipeL, restL, val, slD, vals, frz1, put1, out1, pures, dargs, dback, getM, setM, M.frz, start0, par, dEnds, isRes, itemsD, p2i, addP, subP, mulP, divP, modP, powP, DL.ltP, DL.leP, DL.gtP, DL.geP, eqP, inP, isNP, ixP, lenP, isiP, allP, anyP, intP, listP, tupleP, sortedSP, reprP, slP, revP, negP, findP, countP, joinP, appP, insP, tyD, lenD, dMl, lcountP, isBP, dLSet, dLRg, List.getElem?_cons_zero, List.getElem?_cons_succ, List.set_cons_zero, List.set_cons_succ, List.cons_append, List.nil_append, List.replicate_succ, List.replicate_zero, List.length_cons, List.length_nil, Option.some.injEq, exists_eq_left', exists_eq_left, Wv.pu.injEq, D.sc.injEq, V.bl.injEq, V.int.injEq, V.str.injEq, Nat.reduceSub, Nat.reduceAdd, List.cons.injEq, and_true, true_and, exists_and_left, Option.map_some, if_true, if_false, Bool.false_eq_true, exists_eq_right, ex2a, ex2b, ex2c, D.tup.injEq, D.lst.injEq, M.lst.injEq, eq_self]
      have p17 : (0 : Int) < 10 ^ Int.toNat 17 := by decide
      refine ⟨⟨by decide, by decide, by decide⟩, by omega, ?_⟩
      subst hN2
      exact fin2 _
    · simp only [h2, decide_false, dSet, dRet, dRetN, dIfS, dFor, dIt, dgName, dgNil, dgCons, dgTup, dgLst, dgTxt, dgSet, dVar, dC, dG, dOp, dUn, dCallP, dCons, dNil, dTst, dAnd, dOr, dNot, dAndV, dOrV, dNotV, dIf, dFz, dTup, dLst, dCall, dChain, dSl, dONo, dOSome, dMs, dMi, dAsg, dPar, dDrop, dLc, dLc2, dYes, dRng1, dRng2, dEnum, dZip, dLam, dNewD, dRaise, dNext, dBrk, dCnt, DS.put, DS.wipe, DS.rest, wipeL, restL, val, slD, vals, frz1, put1, out1, pures, dargs, dback, getM, setM, M.frz, start0, par, dEnds, isRes, itemsD, p2i, addP, subP, mulP, divP, modP, powP, DL.ltP, DL.leP, DL.gtP, DL.geP, eqP, inP, isNP, ixP, lenP, isiP, allP, anyP, intP, listP, tupleP, sortedSP, reprP, slP, revP, negP, findP, countP, joinP, appP, insP, tyD, lenD, dMl, lcountP, isBP, dLSet, dLRg, List.getElem?_cons_zero, List.getElem?_cons_succ, List.set_cons_zero, List.set_cons_succ, List.cons_append, List.nil_append, List.replicate_succ, List.replicate_zero, List.length_cons, List.length_nil, Option.some.injEq, exists_eq_left', exists_eq_left, Wv.pu.injEq, D.sc.injEq, V.bl.injEq, V.int.injEq, V.str.injEq, Nat.reduceSub, Nat.reduceAdd, List.cons.injEq, and_true, true_and, exists_and_left, Option.map_some, if_true, if_false, Bool.false_eq_true, exists_eq_right, ex2a, ex2b, ex2c, D.tup.injEq, D.lst.injEq, M.lst.injEq, eq_self]
      subst hN2
      exact fin2 0
end
end Lw

/-! text RF -/
set_option Elab.async false
set_option linter.all false
set_option maxRecDepth 100000
set_option maxHeartbeats 4000000
namespace Lw
open PySem PySem.Spec PyProof.Rows L2 DL
section
variable {P : Program} {w : World} {base : Heap} {K : PySem.W.Frag} {ws : List Wv} {Q : Wv → List Wv → Prop} {Y : Value → List Wv → Prop} {mg : Str → Option Value}
theorem r__law_one_of (h : sp__law_one_of K ws Q Y) : t__law_one_of K (dEnds Q Y) (start0 N__law_one_of ws) := by
  obtain ⟨b, pen, some, ds, rfl, hp, hb, hs, hne, hlen, q⟩ := h
  have hpos : 0 < ds.length := List.length_pos_iff.mpr hne
  rcases hs with rfl | ⟨z, rfl, hz, rfl⟩
  · simp only [t__law_one_of, N__law_one_of, dSet, dRet, dRetN, dIfS, dFor, dIt, dgName, dgNil, dgCons, dgTup, dgLst, dgTxt, dgSet, dVar, dC, dG, dOp, dUn, dCallP, dCons, dNil, dTst, dAnd, dOr, dNot, dAndV, dOrV, dNotV, dIf, dFz, dTup, dLst, dCall, dChain, dSl, dONo, dOSome, dMs, dMi, dAsg, dPar, dDrop, dLc, dLc2, dYes, dRng1, dRng2, dEnum, dZip, dLam, dNewD, dRaise, dNext, dBrk, dCnt, DS.put, DS.wipe, DS.rest, wipeL, restL, val, slD, vals, frz1, put1, out1, pures, dargs, dback, getM, setM, M.frz, start0, par, dEnds, isRes, itemsD, p2i, addP, subP, mulP, divP, modP, powP, DL.ltP, DL.leP, DL.gtP, DL.geP, eqP, inP, isNP, ixP, lenP, isiP, allP, anyP, intP, listP, tupleP, sortedSP, reprP, slP, revP, negP, findP, countP, joinP, appP, insP, tyD, lenD, dMl, lcountP, isBP, dLSet, dLRg, List.getElem?_cons_zero, List.getElem?_cons_succ, List.set_cons_zero, List.set_cons_succ, List.cons_append, List.nil_append, List.replicate_succ, List.replicate_zero, List.length_cons, List.length_nil, Option.some.injEq, exists_eq_left', exists_eq_left, Wv.pu.injEq, D.sc.injEq, V.bl.injEq, V.int.injEq, V.str.injEq, Nat.reduceSub, Nat.reduceAdd, List.cons.injEq, and_true, true_and, exists_and_left, Option.map_some, if_true, if_false, Bool.false_eq_true, exists_eq_right, ex2a, ex2b, ex2c, D.tup.injEq, D.lst.injEq, M.lst.injEq, eq_self]
    refine ⟨b, pen, ds.length, rfl, hp, hb, by omega, by omega, fun v pen' v0 v1 hp' => ?_⟩
    simp only [dSet, dRet, dRetN, dIfS, dFor, dIt, dgName, dgNil, dgCons, dgTup, dgLst, dgTxt, dgSet, dVar, dC, dG, dOp, dUn, dCallP, dCons, dNil, dTst, dAnd, dOr, dNot, dAndV, dOrV, dNotV, dIf, dFz, dTup, dLst, dCall, dChain, dSl, dONo, dOSome, dMs, dMi, dAsg, dPar, dDrop, dLc, dLc2, dYes, dRng1, dRng2, dEnum, dZip, dLam, dNewD, dRaise, dNext, dBrk, dCnt, DS.put, DS.wipe, DS.rest, wipeL, restL, val, slD, vals, frz1, put1, out1, pures, dargs, dback, getM, setM, M.frz, start0, par, dEnds, isRes, itemsD, p2i, addP, subP, mulP, divP, modP, powP, DL.ltP, DL.leP, DL.gtP, DL.geP, eqP, inP, isNP, ixP, lenP, isiP, allP, anyP, intP, listP, tupleP, sortedSP, reprP, slP, revP, negP, findP, countP, joinP, appP, insP, tyD, lenD, dMl, lcountP, isBP, dLSet, dLRg, List.getElem?_cons_zero, List.getElem?_cons_succ, List.set_cons_zero, List.set_cons_succ, List.cons_append, List.nil_append, List.replicate_succ, List.replicate_zero, List.length_cons, List.length_nil, Option.some.injEq, exists_eq_left', exists_eq_left, Wv.pu.injEq, D.sc.injEq, V.bl.injEq, V.int.injEq, V.str.injEq, Nat.reduceSub, Nat.reduceAdd, List.cons.injEq, and_true, true_and, exists_and_left, Option.map_some, if_true, if_false, Bool.false_eq_true, exists_eq_right, ex2a, ex2b, ex2c, D.tup.injEq, D.lst.injEq, M.lst.injEq, eq_self]
    obtain ⟨x, e, hx⟩ := at_of (xs := ds) v0 (by omega)
    exact ⟨x, e, q x pen' hx hp'⟩
  · have hl : z.length = z.cps.toList.length := by simp [Str.length]
    rw [List.length_map] at hpos hlen
    simp only [t__law_one_of, N__law_one_of, dSet, dRet, dRetN, dIfS, dFor, dIt, dgName, dgNil, dgCons, dgTup, dgLst, dgTxt, dgSet, dVar, dC, dG, dOp, dUn, dCallP, dCons, dNil, dTst, dAnd, dOr, dNot, dAndV, dOrV, dNotV, dIf, dFz, dTup, dLst, dCall, dChain, dSl, dONo, dOSome, dMs, dMi, dAsg, dPar, dDrop, dLc, dLc2, dYes, dRng1, dRng2, dEnum, dZip, dLam, dNewD, dRaise, dNext, dBrk, dCnt, DS.put, DS.wipe, DS.rest, wipeL, restL, val, slD, vals, frz1, put1, out1, pures, dargs, dback, getM, setM, M.frz, start0, par, dEnds, isRes, itemsD, p2i, addP, subP, mulP, divP, modP, powP, DL.ltP, DL.leP, DL.gtP, DL.geP, eqP, inP, isNP, ixP, lenP, isiP, allP, anyP, intP, listP, tupleP, sortedSP, reprP, slP, revP, negP, findP, countP, joinP, appP, insP, tyD, lenD, dMl, lcountP, isBP, dLSet, dLRg, List.getElem?_cons_zero, List.getElem?_cons_succ, List.set_cons_zero, List.set_cons_succ, List.cons_append, List.nil_append, List.replicate_succ, List.replicate_zero, List.length_cons, List.length_nil, Option.some.injEq, exists_eq_left', exists_eq_left, Wv.pu.injEq, D.sc.injEq, V.bl.injEq, V.int.injEq, V.str.injEq, Nat.reduceSub, Nat.reduceAdd, List.cons.injEq, and_true, true_and, exists_and_left, Option.map_some, if_true, if_false, Bool.false_eq_true, exists_eq_right, ex2a, ex2b, ex2c, D.tup.injEq, D.lst.injEq, M.lst.injEq, eq_self, hz]
    refine ⟨b, pen, z.length, rfl, hp, hb, by omega, by omega, fun v pen' v0 v1 hp' => ?_⟩
    simp only [dSet, dRet, dRetN, dIfS, dFor, dIt, dgName, dgNil, dgCons, dgTup, dgLst, dgTxt, dgSet, dVar, dC, dG, dOp, dUn, dCallP, dCons, dNil, dTst, dAnd, dOr, dNot, dAndV, dOrV, dNotV, dIf, dFz, dTup, dLst, dCall, dChain, dSl, dONo, dOSome, dMs, dMi, dAsg, dPar, dDrop, dLc, dLc2, dYes, dRng1, dRng2, dEnum, dZip, dLam, dNewD, dRaise, dNext, dBrk, dCnt, DS.put, DS.wipe, DS.rest, wipeL, restL, val, slD, vals, frz1, put1, out1, pures, dargs, dback, getM, setM, M.frz, start0, par, dEnds, isRes, itemsD, p2i, addP, subP, mulP, divP, modP, powP, DL.ltP, DL.leP, DL.gtP, DL.geP, eqP, inP, isNP, ixP, lenP, isiP, allP, anyP, intP, listP, tupleP, sortedSP, reprP, slP, revP, negP, findP, countP, joinP, appP, insP, tyD, lenD, dMl, lcountP, isBP, dLSet, dLRg, List.getElem?_cons_zero, List.getElem?_cons_succ, List.set_cons_zero, List.set_cons_succ, List.cons_append, List.nil_append, List.replicate_succ, List.replicate_zero, List.length_cons, List.length_nil, Option.some.injEq, exists_eq_left', exists_eq_left, Wv.pu.injEq, D.sc.injEq, V.bl.injEq, V.int.injEq, V.str.injEq, Nat.reduceSub, Nat.reduceAdd, List.cons.injEq, and_true, true_and, exists_and_left, Option.map_some, if_true, if_false, Bool.false_eq_true, exists_eq_right, ex2a, ex2b, ex2c, D.tup.injEq, D.lst.injEq, M.lst.injEq, eq_self, hz]
    obtain ⟨x, e, hx⟩ := at_of (xs := z.cps.toList) v0 (by omega)
    exact ⟨x, e, q _ pen' (List.mem_map.mpr ⟨x, hx, rfl⟩) hp'⟩
theorem ascii_bits {z : Str} (h : z ∈ (["01", "01?", "0?", "1?", "?01"] : List Str)) : z.cps.toList ≠ [] ∧ z.length ≤ 3 ∧ ∀ c ∈ z.cps.toList, isBit (sign c) = true := by
  simp only [List.mem_cons, List.not_mem_nil, or_false] at h
  rcases h with rfl | rfl | rfl | rfl | rfl <;> decide
theorem join_len1 : ∀ (ys : List Str), (∀ y ∈ ys, y.length = 1) → (ys.map (·.length)).sum = ys.length
  | [], _ => rfl
  | y :: ys, h => by
    rw [List.map_cons, List.sum_cons, List.length_cons, h y (List.mem_cons_self ..), join_len1 ys fun y hy => h y (List.mem_cons_of_mem _ hy)]
    omega
theorem join_flat : ∀ (ys : List Str), (Txt.join "" ys).cps.toList = (ys.map (·.cps.toList)).flatten := by
  intro ys
  rw [TL.join_eq]
  have h : ∀ ls : List (List Nat), TL.joinL [] ls = ls.flatten := by
    intro ls
    induction ls with
    | nil => rfl
    | cons a l ih =>
      cases l with
      | nil => simp [TL.joinL]
      | cons b l => simp only [TL.joinL, List.nil_append, List.flatten_cons] at ih ⊢; rw [ih]
  have := TL.tl_join "" ys
  show TL.tl (Str.join "" ys) = _
  rw [this]
  exact h _
theorem sing_flat : ∀ cs : List Nat, (cs.map fun c => [c]).flatten = cs
  | [] => rfl
  | a :: l => by rw [List.map_cons, List.flatten_cons, sing_flat l]; rfl
theorem one_of_call {b : Nat} {pen : List D} {ds : List D} {some : D} {Q : Wv → List Wv → Prop} {Y : Value → List Wv → Prop} (hp : PenOk b pen) (hb : b < 1000000000) (hs : some = .lst ds ∨ ∃ z, some = DS' z ∧ z.length ≤ sizeLine ∧ ds = z.cps.toList.map fun c => DS' (sign c)) (hne : ds ≠ []) (hl : ds.length < 1000000)
    (q : ∀ d pen', d ∈ ds → PenOk (b + 1) pen' → Q (.pu d) [.ow (.lst pen'), .pu some]) : sp__law_one_of K [.ow (.lst pen), .pu some] Q Y := ⟨b, pen, some, ds, rfl, hp, hb, hs, hne, hl, q⟩
theorem r__law_any_word (h : sp__law_any_word K ws Q Y) : t__law_any_word K (dEnds Q Y) (start0 N__law_any_word ws) := by
  obtain ⟨b, pen, n, rfl, hp, hb, hn, q⟩ := h
  unfold t__law_any_word
  refine seq_o fun N hN => ?_
  simp only [N__law_any_word, dSet, dRet, dRetN, dIfS, dFor, dIt, dgName, dgNil, dgCons, dgTup, dgLst, dgTxt, dgSet, dVar, dC, dG, dOp, dUn, dCallP, dCons, dNil, dTst, dAnd, dOr, dNot, dAndV, dOrV, dNotV, dIf, dFz, dTup, dLst, dCall, dChain, dSl, dONo, dOSome, dMs, dMi, dAsg, dPar, dDrop, dLc, dLc2, dYes, dRng1, dRng2, dEnum, dZip, dLam, dNewD, dRaise, dNext, dBrk, dCnt, DS.put, DS.wipe, DS.rest, wipeL, restL, val, slD, vals, frz1, put1, out1, pures, dargs, dback, getM, setM, M.frz, start0, par, dEnds, isRes, itemsD, p2i, addP, subP, mulP, divP, modP, powP, DL.ltP, DL.leP, DL.gtP, DL.geP, eqP, inP, isNP, ixP, lenP, isiP, allP, anyP, intP, listP, tupleP, sortedSP, reprP, slP, revP, negP, findP, countP, joinP, appP, insP, tyD, lenD, dMl, lcountP, isBP, dLSet, dLRg, List.getElem?_cons_zero, List.getElem?_cons_succ, List.set_cons_zero, List.set_cons_succ, List.cons_append, List.nil_append, List.replicate_succ, List.replicate_zero, List.length_cons, List.length_nil, Option.some.injEq, exists_eq_left', exists_eq_left, Wv.pu.injEq, D.sc.injEq, V.bl.injEq, V.int.injEq, V.str.injEq, Nat.reduceSub, Nat.reduceAdd, List.cons.injEq, and_true, true_and, exists_and_left, Option.map_some, if_true, if_false, Bool.false_eq_true, exists_eq_right, ex2a, ex2b, ex2c, D.tup.injEq, D.lst.injEq, M.lst.injEq, eq_self]
  refine ⟨by decide, ?_⟩
  refine one_of_call hp (by omega) (.inl rfl) (by simp) (by decide) fun d pen1 hd hp1 => ?_
  obtain ⟨z, hz, rfl⟩ : ∃ z, z ∈ (["01", "01?", "0?", "1?", "?01"] : List Str) ∧ d = DS' z := by
    simp only [List.mem_cons, List.not_mem_nil, or_false] at hd
    rcases hd with rfl | rfl | rfl | rfl | rfl <;> exact ⟨_, by simp, rfl⟩
  obtain ⟨z1, z2, z3⟩ := ascii_bits hz
  simp only [dSet, dRet, dRetN, dIfS, dFor, dIt, dgName, dgNil, dgCons, dgTup, dgLst, dgTxt, dgSet, dVar, dC, dG, dOp, dUn, dCallP, dCons, dNil, dTst, dAnd, dOr, dNot, dAndV, dOrV, dNotV, dIf, dFz, dTup, dLst, dCall, dChain, dSl, dONo, dOSome, dMs, dMi, dAsg, dPar, dDrop, dLc, dLc2, dYes, dRng1, dRng2, dEnum, dZip, dLam, dNewD, dRaise, dNext, dBrk, dCnt, DS.put, DS.wipe, DS.rest, wipeL, restL, val, slD, vals, frz1, put1, out1, pures, dargs, dback, getM, setM, M.frz, start0, par, dEnds, isRes, itemsD, p2i, addP, subP, mulP, divP, modP, powP, DL.ltP, DL.leP, DL.gtP, DL.geP, eqP, inP, isNP, ixP, lenP, isiP, allP, anyP, intP, listP, tupleP, sortedSP, reprP, slP, revP, negP, findP, countP, joinP, appP, insP, tyD, lenD, dMl, lcountP, isBP, dLSet, dLRg, List.getElem?_cons_zero, List.getElem?_cons_succ, List.set_cons_zero, List.set_cons_succ, List.cons_append, List.nil_append, List.replicate_succ, List.replicate_zero, List.length_cons, List.length_nil, Option.some.injEq, exists_eq_left', exists_eq_left, Wv.pu.injEq, D.sc.injEq, V.bl.injEq, V.int.injEq, V.str.injEq, Nat.reduceSub, Nat.reduceAdd, List.cons.injEq, and_true, true_and, exists_and_left, Option.map_some, if_true, if_false, Bool.false_eq_true, exists_eq_right, ex2a, ex2b, ex2c, D.tup.injEq, D.lst.injEq, M.lst.injEq, eq_self, hN]
  refine ⟨by first | exact ⟨_, rfl⟩ | omega, by first | exact ⟨_, rfl⟩ | omega, by omega, ?_⟩
  refine comp_st (fun i acc δ => ∃ pen' cs, δ = ⟨[some (.io 0), some (.pu (DI' n)), some (.pu (DS' z)), none], [.ow (.lst pen'), .pu (DI' n)]⟩ ∧ PenOk (b + 1 + i) pen' ∧ acc = cs.map (fun c => DS' (sign c)) ∧ cs.length = i ∧ ∀ c ∈ cs, isBit (sign c) = true) _ _ 0 _ (fun j d acc δ K2 hd hJ k => ?_) (fun acc δ hJ => ?_) ⟨pen1, [], rfl, hp1, rfl, rfl, fun c hc => by cases hc⟩
  · obtain ⟨pen', cs, rfl, hp', rfl, hl, hcs⟩ := hJ
    have hj : j < n := by
      have := (List.getElem?_eq_some_iff.mp hd).1
      rw [rng_len] at this
      simpa using this
    rw [Nat.zero_add] at hp' hl
    simp only [dSet, dRet, dRetN, dIfS, dFor, dIt, dgName, dgNil, dgCons, dgTup, dgLst, dgTxt, dgSet, dVar, dC, dG, dOp, dUn, dCallP, dCons, dNil, dTst, dAnd, dOr, dNot, dAndV, dOrV, dNotV, dIf, dFz, dTup, dLst, dCall, dChain, dSl, dONo, dOSome, dMs, dMi, dAsg, dPar, dDrop, dLc, dLc2, dYes, dRng1, dRng2, dEnum, dZip, dLam, dNewD, dRaise, dNext, dBrk, dCnt, DS.put, DS.wipe, DS.rest, wipeL, restL, val, slD, vals, frz1, put1, out1, pures, dargs, dback, getM, setM, M.frz, start0, par, dEnds, isRes, itemsD, p2i, addP, subP, mulP, divP, modP, powP, DL.ltP, DL.leP, DL.gtP, DL.geP, eqP, inP, isNP, ixP, lenP, isiP, allP, anyP, intP, listP, tupleP, sortedSP, reprP, slP, revP, negP, findP, countP, joinP, appP, insP, tyD, lenD, dMl, lcountP, isBP, dLSet, dLRg, List.getElem?_cons_zero, List.getElem?_cons_succ, List.set_cons_zero, List.set_cons_succ, List.cons_append, List.nil_append, List.replicate_succ, List.replicate_zero, List.length_cons, List.length_nil, Option.some.injEq, exists_eq_left', exists_eq_left, Wv.pu.injEq, D.sc.injEq, V.bl.injEq, V.int.injEq, V.str.injEq, Nat.reduceSub, Nat.reduceAdd, List.cons.injEq, and_true, true_and, exists_and_left, Option.map_some, if_true, if_false, Bool.false_eq_true, exists_eq_right, ex2a, ex2b, ex2c, D.tup.injEq, D.lst.injEq, M.lst.injEq, eq_self]
    refine one_of_call hp' (by omega) (.inr ⟨z, rfl, small_sl (by omega), rfl⟩) (by simpa using z1) ?_ fun d2 pen2 hd2 hp2 => ?_
    · rw [List.length_map]
      have : z.cps.toList.length = z.length := by simp [Str.length]
      omega
    · obtain ⟨c, hc, rfl⟩ := List.mem_map.mp hd2
      simp only [dSet, dRet, dRetN, dIfS, dFor, dIt, dgName, dgNil, dgCons, dgTup, dgLst, dgTxt, dgSet, dVar, dC, dG, dOp, dUn, dCallP, dCons, dNil, dTst, dAnd, dOr, dNot, dAndV, dOrV, dNotV, dIf, dFz, dTup, dLst, dCall, dChain, dSl, dONo, dOSome, dMs, dMi, dAsg, dPar, dDrop, dLc, dLc2, dYes, dRng1, dRng2, dEnum, dZip, dLam, dNewD, dRaise, dNext, dBrk, dCnt, DS.put, DS.wipe, DS.rest, wipeL, restL, val, slD, vals, frz1, put1, out1, pures, dargs, dback, getM, setM, M.frz, start0, par, dEnds, isRes, itemsD, p2i, addP, subP, mulP, divP, modP, powP, DL.ltP, DL.leP, DL.gtP, DL.geP, eqP, inP, isNP, ixP, lenP, isiP, allP, anyP, intP, listP, tupleP, sortedSP, reprP, slP, revP, negP, findP, countP, joinP, appP, insP, tyD, lenD, dMl, lcountP, isBP, dLSet, dLRg, List.getElem?_cons_zero, List.getElem?_cons_succ, List.set_cons_zero, List.set_cons_succ, List.cons_append, List.nil_append, List.replicate_succ, List.replicate_zero, List.length_cons, List.length_nil, Option.some.injEq, exists_eq_left', exists_eq_left, Wv.pu.injEq, D.sc.injEq, V.bl.injEq, V.int.injEq, V.str.injEq, Nat.reduceSub, Nat.reduceAdd, List.cons.injEq, and_true, true_and, exists_and_left, Option.map_some, if_true, if_false, Bool.false_eq_true, exists_eq_right, ex2a, ex2b, ex2c, D.tup.injEq, D.lst.injEq, M.lst.injEq, eq_self]
      refine k _ _ ⟨?_, pen2, cs ++ [c], rfl, ?_, ?_, ?_, ?_⟩
      · rw [List.length_map, hl]
        exact Nat.lt_of_lt_of_le (show j < 1000 by omega) (by decide)
      · rw [Nat.zero_add, show b + 1 + (j + 1) = b + 1 + j + 1 by omega]; exact hp2
      · simp
      · simp [hl]
      · intro c' hc'
        rcases List.mem_append.mp hc' with hc' | hc'
        · exact hcs c' hc'
        · rw [List.mem_singleton.mp hc']; exact z3 c hc
  · obtain ⟨pen', cs, rfl, hp', rfl, hl, hcs⟩ := hJ
    rw [rng_len] at hp' hl
    simp only [dSet, dRet, dRetN, dIfS, dFor, dIt, dgName, dgNil, dgCons, dgTup, dgLst, dgTxt, dgSet, dVar, dC, dG, dOp, dUn, dCallP, dCons, dNil, dTst, dAnd, dOr, dNot, dAndV, dOrV, dNotV, dIf, dFz, dTup, dLst, dCall, dChain, dSl, dONo, dOSome, dMs, dMi, dAsg, dPar, dDrop, dLc, dLc2, dYes, dRng1, dRng2, dEnum, dZip, dLam, dNewD, dRaise, dNext, dBrk, dCnt, DS.put, DS.wipe, DS.rest, wipeL, restL, val, slD, vals, frz1, put1, out1, pures, dargs, dback, getM, setM, M.frz, start0, par, dEnds, isRes, itemsD, p2i, addP, subP, mulP, divP, modP, powP, DL.ltP, DL.leP, DL.gtP, DL.geP, eqP, inP, isNP, ixP, lenP, isiP, allP, anyP, intP, listP, tupleP, sortedSP, reprP, slP, revP, negP, findP, countP, joinP, appP, insP, tyD, lenD, dMl, lcountP, isBP, dLSet, dLRg, List.getElem?_cons_zero, List.getElem?_cons_succ, List.set_cons_zero, List.set_cons_succ, List.cons_append, List.nil_append, List.replicate_succ, List.replicate_zero, List.length_cons, List.length_nil, Option.some.injEq, exists_eq_left', exists_eq_left, Wv.pu.injEq, D.sc.injEq, V.bl.injEq, V.int.injEq, V.str.injEq, Nat.reduceSub, Nat.reduceAdd, List.cons.injEq, and_true, true_and, exists_and_left, Option.map_some, if_true, if_false, Bool.false_eq_true, exists_eq_right, ex2a, ex2b, ex2c, D.tup.injEq, D.lst.injEq, M.lst.injEq, eq_self]
    have e1 : (cs.map fun c => DS' (sign c)) = (cs.map sign).map fun z => DS' z := by rw [List.map_map]; rfl
    show ∃ ys, strsD (cs.map fun c => DS' (sign c)) = some ys ∧ _
    rw [e1, strs_mapF]
    have hl1 : (List.map (·.length) (cs.map sign)).sum = cs.length := by
      rw [join_len1 _ fun y hy => by obtain ⟨c, _, rfl⟩ := List.mem_map.mp hy; rfl]
      simp
    have e0 : (Str.ofString "").length = 0 := rfl
    refine ⟨_, rfl, by rw [hl1, e0, Nat.mul_zero]; simp at hl; omega, ?_⟩
    have ej : (Txt.join "" (cs.map sign)).cps.toList = cs := by
      rw [join_flat, List.map_map]
      have : ((·.cps.toList) ∘ sign) = fun (c : Nat) => [c] := rfl
      rw [this]
      exact sing_flat cs
    refine q _ pen' ?_ (by rw [ej]; exact hcs) (by simpa using hp')
    show (Txt.join "" (cs.map sign)).cps.size = n
    rw [← Array.length_toList, ej, hl]
    simp
theorem r__law_any_kinds (h : sp__law_any_kinds K ws Q Y) : t__law_any_kinds K (dEnds Q Y) (start0 N__law_any_kinds ws) := by
  obtain ⟨b, pen, n, rfl, hp, hb, hn, q⟩ := h
  simp only [t__law_any_kinds, N__law_any_kinds, dSet, dRet, dRetN, dIfS, dFor, dIt, dgName, dgNil, dgCons, dgTup, dgLst, dgTxt, dgSet, dVar, dC, dG, dOp, dUn, dCallP, dCons, dNil, dTst, dAnd, dOr, dNot, dAndV, dOrV, dNotV, dIf, dFz, dTup, dLst, dCall, dChain, dSl, dONo, dOSome, dMs, dMi, dAsg, dPar, dDrop, dLc, dLc2, dYes, dRng1, dRng2, dEnum, dZip, dLam, dNewD, dRaise, dNext, dBrk, dCnt, DS.put, DS.wipe, DS.rest, wipeL, restL, val, slD, vals, frz1, put1, out1, pures, dargs, dback, getM, setM, M.frz, start0, par, dEnds, isRes, itemsD, p2i, addP, subP, mulP, divP, modP, powP, DL.ltP, DL.leP, DL.gtP, DL.geP, eqP, inP, isNP, ixP, lenP, isiP, allP, anyP, intP, listP, tupleP, sortedSP, reprP, slP, revP, negP, findP, countP, joinP, appP, insP, tyD, lenD, dMl, lcountP, isBP, dLSet, dLRg, List.getElem?_cons_zero, List.getElem?_cons_succ, List.set_cons_zero, List.set_cons_succ, List.cons_append, List.nil_append, List.replicate_succ, List.replicate_zero, List.length_cons, List.length_nil, Option.some.injEq, exists_eq_left', exists_eq_left, Wv.pu.injEq, D.sc.injEq, V.bl.injEq, V.int.injEq, V.str.injEq, Nat.reduceSub, Nat.reduceAdd, List.cons.injEq, and_true, true_and, exists_and_left, Option.map_some, if_true, if_false, Bool.false_eq_true, exists_eq_right, ex2a, ex2b, ex2c, D.tup.injEq, D.lst.injEq, M.lst.injEq, eq_self]
  refine ⟨by omega, by omega, ?_⟩
  refine comp_st (fun i acc δ => ∃ pen' ks, δ = ⟨[some (.io 0), some (.pu (DI' n)), none], [.ow (.lst pen'), .pu (DI' n)]⟩ ∧ PenOk (b + i) pen' ∧ acc = ks.map (fun k => DS' k) ∧ ks.length = i ∧ ∀ k ∈ ks, isK k = true) _ _ 0 _ (fun j d acc δ K2 hd hJ k => ?_) (fun acc δ hJ => ?_) ⟨pen, [], rfl, hp, rfl, rfl, fun c hc => by cases hc⟩
  · obtain ⟨pen', cs, rfl, hp', rfl, hl, hcs⟩ := hJ
    have hj : j < n := by
      have := (List.getElem?_eq_some_iff.mp hd).1
      rw [rng_len] at this
      simpa using this
    rw [Nat.zero_add] at hp' hl
    simp only [dSet, dRet, dRetN, dIfS, dFor, dIt, dgName, dgNil, dgCons, dgTup, dgLst, dgTxt, dgSet, dVar, dC, dG, dOp, dUn, dCallP, dCons, dNil, dTst, dAnd, dOr, dNot, dAndV, dOrV, dNotV, dIf, dFz, dTup, dLst, dCall, dChain, dSl, dONo, dOSome, dMs, dMi, dAsg, dPar, dDrop, dLc, dLc2, dYes, dRng1, dRng2, dEnum, dZip, dLam, dNewD, dRaise, dNext, dBrk, dCnt, DS.put, DS.wipe, DS.rest, wipeL, restL, val, slD, vals, frz1, put1, out1, pures, dargs, dback, getM, setM, M.frz, start0, par, dEnds, isRes, itemsD, p2i, addP, subP, mulP, divP, modP, powP, DL.ltP, DL.leP, DL.gtP, DL.geP, eqP, inP, isNP, ixP, lenP, isiP, allP, anyP, intP, listP, tupleP, sortedSP, reprP, slP, revP, negP, findP, countP, joinP, appP, insP, tyD, lenD, dMl, lcountP, isBP, dLSet, dLRg, List.getElem?_cons_zero, List.getElem?_cons_succ, List.set_cons_zero, List.set_cons_succ, List.cons_append, List.nil_append, List.replicate_succ, List.replicate_zero, List.length_cons, List.length_nil, Option.some.injEq, exists_eq_left', exists_eq_left, Wv.pu.injEq, D.sc.injEq, V.bl.injEq, V.int.injEq, V.str.injEq, Nat.reduceSub, Nat.reduceAdd, List.cons.injEq, and_true, true_and, exists_and_left, Option.map_some, if_true, if_false, Bool.false_eq_true, exists_eq_right, ex2a, ex2b, ex2c, D.tup.injEq, D.lst.injEq, M.lst.injEq, eq_self]
    refine ⟨by decide, ?_⟩
    refine one_of_call hp' (by omega) (.inl rfl) (by simp) (by decide) fun d2 pen2 hd2 hp2 => ?_
    obtain ⟨c, hc, rfl⟩ : ∃ z, isK z = true ∧ d2 = DS' z := by
      simp only [List.mem_cons, List.not_mem_nil, or_false] at hd2
      rcases hd2 with rfl | rfl | rfl | rfl <;> exact ⟨_, by decide, rfl⟩
    simp only [dSet, dRet, dRetN, dIfS, dFor, dIt, dgName, dgNil, dgCons, dgTup, dgLst, dgTxt, dgSet, dVar, dC, dG, dOp, dUn, dCallP, dCons, dNil, dTst, dAnd, dOr, dNot, dAndV, dOrV, dNotV, dIf, dFz, dTup, dLst, dCall, dChain, dSl, dONo, dOSome, dMs, dMi, dAsg, dPar, dDrop, dLc, dLc2, dYes, dRng1, dRng2, dEnum, dZip, dLam, dNewD, dRaise, dNext, dBrk, dCnt, DS.put, DS.wipe, DS.rest, wipeL, restL, val, slD, vals, frz1, put1, out1, pures, dargs, dback, getM, setM, M.frz, start0, par, dEnds, isRes, itemsD, p2i, addP, subP, mulP, divP, modP, powP, DL.ltP, DL.leP, DL.gtP, DL.geP, eqP, inP, isNP, ixP, lenP, isiP, allP, anyP, intP, listP, tupleP, sortedSP, reprP, slP, revP, negP, findP, countP, joinP, appP, insP, tyD, lenD, dMl, lcountP, isBP, dLSet, dLRg, List.getElem?_cons_zero, List.getElem?_cons_succ, List.set_cons_zero, List.set_cons_succ, List.cons_append, List.nil_append, List.replicate_succ, List.replicate_zero, List.length_cons, List.length_nil, Option.some.injEq, exists_eq_left', exists_eq_left, Wv.pu.injEq, D.sc.injEq, V.bl.injEq, V.int.injEq, V.str.injEq, Nat.reduceSub, Nat.reduceAdd, List.cons.injEq, and_true, true_and, exists_and_left, Option.map_some, if_true, if_false, Bool.false_eq_true, exists_eq_right, ex2a, ex2b, ex2c, D.tup.injEq, D.lst.injEq, M.lst.injEq, eq_self]
    refine k _ _ ⟨?_, pen2, cs ++ [c], rfl, ?_, ?_, ?_, ?_⟩
    · rw [List.length_map, hl]
      exact Nat.lt_of_lt_of_le (show j < 1000 by omega) (by decide)
    · rw [Nat.zero_add, show b + (j + 1) = b + j + 1 by omega]; exact hp2
    · simp
    · simp [hl]
    · intro c' hc'
      rcases List.mem_append.mp hc' with hc' | hc'
      · exact hcs c' hc'
      · rw [List.mem_singleton.mp hc']; exact hc
  · obtain ⟨pen', cs, rfl, hp', rfl, hl, hcs⟩ := hJ
    rw [rng_len] at hp' hl
    simp only [dSet, dRet, dRetN, dIfS, dFor, dIt, dgName, dgNil, dgCons, dgTup, dgLst, dgTxt, dgSet, dVar, dC, dG, dOp, dUn, dCallP, dCons, dNil, dTst, dAnd, dOr, dNot, dAndV, dOrV, dNotV, dIf, dFz, dTup, dLst, dCall, dChain, dSl, dONo, dOSome, dMs, dMi, dAsg, dPar, dDrop, dLc, dLc2, dYes, dRng1, dRng2, dEnum, dZip, dLam, dNewD, dRaise, dNext, dBrk, dCnt, DS.put, DS.wipe, DS.rest, wipeL, restL, val, slD, vals, frz1, put1, out1, pures, dargs, dback, getM, setM, M.frz, start0, par, dEnds, isRes, itemsD, p2i, addP, subP, mulP, divP, modP, powP, DL.ltP, DL.leP, DL.gtP, DL.geP, eqP, inP, isNP, ixP, lenP, isiP, allP, anyP, intP, listP, tupleP, sortedSP, reprP, slP, revP, negP, findP, countP, joinP, appP, insP, tyD, lenD, dMl, lcountP, isBP, dLSet, dLRg, List.getElem?_cons_zero, List.getElem?_cons_succ, List.set_cons_zero, List.set_cons_succ, List.cons_append, List.nil_append, List.replicate_succ, List.replicate_zero, List.length_cons, List.length_nil, Option.some.injEq, exists_eq_left', exists_eq_left, Wv.pu.injEq, D.sc.injEq, V.bl.injEq, V.int.injEq, V.str.injEq, Nat.reduceSub, Nat.reduceAdd, List.cons.injEq, and_true, true_and, exists_and_left, Option.map_some, if_true, if_false, Bool.false_eq_true, exists_eq_right, ex2a, ex2b, ex2c, D.tup.injEq, D.lst.injEq, M.lst.injEq, eq_self]
    exact q cs pen' (by simpa using hl) hcs (by simpa using hp')
end
end Lw

/-! text RG -/
set_option Elab.async false
set_option linter.all false
set_option maxRecDepth 100000
set_option maxHeartbeats 4000000
namespace Lw
open PySem PySem.Spec PyProof.Rows L2 DL
section
variable {P : Program} {w : World} {base : Heap} {K : PySem.W.Frag} {ws : List Wv} {Q : Wv → List Wv → Prop} {Y : Value → List Wv → Prop} {mg : Str → Option Value}
theorem ixn_of {n : Nat} {i : Int} (h0 : 0 ≤ i) (h : i < n) : ixN n i = some i.toNat := by
  unfold ixN
  rw [if_pos h0, if_pos h]
theorem en_at {j : Nat} {k : Nat} {ds : List D} {d : D} (h : (enD k ds)[j]? = some d) : ∃ x, ds[j]? = some x ∧ d = .tup [DI' ((k + j : Nat) : Int), x] := by
  have hj : j < ds.length := by
    have := (List.getElem?_eq_some_iff.mp h).1
    rwa [enD_len] at this
  have h1 : ds[j]? = some ds[j] := by simp [hj]
  have := enD_get (k := k) h1
  rw [h] at this
  cases this
  exact ⟨_, h1, rfl⟩
theorem cut12 (ns : List Int) : (cutL ns none (some 12)).length ≤ 12 ∧ (cutL ns (some 12) (some 63) ≠ [] → (cutL ns none (some 12)).length = 12) := by
  unfold cutL HT.sIx
  constructor
  · simp
    omega
  · intro h
    have h' : 12 < ns.length := by
      refine Classical.byContradiction fun z => h ?_
      apply List.eq_nil_of_length_eq_zero
      simp
      omega
    simp
    omega
theorem r__law_open (h : sp__law_open K ws Q Y) : t__law_open K (dEnds Q Y) (start0 N__law_open ws) := by
  obtain ⟨ns, rfl, hn, q⟩ := h
  obtain ⟨l1, l2⟩ := cut12 ns
  unfold t__law_open
  refine seq_o fun N hN => ?_
  simp only [N__law_open, dSet, dRet, dRetN, dIfS, dFor, dIt, dgName, dgNil, dgCons, dgTup, dgLst, dgTxt, dgSet, dVar, dC, dG, dOp, dUn, dCallP, dCons, dNil, dTst, dAnd, dOr, dNot, dAndV, dOrV, dNotV, dIf, dFz, dTup, dLst, dCall, dChain, dSl, dONo, dOSome, dMs, dMi, dAsg, dPar, dDrop, dLc, dLc2, dYes, dRng1, dRng2, dEnum, dZip, dLam, dNewD, dRaise, dNext, dBrk, dCnt, DS.put, DS.wipe, DS.rest, wipeL, restL, val, slD, vals, frz1, put1, out1, pures, dargs, dback, getM, setM, M.frz, start0, par, dEnds, isRes, itemsD, p2i, addP, subP, mulP, divP, modP, powP, DL.ltP, DL.leP, DL.gtP, DL.geP, eqP, inP, isNP, ixP, lenP, isiP, allP, anyP, intP, listP, tupleP, sortedSP, reprP, slP, revP, negP, findP, countP, joinP, appP, insP, tyD, lenD, dMl, lcountP, isBP, dLSet, dLRg, List.getElem?_cons_zero, List.getElem?_cons_succ, List.set_cons_zero, List.set_cons_succ, List.cons_append, List.nil_append, List.replicate_succ, List.replicate_zero, List.length_cons, List.length_nil, Option.some.injEq, exists_eq_left', exists_eq_left, Wv.pu.injEq, D.sc.injEq, V.bl.injEq, V.int.injEq, V.str.injEq, Nat.reduceSub, Nat.reduceAdd, List.cons.injEq, and_true, true_and, exists_and_left, Option.map_some, if_true, if_false, Bool.false_eq_true, exists_eq_right, ex2a, ex2b, ex2c, D.tup.injEq, D.lst.injEq, M.lst.injEq, eq_self]
  subst hN
  refine seq_o fun N hN => ?_
  simp only [dSet, dRet, dRetN, dIfS, dFor, dIt, dgName, dgNil, dgCons, dgTup, dgLst, dgTxt, dgSet, dVar, dC, dG, dOp, dUn, dCallP, dCons, dNil, dTst, dAnd, dOr, dNot, dAndV, dOrV, dNotV, dIf, dFz, dTup, dLst, dCall, dChain, dSl, dONo, dOSome, dMs, dMi, dAsg, dPar, dDrop, dLc, dLc2, dYes, dRng1, dRng2, dEnum, dZip, dLam, dNewD, dRaise, dNext, dBrk, dCnt, DS.put, DS.wipe, DS.rest, wipeL, restL, val, slD, vals, frz1, put1, out1, pures, dargs, dback, getM, setM, M.frz, start0, par, dEnds, isRes, itemsD, p2i, addP, subP, mulP, divP, modP, powP, DL.ltP, DL.leP, DL.gtP, DL.geP, eqP, inP, isNP, ixP, lenP, isiP, allP, anyP, intP, listP, tupleP, sortedSP, reprP, slP, revP, negP, findP, countP, joinP, appP, insP, tyD, lenD, dMl, lcountP, isBP, dLSet, dLRg, List.getElem?_cons_zero, List.getElem?_cons_succ, List.set_cons_zero, List.set_cons_succ, List.cons_append, List.nil_append, List.replicate_succ, List.replicate_zero, List.length_cons, List.length_nil, Option.some.injEq, exists_eq_left', exists_eq_left, Wv.pu.injEq, D.sc.injEq, V.bl.injEq, V.int.injEq, V.str.injEq, Nat.reduceSub, Nat.reduceAdd, List.cons.injEq, and_true, true_and, exists_and_left, Option.map_some, if_true, if_false, Bool.false_eq_true, exists_eq_right, ex2a, ex2b, ex2c, D.tup.injEq, D.lst.injEq, M.lst.injEq, eq_self]
  refine for_i (fun j δ => ∃ (cells : List Int) (x y : Option Wv), δ = ⟨[some (.pu (.scr ns)), some (.ow (.lst (cells.map fun c => DI' c))), x, y], [.pu (.scr ns)]⟩ ∧ cells.length = (cutL ns none (some 12)).length) ⟨_, none, none, rfl, rfl⟩ (fun j d δ K' hd hI k => ?_) (fun δ hI => ?_)
  · obtain ⟨cells, x, y, rfl, hl⟩ := hI
    obtain ⟨e, he, rfl⟩ := en_at hd
    rw [List.getElem?_map] at he
    cases hc : (cutL ns (some 12) (some 63))[j]? with
    | none => rw [hc] at he; cases he
    | some c =>
      rw [hc] at he
      cases he
      have h12 : cells.length = 12 := by rw [hl]; exact l2 fun z => by rw [z] at hc; simp at hc
      simp only [dSet, dRet, dRetN, dIfS, dFor, dIt, dgName, dgNil, dgCons, dgTup, dgLst, dgTxt, dgSet, dVar, dC, dG, dOp, dUn, dCallP, dCons, dNil, dTst, dAnd, dOr, dNot, dAndV, dOrV, dNotV, dIf, dFz, dTup, dLst, dCall, dChain, dSl, dONo, dOSome, dMs, dMi, dAsg, dPar, dDrop, dLc, dLc2, dYes, dRng1, dRng2, dEnum, dZip, dLam, dNewD, dRaise, dNext, dBrk, dCnt, DS.put, DS.wipe, DS.rest, wipeL, restL, val, slD, vals, frz1, put1, out1, pures, dargs, dback, getM, setM, M.frz, start0, par, dEnds, isRes, itemsD, p2i, addP, subP, mulP, divP, modP, powP, DL.ltP, DL.leP, DL.gtP, DL.geP, eqP, inP, isNP, ixP, lenP, isiP, allP, anyP, intP, listP, tupleP, sortedSP, reprP, slP, revP, negP, findP, countP, joinP, appP, insP, tyD, lenD, dMl, lcountP, isBP, dLSet, dLRg, List.getElem?_cons_zero, List.getElem?_cons_succ, List.set_cons_zero, List.set_cons_succ, List.cons_append, List.nil_append, List.replicate_succ, List.replicate_zero, List.length_cons, List.length_nil, Option.some.injEq, exists_eq_left', exists_eq_left, Wv.pu.injEq, D.sc.injEq, V.bl.injEq, V.int.injEq, V.str.injEq, Nat.reduceSub, Nat.reduceAdd, List.cons.injEq, and_true, true_and, exists_and_left, Option.map_some, if_true, if_false, Bool.false_eq_true, exists_eq_right, ex2a, ex2b, ex2c, D.tup.injEq, D.lst.injEq, M.lst.injEq, eq_self, Nat.zero_add]
      have m1 := Int.emod_nonneg (j : Int) (show (12 : Int) ≠ 0 by decide)
      have m2 := Int.emod_lt_of_pos (j : Int) (show (0 : Int) < 12 by decide)
      refine ⟨by decide, ?_⟩
      obtain ⟨x, ex, hx⟩ := at_of (xs := cells.map fun c => DI' c) m1 (by simp [h12]; exact m2)
      obtain ⟨c0, _, rfl⟩ := List.mem_map.mp hx
      refine ⟨_, ex, ?_⟩
      simp only [dSet, dRet, dRetN, dIfS, dFor, dIt, dgName, dgNil, dgCons, dgTup, dgLst, dgTxt, dgSet, dVar, dC, dG, dOp, dUn, dCallP, dCons, dNil, dTst, dAnd, dOr, dNot, dAndV, dOrV, dNotV, dIf, dFz, dTup, dLst, dCall, dChain, dSl, dONo, dOSome, dMs, dMi, dAsg, dPar, dDrop, dLc, dLc2, dYes, dRng1, dRng2, dEnum, dZip, dLam, dNewD, dRaise, dNext, dBrk, dCnt, DS.put, DS.wipe, DS.rest, wipeL, restL, val, slD, vals, frz1, put1, out1, pures, dargs, dback, getM, setM, M.frz, start0, par, dEnds, isRes, itemsD, p2i, addP, subP, mulP, divP, modP, powP, DL.ltP, DL.leP, DL.gtP, DL.geP, eqP, inP, isNP, ixP, lenP, isiP, allP, anyP, intP, listP, tupleP, sortedSP, reprP, slP, revP, negP, findP, countP, joinP, appP, insP, tyD, lenD, dMl, lcountP, isBP, dLSet, dLRg, List.getElem?_cons_zero, List.getElem?_cons_succ, List.set_cons_zero, List.set_cons_succ, List.cons_append, List.nil_append, List.replicate_succ, List.replicate_zero, List.length_cons, List.length_nil, Option.some.injEq, exists_eq_left', exists_eq_left, Wv.pu.injEq, D.sc.injEq, V.bl.injEq, V.int.injEq, V.str.injEq, Nat.reduceSub, Nat.reduceAdd, List.cons.injEq, and_true, true_and, exists_and_left, Option.map_some, if_true, if_false, Bool.false_eq_true, exists_eq_right, ex2a, ex2b, ex2c, D.tup.injEq, D.lst.injEq, M.lst.injEq, eq_self, List.length_map]
      refine ⟨by decide, ?_⟩
      rw [ixn_of m1 (by rw [h12]; exact m2)]
      refine ⟨_, rfl, k _ ⟨cells.set ((j : Int) % 12).toNat (c0 + c), some (.pu (DI' (j : Int))), some (.pu (DI' c)), ?_, by simpa using hl⟩⟩
      rw [List.map_set]
  · obtain ⟨cells, x, y, rfl, hl⟩ := hI
    simp only [hN, dSet, dRet, dRetN, dIfS, dFor, dIt, dgName, dgNil, dgCons, dgTup, dgLst, dgTxt, dgSet, dVar, dC, dG, dOp, dUn, dCallP, dCons, dNil, dTst, dAnd, dOr, dNot, dAndV, dOrV, dNotV, dIf, dFz, dTup, dLst, dCall, dChain, dSl, dONo, dOSome, dMs, dMi, dAsg, dPar, dDrop, dLc, dLc2, dYes, dRng1, dRng2, dEnum, dZip, dLam, dNewD, dRaise, dNext, dBrk, dCnt, DS.put, DS.wipe, DS.rest, wipeL, restL, val, slD, vals, frz1, put1, out1, pures, dargs, dback, getM, setM, M.frz, start0, par, dEnds, isRes, itemsD, p2i, addP, subP, mulP, divP, modP, powP, DL.ltP, DL.leP, DL.gtP, DL.geP, eqP, inP, isNP, ixP, lenP, isiP, allP, anyP, intP, listP, tupleP, sortedSP, reprP, slP, revP, negP, findP, countP, joinP, appP, insP, tyD, lenD, dMl, lcountP, isBP, dLSet, dLRg, List.getElem?_cons_zero, List.getElem?_cons_succ, List.set_cons_zero, List.set_cons_succ, List.cons_append, List.nil_append, List.replicate_succ, List.replicate_zero, List.length_cons, List.length_nil, Option.some.injEq, exists_eq_left', exists_eq_left, Wv.pu.injEq, D.sc.injEq, V.bl.injEq, V.int.injEq, V.str.injEq, Nat.reduceSub, Nat.reduceAdd, List.cons.injEq, and_true, true_and, exists_and_left, Option.map_some, if_true, if_false, Bool.false_eq_true, exists_eq_right, ex2a, ex2b, ex2c, D.tup.injEq, D.lst.injEq, M.lst.injEq, eq_self]
    exact ⟨by decide, q _ ⟨cells, 0, 0, rfl, by rw [hl]; exact l1, by decide, by decide, by decide⟩⟩
theorem sum_const {α : Type} {f : α → Nat} {c : Nat} : ∀ xs : List α, (∀ x ∈ xs, f x = c) → (xs.map f).sum = xs.length * c
  | [], _ => by simp
  | x :: xs, h => by
    rw [List.map_cons, List.sum_cons, h x (List.mem_cons_self ..), sum_const xs fun y hy => h y (List.mem_cons_of_mem _ hy), List.length_cons, Nat.add_mul]
    omega
theorem allW_bound {bits : List Nat} : ∀ n, (allW bits n).length = bits.length ^ n ∧ ∀ x ∈ allW bits n, x.length = n
  | 0 => ⟨rfl, fun x hx => by rw [List.mem_singleton.mp hx]; rfl⟩
  | n + 1 => by
    obtain ⟨h1, h2⟩ := allW_bound (bits := bits) n
    refine ⟨?_, fun x hx => ?_⟩
    · show ((allW bits n).flatMap fun w => bits.map fun c => w ++ sign c).length = _
      rw [List.length_flatMap, Nat.pow_succ, ← h1]
      exact sum_const _ fun w _ => by simp
    · obtain ⟨w, hw, hx⟩ := List.mem_flatMap.mp hx
      obtain ⟨c, _, rfl⟩ := List.mem_map.mp hx
      rw [len_app, h2 w hw]
      rfl
/-- the inner loop 'for x in found: longer = longer + [.. for ..]' -/
theorem grow_list {α : Type} {f : α → List Str} (xs : List α) (j : Nat) {x : α} (h : xs[j]? = some x) : (xs.take (j + 1)).flatMap f = (xs.take j).flatMap f ++ f x := by
  rw [List.take_succ, h, List.flatMap_append]
  simp
theorem r__law_all (h : sp__law_all K ws Q Y) : t__law_all K (dEnds Q Y) (start0 N__law_all ws) := by
  obtain ⟨ds, e, hl, ⟨n, z, rfl, hn, hz⟩, q⟩ := h
  have := pures_len e
  subst this
  have hzl : z.cps.toList.length = z.length := by simp [Str.length]
  simp only [List.map_cons, List.map_nil, List.getD_cons_zero, List.getD_cons_succ, str, nat, DS', DI', Int.toNat_natCast] at q ⊢
  unfold t__law_all
  refine seq_o fun N hN => ?_
  simp only [N__law_all, dSet, dRet, dRetN, dIfS, dFor, dIt, dgName, dgNil, dgCons, dgTup, dgLst, dgTxt, dgSet, dVar, dC, dG, dOp, dUn, dCallP, dCons, dNil, dTst, dAnd, dOr, dNot, dAndV, dOrV, dNotV, dIf, dFz, dTup, dLst, dCall, dChain, dSl, dONo, dOSome, dMs, dMi, dAsg, dPar, dDrop, dLc, dLc2, dYes, dRng1, dRng2, dEnum, dZip, dLam, dNewD, dRaise, dNext, dBrk, dCnt, DS.put, DS.wipe, DS.rest, wipeL, restL, val, slD, vals, frz1, put1, out1, pures, dargs, dback, getM, setM, M.frz, start0, par, dEnds, isRes, itemsD, p2i, addP, subP, mulP, divP, modP, powP, DL.ltP, DL.leP, DL.gtP, DL.geP, eqP, inP, isNP, ixP, lenP, isiP, allP, anyP, intP, listP, tupleP, sortedSP, reprP, slP, revP, negP, findP, countP, joinP, appP, insP, tyD, lenD, dMl, lcountP, isBP, dLSet, dLRg, List.getElem?_cons_zero, List.getElem?_cons_succ, List.set_cons_zero, List.set_cons_succ, List.cons_append, List.nil_append, List.replicate_succ, List.replicate_zero, List.length_cons, List.length_nil, Option.some.injEq, exists_eq_left', exists_eq_left, Wv.pu.injEq, D.sc.injEq, V.bl.injEq, V.int.injEq, V.str.injEq, Nat.reduceSub, Nat.reduceAdd, List.cons.injEq, and_true, true_and, exists_and_left, Option.map_some, if_true, if_false, Bool.false_eq_true, exists_eq_right, ex2a, ex2b, ex2c, D.tup.injEq, D.lst.injEq, M.lst.injEq, eq_self]
  refine ⟨by decide, ?_⟩
  subst hN
  refine seq_o fun N hN => ?_
  simp only [dSet, dRet, dRetN, dIfS, dFor, dIt, dgName, dgNil, dgCons, dgTup, dgLst, dgTxt, dgSet, dVar, dC, dG, dOp, dUn, dCallP, dCons, dNil, dTst, dAnd, dOr, dNot, dAndV, dOrV, dNotV, dIf, dFz, dTup, dLst, dCall, dChain, dSl, dONo, dOSome, dMs, dMi, dAsg, dPar, dDrop, dLc, dLc2, dYes, dRng1, dRng2, dEnum, dZip, dLam, dNewD, dRaise, dNext, dBrk, dCnt, DS.put, DS.wipe, DS.rest, wipeL, restL, val, slD, vals, frz1, put1, out1, pures, dargs, dback, getM, setM, M.frz, start0, par, dEnds, isRes, itemsD, p2i, addP, subP, mulP, divP, modP, powP, DL.ltP, DL.leP, DL.gtP, DL.geP, eqP, inP, isNP, ixP, lenP, isiP, allP, anyP, intP, listP, tupleP, sortedSP, reprP, slP, revP, negP, findP, countP, joinP, appP, insP, tyD, lenD, dMl, lcountP, isBP, dLSet, dLRg, List.getElem?_cons_zero, List.getElem?_cons_succ, List.set_cons_zero, List.set_cons_succ, List.cons_append, List.nil_append, List.replicate_succ, List.replicate_zero, List.length_cons, List.length_nil, Option.some.injEq, exists_eq_left', exists_eq_left, Wv.pu.injEq, D.sc.injEq, V.bl.injEq, V.int.injEq, V.str.injEq, Nat.reduceSub, Nat.reduceAdd, List.cons.injEq, and_true, true_and, exists_and_left, Option.map_some, if_true, if_false, Bool.false_eq_true, exists_eq_right, ex2a, ex2b, ex2c, D.tup.injEq, D.lst.injEq, M.lst.injEq, eq_self]
  refine ⟨by omega, by omega, ?_⟩
  have pw : ∀ j, j ≤ 8 → z.cps.toList.length ^ j ≤ 6561 := fun j hj => Nat.le_trans (Nat.pow_le_pow_left (show z.cps.toList.length ≤ 3 by omega) j) (Nat.le_trans (Nat.pow_le_pow_right (by decide) hj) (by decide))
  refine for_i (fun j δ => ∃ x y v, δ = ⟨[some (.pu (.sc (.int n))), some (.pu (.sc (.str z))), some (strsL (allW z.cps.toList j)), x, y, v, none], [.pu (.sc (.int n)), .pu (.sc (.str z))]⟩) ⟨none, none, none, rfl⟩ (fun j d δ K' hd hI k => ?_) (fun δ hI => ?_)
  · obtain ⟨x, y, v, rfl⟩ := hI
    have hj : j < n := by
      have := (List.getElem?_eq_some_iff.mp hd).1
      rw [rng_len] at this
      simpa using this
    obtain ⟨b1, b2⟩ := allW_bound (bits := z.cps.toList) j
    have p1 := pw j (by omega)
    have p2 := pw (j + 1) (by omega)
    simp only [dSet, dRet, dRetN, dIfS, dFor, dIt, dgName, dgNil, dgCons, dgTup, dgLst, dgTxt, dgSet, dVar, dC, dG, dOp, dUn, dCallP, dCons, dNil, dTst, dAnd, dOr, dNot, dAndV, dOrV, dNotV, dIf, dFz, dTup, dLst, dCall, dChain, dSl, dONo, dOSome, dMs, dMi, dAsg, dPar, dDrop, dLc, dLc2, dYes, dRng1, dRng2, dEnum, dZip, dLam, dNewD, dRaise, dNext, dBrk, dCnt, DS.put, DS.wipe, DS.rest, wipeL, restL, val, slD, vals, frz1, put1, out1, pures, dargs, dback, getM, setM, M.frz, start0, par, dEnds, isRes, itemsD, p2i, addP, subP, mulP, divP, modP, powP, DL.ltP, DL.leP, DL.gtP, DL.geP, eqP, inP, isNP, ixP, lenP, isiP, allP, anyP, intP, listP, tupleP, sortedSP, reprP, slP, revP, negP, findP, countP, joinP, appP, insP, tyD, lenD, dMl, lcountP, isBP, dLSet, dLRg, List.getElem?_cons_zero, List.getElem?_cons_succ, List.set_cons_zero, List.set_cons_succ, List.cons_append, List.nil_append, List.replicate_succ, List.replicate_zero, List.length_cons, List.length_nil, Option.some.injEq, exists_eq_left', exists_eq_left, Wv.pu.injEq, D.sc.injEq, V.bl.injEq, V.int.injEq, V.str.injEq, Nat.reduceSub, Nat.reduceAdd, List.cons.injEq, and_true, true_and, exists_and_left, Option.map_some, if_true, if_false, Bool.false_eq_true, exists_eq_right, ex2a, ex2b, ex2c, D.tup.injEq, D.lst.injEq, M.lst.injEq, eq_self]
    refine seq_o fun N1 hN1 => ?_
    simp only [dSet, dRet, dRetN, dIfS, dFor, dIt, dgName, dgNil, dgCons, dgTup, dgLst, dgTxt, dgSet, dVar, dC, dG, dOp, dUn, dCallP, dCons, dNil, dTst, dAnd, dOr, dNot, dAndV, dOrV, dNotV, dIf, dFz, dTup, dLst, dCall, dChain, dSl, dONo, dOSome, dMs, dMi, dAsg, dPar, dDrop, dLc, dLc2, dYes, dRng1, dRng2, dEnum, dZip, dLam, dNewD, dRaise, dNext, dBrk, dCnt, DS.put, DS.wipe, DS.rest, wipeL, restL, val, slD, vals, frz1, put1, out1, pures, dargs, dback, getM, setM, M.frz, start0, par, dEnds, isRes, itemsD, p2i, addP, subP, mulP, divP, modP, powP, DL.ltP, DL.leP, DL.gtP, DL.geP, eqP, inP, isNP, ixP, lenP, isiP, allP, anyP, intP, listP, tupleP, sortedSP, reprP, slP, revP, negP, findP, countP, joinP, appP, insP, tyD, lenD, dMl, lcountP, isBP, dLSet, dLRg, List.getElem?_cons_zero, List.getElem?_cons_succ, List.set_cons_zero, List.set_cons_succ, List.cons_append, List.nil_append, List.replicate_succ, List.replicate_zero, List.length_cons, List.length_nil, Option.some.injEq, exists_eq_left', exists_eq_left, Wv.pu.injEq, D.sc.injEq, V.bl.injEq, V.int.injEq, V.str.injEq, Nat.reduceSub, Nat.reduceAdd, List.cons.injEq, and_true, true_and, exists_and_left, Option.map_some, if_true, if_false, Bool.false_eq_true, exists_eq_right, ex2a, ex2b, ex2c, D.tup.injEq, D.lst.injEq, M.lst.injEq, eq_self, strsL]
    refine ⟨by decide, ?_⟩
    subst hN1
    refine seq_o fun N1 hN1 => ?_
    simp only [dSet, dRet, dRetN, dIfS, dFor, dIt, dgName, dgNil, dgCons, dgTup, dgLst, dgTxt, dgSet, dVar, dC, dG, dOp, dUn, dCallP, dCons, dNil, dTst, dAnd, dOr, dNot, dAndV, dOrV, dNotV, dIf, dFz, dTup, dLst, dCall, dChain, dSl, dONo, dOSome, dMs, dMi, dAsg, dPar, dDrop, dLc, dLc2, dYes, dRng1, dRng2, dEnum, dZip, dLam, dNewD, dRaise, dNext, dBrk, dCnt, DS.put, DS.wipe, DS.rest, wipeL, restL, val, slD, vals, frz1, put1, out1, pures, dargs, dback, getM, setM, M.frz, start0, par, dEnds, isRes, itemsD, p2i, addP, subP, mulP, divP, modP, powP, DL.ltP, DL.leP, DL.gtP, DL.geP, eqP, inP, isNP, ixP, lenP, isiP, allP, anyP, intP, listP, tupleP, sortedSP, reprP, slP, revP, negP, findP, countP, joinP, appP, insP, tyD, lenD, dMl, lcountP, isBP, dLSet, dLRg, List.getElem?_cons_zero, List.getElem?_cons_succ, List.set_cons_zero, List.set_cons_succ, List.cons_append, List.nil_append, List.replicate_succ, List.replicate_zero, List.length_cons, List.length_nil, Option.some.injEq, exists_eq_left', exists_eq_left, Wv.pu.injEq, D.sc.injEq, V.bl.injEq, V.int.injEq, V.str.injEq, Nat.reduceSub, Nat.reduceAdd, List.cons.injEq, and_true, true_and, exists_and_left, Option.map_some, if_true, if_false, Bool.false_eq_true, exists_eq_right, ex2a, ex2b, ex2c, D.tup.injEq, D.lst.injEq, M.lst.injEq, eq_self]
    refine for_i (fun i δ => ∃ v, δ = ⟨[some (.pu (.sc (.int n))), some (.pu (.sc (.str z))), some (.pu (.lst ((allW z.cps.toList j).map fun z => DS' z))), some (.pu d), some (strsL (((allW z.cps.toList j).take i).flatMap fun w => z.cps.toList.map fun c => w ++ sign c)), v, none], [.pu (.sc (.int n)), .pu (.sc (.str z))]⟩) ⟨v, rfl⟩ (fun i d2 δ K2 hd2 hI2 k2 => ?_) (fun δ hI2 => ?_)
    · obtain ⟨v, rfl⟩ := hI2
      rw [List.getElem?_map] at hd2
      cases hw : (allW z.cps.toList j)[i]? with
      | none => rw [hw] at hd2; cases hd2
      | some w =>
        rw [hw] at hd2
        cases hd2
        have hwl := b2 w (List.mem_of_getElem? hw)
        have tot : (((allW z.cps.toList j).take i).flatMap fun w => z.cps.toList.map fun c => w ++ sign c).length + z.cps.toList.length ≤ 6561 := by
          have e1 := grow_list (f := fun w => z.cps.toList.map fun c => w ++ sign c) (allW z.cps.toList j) i hw
          have e2 := congrArg List.length e1
          rw [List.length_append, List.length_map] at e2
          rw [← e2]
          refine Nat.le_trans (flat_len (c := z.cps.toList.length) fun x _ => by simp) (Nat.le_trans (Nat.mul_le_mul_right _ (List.length_take_le' _ _)) ?_)
          rw [b1, ← Nat.pow_succ]
          exact p2
        simp only [dSet, dRet, dRetN, dIfS, dFor, dIt, dgName, dgNil, dgCons, dgTup, dgLst, dgTxt, dgSet, dVar, dC, dG, dOp, dUn, dCallP, dCons, dNil, dTst, dAnd, dOr, dNot, dAndV, dOrV, dNotV, dIf, dFz, dTup, dLst, dCall, dChain, dSl, dONo, dOSome, dMs, dMi, dAsg, dPar, dDrop, dLc, dLc2, dYes, dRng1, dRng2, dEnum, dZip, dLam, dNewD, dRaise, dNext, dBrk, dCnt, DS.put, DS.wipe, DS.rest, wipeL, restL, val, slD, vals, frz1, put1, out1, pures, dargs, dback, getM, setM, M.frz, start0, par, dEnds, isRes, itemsD, p2i, addP, subP, mulP, divP, modP, powP, DL.ltP, DL.leP, DL.gtP, DL.geP, eqP, inP, isNP, ixP, lenP, isiP, allP, anyP, intP, listP, tupleP, sortedSP, reprP, slP, revP, negP, findP, countP, joinP, appP, insP, tyD, lenD, dMl, lcountP, isBP, dLSet, dLRg, List.getElem?_cons_zero, List.getElem?_cons_succ, List.set_cons_zero, List.set_cons_succ, List.cons_append, List.nil_append, List.replicate_succ, List.replicate_zero, List.length_cons, List.length_nil, Option.some.injEq, exists_eq_left', exists_eq_left, Wv.pu.injEq, D.sc.injEq, V.bl.injEq, V.int.injEq, V.str.injEq, Nat.reduceSub, Nat.reduceAdd, List.cons.injEq, and_true, true_and, exists_and_left, Option.map_some, if_true, if_false, Bool.false_eq_true, exists_eq_right, ex2a, ex2b, ex2c, D.tup.injEq, D.lst.injEq, M.lst.injEq, eq_self, strsL]
        refine comp_map (fun d => match d with
          | .sc (.str s) => DS' (w ++ s)
          | _ => DN') (z.cps.toList.map fun c => .sc (.str (sign c))) [] _ (fun d3 hd3 K3 k3 => ?_) (by rw [List.length_map, List.length_nil]; exact small_sl (by omega)) ?_
        · obtain ⟨c, hc, rfl⟩ := List.mem_map.mp hd3
          simp only [dSet, dRet, dRetN, dIfS, dFor, dIt, dgName, dgNil, dgCons, dgTup, dgLst, dgTxt, dgSet, dVar, dC, dG, dOp, dUn, dCallP, dCons, dNil, dTst, dAnd, dOr, dNot, dAndV, dOrV, dNotV, dIf, dFz, dTup, dLst, dCall, dChain, dSl, dONo, dOSome, dMs, dMi, dAsg, dPar, dDrop, dLc, dLc2, dYes, dRng1, dRng2, dEnum, dZip, dLam, dNewD, dRaise, dNext, dBrk, dCnt, DS.put, DS.wipe, DS.rest, wipeL, restL, val, slD, vals, frz1, put1, out1, pures, dargs, dback, getM, setM, M.frz, start0, par, dEnds, isRes, itemsD, p2i, addP, subP, mulP, divP, modP, powP, DL.ltP, DL.leP, DL.gtP, DL.geP, eqP, inP, isNP, ixP, lenP, isiP, allP, anyP, intP, listP, tupleP, sortedSP, reprP, slP, revP, negP, findP, countP, joinP, appP, insP, tyD, lenD, dMl, lcountP, isBP, dLSet, dLRg, List.getElem?_cons_zero, List.getElem?_cons_succ, List.set_cons_zero, List.set_cons_succ, List.cons_append, List.nil_append, List.replicate_succ, List.replicate_zero, List.length_cons, List.length_nil, Option.some.injEq, exists_eq_left', exists_eq_left, Wv.pu.injEq, D.sc.injEq, V.bl.injEq, V.int.injEq, V.str.injEq, Nat.reduceSub, Nat.reduceAdd, List.cons.injEq, and_true, true_and, exists_and_left, Option.map_some, if_true, if_false, Bool.false_eq_true, exists_eq_right, ex2a, ex2b, ex2c, D.tup.injEq, D.lst.injEq, M.lst.injEq, eq_self]
          have sl1 : (sign c).length = 1 := rfl
          exact ⟨small_sl (by rw [hwl, sl1]; omega), k3 _ rfl⟩
        · simp only [dSet, dRet, dRetN, dIfS, dFor, dIt, dgName, dgNil, dgCons, dgTup, dgLst, dgTxt, dgSet, dVar, dC, dG, dOp, dUn, dCallP, dCons, dNil, dTst, dAnd, dOr, dNot, dAndV, dOrV, dNotV, dIf, dFz, dTup, dLst, dCall, dChain, dSl, dONo, dOSome, dMs, dMi, dAsg, dPar, dDrop, dLc, dLc2, dYes, dRng1, dRng2, dEnum, dZip, dLam, dNewD, dRaise, dNext, dBrk, dCnt, DS.put, DS.wipe, DS.rest, wipeL, restL, val, slD, vals, frz1, put1, out1, pures, dargs, dback, getM, setM, M.frz, start0, par, dEnds, isRes, itemsD, p2i, addP, subP, mulP, divP, modP, powP, DL.ltP, DL.leP, DL.gtP, DL.geP, eqP, inP, isNP, ixP, lenP, isiP, allP, anyP, intP, listP, tupleP, sortedSP, reprP, slP, revP, negP, findP, countP, joinP, appP, insP, tyD, lenD, dMl, lcountP, isBP, dLSet, dLRg, List.getElem?_cons_zero, List.getElem?_cons_succ, List.set_cons_zero, List.set_cons_succ, List.cons_append, List.nil_append, List.replicate_succ, List.replicate_zero, List.length_cons, List.length_nil, Option.some.injEq, exists_eq_left', exists_eq_left, Wv.pu.injEq, D.sc.injEq, V.bl.injEq, V.int.injEq, V.str.injEq, Nat.reduceSub, Nat.reduceAdd, List.cons.injEq, and_true, true_and, exists_and_left, Option.map_some, if_true, if_false, Bool.false_eq_true, exists_eq_right, ex2a, ex2b, ex2c, D.tup.injEq, D.lst.injEq, M.lst.injEq, eq_self, List.length_map, List.length_nil]
          refine ⟨small_sl (by omega), k2 _ ⟨some (.pu (DS' w)), ?_⟩⟩
          rw [grow_list (f := fun w => z.cps.toList.map fun c => w ++ sign c) (allW z.cps.toList j) i hw, strsL, List.map_append, List.map_map, List.map_map]
          rfl
    · obtain ⟨v, rfl⟩ := hI2
      rw [List.length_map, List.take_length]
      simp only [hN1, dSet, dRet, dRetN, dIfS, dFor, dIt, dgName, dgNil, dgCons, dgTup, dgLst, dgTxt, dgSet, dVar, dC, dG, dOp, dUn, dCallP, dCons, dNil, dTst, dAnd, dOr, dNot, dAndV, dOrV, dNotV, dIf, dFz, dTup, dLst, dCall, dChain, dSl, dONo, dOSome, dMs, dMi, dAsg, dPar, dDrop, dLc, dLc2, dYes, dRng1, dRng2, dEnum, dZip, dLam, dNewD, dRaise, dNext, dBrk, dCnt, DS.put, DS.wipe, DS.rest, wipeL, restL, val, slD, vals, frz1, put1, out1, pures, dargs, dback, getM, setM, M.frz, start0, par, dEnds, isRes, itemsD, p2i, addP, subP, mulP, divP, modP, powP, DL.ltP, DL.leP, DL.gtP, DL.geP, eqP, inP, isNP, ixP, lenP, isiP, allP, anyP, intP, listP, tupleP, sortedSP, reprP, slP, revP, negP, findP, countP, joinP, appP, insP, tyD, lenD, dMl, lcountP, isBP, dLSet, dLRg, List.getElem?_cons_zero, List.getElem?_cons_succ, List.set_cons_zero, List.set_cons_succ, List.cons_append, List.nil_append, List.replicate_succ, List.replicate_zero, List.length_cons, List.length_nil, Option.some.injEq, exists_eq_left', exists_eq_left, Wv.pu.injEq, D.sc.injEq, V.bl.injEq, V.int.injEq, V.str.injEq, Nat.reduceSub, Nat.reduceAdd, List.cons.injEq, and_true, true_and, exists_and_left, Option.map_some, if_true, if_false, Bool.false_eq_true, exists_eq_right, ex2a, ex2b, ex2c, D.tup.injEq, D.lst.injEq, M.lst.injEq, eq_self, strsL]
      exact ⟨_, rfl, k _ ⟨_, _, _, rfl⟩⟩
  · obtain ⟨x, y, v, rfl⟩ := hI
    simp only [hN, dSet, dRet, dRetN, dIfS, dFor, dIt, dgName, dgNil, dgCons, dgTup, dgLst, dgTxt, dgSet, dVar, dC, dG, dOp, dUn, dCallP, dCons, dNil, dTst, dAnd, dOr, dNot, dAndV, dOrV, dNotV, dIf, dFz, dTup, dLst, dCall, dChain, dSl, dONo, dOSome, dMs, dMi, dAsg, dPar, dDrop, dLc, dLc2, dYes, dRng1, dRng2, dEnum, dZip, dLam, dNewD, dRaise, dNext, dBrk, dCnt, DS.put, DS.wipe, DS.rest, wipeL, restL, val, slD, vals, frz1, put1, out1, pures, dargs, dback, getM, setM, M.frz, start0, par, dEnds, isRes, itemsD, p2i, addP, subP, mulP, divP, modP, powP, DL.ltP, DL.leP, DL.gtP, DL.geP, eqP, inP, isNP, ixP, lenP, isiP, allP, anyP, intP, listP, tupleP, sortedSP, reprP, slP, revP, negP, findP, countP, joinP, appP, insP, tyD, lenD, dMl, lcountP, isBP, dLSet, dLRg, List.getElem?_cons_zero, List.getElem?_cons_succ, List.set_cons_zero, List.set_cons_succ, List.cons_append, List.nil_append, List.replicate_succ, List.replicate_zero, List.length_cons, List.length_nil, Option.some.injEq, exists_eq_left', exists_eq_left, Wv.pu.injEq, D.sc.injEq, V.bl.injEq, V.int.injEq, V.str.injEq, Nat.reduceSub, Nat.reduceAdd, List.cons.injEq, and_true, true_and, exists_and_left, Option.map_some, if_true, if_false, Bool.false_eq_true, exists_eq_right, ex2a, ex2b, ex2c, D.tup.injEq, D.lst.injEq, M.lst.injEq, eq_self, strsL, rng_len]
    simpa [strsL, isRes] using q
end
end Lw

/-! text RH -/
set_option Elab.async false
set_option linter.all false
set_option maxRecDepth 100000
set_option maxHeartbeats 4000000
namespace Lw
open PySem PySem.Spec PyProof.Rows L2 DL
section
variable {P : Program} {w : World} {base : Heap} {K : PySem.W.Frag} {ws : List Wv} {Q : Wv → List Wv → Prop} {Y : Value → List Wv → Prop} {mg : Str → Option Value}
abbrev B3 : List Nat := [48, 49, 63]
theorem b3_eq : ("01?" : Str).cps.toList = B3 := by decide
def rowOk (r : Nat) (row : Str) : Bool := decide (-1 ≤ ahead "1" row r) && decide (ahead "1" row r ≤ 5) && decide (-1 ≤ ahead "0" row r) && decide (ahead "0" row r ≤ 5)
theorem rows_ok {r : Nat} (h : r ≤ 5) : ∀ x ∈ allW B3 r, rowOk r x = true := by
  have : ∀ r ≤ 5, ∀ x ∈ allW B3 r, rowOk r x = true := by decide +kernel
  exact this r h
theorem ex1 {α : Type} {a : α} {P : α → Prop} : (∃ c, some a = some c ∧ P c) ↔ P a := ⟨fun ⟨c, e, h⟩ => by cases e; exact h, fun h => ⟨a, rfl, h⟩⟩
theorem row_step {f l row k : Str} {r : Int} {acc : List Str} {E : DEnds} {w v : Option Wv} {an : List Wv} {f0 l0 : Nat} (hf : f = sign f0) (hl : l = sign l0) (hr : row.length ≤ 5) (h1 : 1 ≤ r) (h5 : r ≤ 5) (hz : acc.length ≤ 1000)
    (g : ∀ w v, E.nx ⟨[some (.pu (DS' k)), some (.pu (DS' "?")), some (.pu (DI' r)), some (strsL (if goodRow f l r.toNat row then acc ++ [row] else acc)), some (.pu (DS' row)), some (.pu (DS' f)), some (.pu (DS' l)), w, v], an⟩) (a1 : -1 ≤ ahead l row r.toNat) (a2 : ahead l row r.toNat ≤ 5) :
    dSeq
      (dSet 7
        (dIf (dTst (dOp (inP false) (dC (V.str (Str.ofString "?"))) (dVar 4)))
          (dMs findP (dVar 4) (dCons (dC (V.str (Str.ofString "?"))) dNil))
          (dIf (dTst (dOp (inP false) (dVar 6) (dVar 4))) (dMs findP (dVar 4) (dCons (dVar 6) dNil)) (dVar 2))))
      (dSeq
        (dSet 8
          (dIf (dTst (dOp (inP false) (dC (V.str (Str.ofString "?"))) (dVar 4)))
            (dSl slP (dVar 4) (dOSome (dOp addP (dVar 7) (dC (V.int 1)))) dONo)
            (dSl slP (dVar 4) (dOSome (dVar 7)) dONo)))
        (dIfS
          (dAnd (dTst (dOp (eqP false) (dSl slP (dVar 4) dONo (dOSome (dVar 7))) (dOp mulP (dVar 5) (dVar 7))))
            (dTst (dOp (eqP false) (dVar 8) (dOp mulP (dVar 6) (dCallP lenP (dCons (dVar 8) dNil))))))
          (dDrop (dMi appP (dVar 3) (dCons (dFz (dVar 4)) dNil))) dNext)) E
      ⟨[some (.pu (DS' k)), some (.pu (DS' "?")), some (.pu (DI' r)), some (strsL acc), some (.pu (DS' row)), some (.pu (DS' f)), some (.pu (DS' l)), w, v], an⟩ := by
  have lf : f.length = 1 := by rw [hf]; rfl
  have ll : l.length = 1 := by rw [hl]; rfl
  have er : ((r.toNat : Nat) : Int) = r := by omega
  have o1 : one? (Str.ofString "?") = some 63 := rfl
  have o2 : one? l = some l0 := by rw [hl]; rfl
  have hd0 : l.cps.toList.headD 0 = l0 := by rw [hl]; rfl
  have set7 : ∀ G : DS → Prop, G ⟨[some (.pu (DS' k)), some (.pu (DS' "?")), some (.pu (DI' r)), some (strsL acc), some (.pu (DS' row)), some (.pu (DS' f)), some (.pu (DS' l)), some (.pu (DI' (ahead l row r.toNat))), v], an⟩ → dSet 7
        (dIf (dTst (dOp (inP false) (dC (V.str (Str.ofString "?"))) (dVar 4)))
          (dMs findP (dVar 4) (dCons (dC (V.str (Str.ofString "?"))) dNil))
          (dIf (dTst (dOp (inP false) (dVar 6) (dVar 4))) (dMs findP (dVar 4) (dCons (dVar 6) dNil)) (dVar 2))) { E with nx := G }
      ⟨[some (.pu (DS' k)), some (.pu (DS' "?")), some (.pu (DI' r)), some (strsL acc), some (.pu (DS' row)), some (.pu (DS' f)), some (.pu (DS' l)), w, v], an⟩ := fun G hG => by
    unfold ahead hasS at hG
    rw [hd0, er] at hG
    by_cases c1 : 63 ∈ row.cps.toList
    · simp only [decide_eq_true c1, if_true] at hG
      simp only [dSet, dRet, dRetN, dIfS, dFor, dIt, dgName, dgNil, dgCons, dgTup, dgLst, dgTxt, dgSet, dVar, dC, dG, dOp, dUn, dCallP, dCons, dNil, dTst, dAnd, dOr, dNot, dAndV, dOrV, dNotV, dIf, dFz, dTup, dLst, dCall, dChain, dSl, dONo, dOSome, dMs, dMi, dAsg, dPar, dDrop, dLc, dLc2, dYes, dRng1, dRng2, dEnum, dZip, dLam, dNewD, dRaise, dNext, dBrk, dCnt, DS.put, DS.wipe, DS.rest, wipeL, restL, val, slD, vals, frz1, put1, out1, pures, dargs, dback, getM, setM, M.frz, start0, par, dEnds, isRes, itemsD, p2i, addP, subP, mulP, divP, modP, powP, DL.ltP, DL.leP, DL.gtP, DL.geP, eqP, inP, isNP, ixP, lenP, isiP, allP, anyP, intP, listP, tupleP, sortedSP, reprP, slP, revP, negP, findP, countP, joinP, appP, insP, tyD, lenD, dMl, lcountP, isBP, dLSet, dLRg, List.getElem?_cons_zero, List.getElem?_cons_succ, List.set_cons_zero, List.set_cons_succ, List.cons_append, List.nil_append, List.replicate_succ, List.replicate_zero, List.length_cons, List.length_nil, Option.some.injEq, exists_eq_left', exists_eq_left, Wv.pu.injEq, D.sc.injEq, V.bl.injEq, V.int.injEq, V.str.injEq, Nat.reduceSub, Nat.reduceAdd, List.cons.injEq, and_true, true_and, exists_and_left, Option.map_some, if_true, if_false, Bool.false_eq_true, exists_eq_right, ex2a, ex2b, ex2c, D.tup.injEq, D.lst.injEq, M.lst.injEq, eq_self, scal, o1, ex1, decide_eq_true c1, Bool.false_xor, if_true]
      exact ⟨⟨_, rfl⟩, hG⟩
    · by_cases c2 : l0 ∈ row.cps.toList
      · simp only [decide_eq_false c1, decide_eq_true c2, if_true, Bool.false_eq_true, if_false] at hG
        simp only [dSet, dRet, dRetN, dIfS, dFor, dIt, dgName, dgNil, dgCons, dgTup, dgLst, dgTxt, dgSet, dVar, dC, dG, dOp, dUn, dCallP, dCons, dNil, dTst, dAnd, dOr, dNot, dAndV, dOrV, dNotV, dIf, dFz, dTup, dLst, dCall, dChain, dSl, dONo, dOSome, dMs, dMi, dAsg, dPar, dDrop, dLc, dLc2, dYes, dRng1, dRng2, dEnum, dZip, dLam, dNewD, dRaise, dNext, dBrk, dCnt, DS.put, DS.wipe, DS.rest, wipeL, restL, val, slD, vals, frz1, put1, out1, pures, dargs, dback, getM, setM, M.frz, start0, par, dEnds, isRes, itemsD, p2i, addP, subP, mulP, divP, modP, powP, DL.ltP, DL.leP, DL.gtP, DL.geP, eqP, inP, isNP, ixP, lenP, isiP, allP, anyP, intP, listP, tupleP, sortedSP, reprP, slP, revP, negP, findP, countP, joinP, appP, insP, tyD, lenD, dMl, lcountP, isBP, dLSet, dLRg, List.getElem?_cons_zero, List.getElem?_cons_succ, List.set_cons_zero, List.set_cons_succ, List.cons_append, List.nil_append, List.replicate_succ, List.replicate_zero, List.length_cons, List.length_nil, Option.some.injEq, exists_eq_left', exists_eq_left, Wv.pu.injEq, D.sc.injEq, V.bl.injEq, V.int.injEq, V.str.injEq, Nat.reduceSub, Nat.reduceAdd, List.cons.injEq, and_true, true_and, exists_and_left, Option.map_some, if_true, if_false, Bool.false_eq_true, exists_eq_right, ex2a, ex2b, ex2c, D.tup.injEq, D.lst.injEq, M.lst.injEq, eq_self, scal, o1, o2, ex1, decide_eq_false c1, decide_eq_true c2, Bool.false_xor, if_true, Bool.false_eq_true, if_false]
        exact ⟨⟨_, rfl⟩, hG⟩
      · simp only [decide_eq_false c1, decide_eq_false c2, if_true, Bool.false_eq_true, if_false] at hG
        simp only [dSet, dRet, dRetN, dIfS, dFor, dIt, dgName, dgNil, dgCons, dgTup, dgLst, dgTxt, dgSet, dVar, dC, dG, dOp, dUn, dCallP, dCons, dNil, dTst, dAnd, dOr, dNot, dAndV, dOrV, dNotV, dIf, dFz, dTup, dLst, dCall, dChain, dSl, dONo, dOSome, dMs, dMi, dAsg, dPar, dDrop, dLc, dLc2, dYes, dRng1, dRng2, dEnum, dZip, dLam, dNewD, dRaise, dNext, dBrk, dCnt, DS.put, DS.wipe, DS.rest, wipeL, restL, val, slD, vals, frz1, put1, out1, pures, dargs, dback, getM, setM, M.frz, start0, par, dEnds, isRes, itemsD, p2i, addP, subP, mulP, divP, modP, powP, DL.ltP, DL.leP, DL.gtP, DL.geP, eqP, inP, isNP, ixP, lenP, isiP, allP, anyP, intP, listP, tupleP, sortedSP, reprP, slP, revP, negP, findP, countP, joinP, appP, insP, tyD, lenD, dMl, lcountP, isBP, dLSet, dLRg, List.getElem?_cons_zero, List.getElem?_cons_succ, List.set_cons_zero, List.set_cons_succ, List.cons_append, List.nil_append, List.replicate_succ, List.replicate_zero, List.length_cons, List.length_nil, Option.some.injEq, exists_eq_left', exists_eq_left, Wv.pu.injEq, D.sc.injEq, V.bl.injEq, V.int.injEq, V.str.injEq, Nat.reduceSub, Nat.reduceAdd, List.cons.injEq, and_true, true_and, exists_and_left, Option.map_some, if_true, if_false, Bool.false_eq_true, exists_eq_right, ex2a, ex2b, ex2c, D.tup.injEq, D.lst.injEq, M.lst.injEq, eq_self, scal, o1, o2, ex1, decide_eq_false c1, decide_eq_false c2, Bool.false_xor, if_true, Bool.false_eq_true, if_false]
        exact hG
  refine seq_o fun N hN => set7 _ ?_
  subst hN
  refine seq_o fun N hN => ?_
  generalize ha : ahead l row r.toNat = a at *
  have cl : ∀ lo hi, (cutS row lo hi).length ≤ 5 := fun lo hi => Nat.le_trans (cutS_length row lo hi) hr
  have hw : row.length ≤ sizeLine := small_sl (by omega)
  unfold goodRow hasS at g
  simp only [ha] at g
  have fin : ∀ rest : Str, rest.length ≤ 5 → (∀ w v, E.nx ⟨[some (.pu (DS' k)), some (.pu (DS' "?")), some (.pu (DI' r)), some (strsL (if (decide (cutS row none (some a) = repS f a) && decide (rest = repS l rest.length)) = true then acc ++ [row] else acc)), some (.pu (DS' row)), some (.pu (DS' f)), some (.pu (DS' l)), w, v], an⟩) →
      dIfS
          (dAnd (dTst (dOp (eqP false) (dSl slP (dVar 4) dONo (dOSome (dVar 7))) (dOp mulP (dVar 5) (dVar 7))))
            (dTst (dOp (eqP false) (dVar 8) (dOp mulP (dVar 6) (dCallP lenP (dCons (dVar 8) dNil))))))
          (dDrop (dMi appP (dVar 3) (dCons (dFz (dVar 4)) dNil))) dNext E ⟨[some (.pu (DS' k)), some (.pu (DS' "?")), some (.pu (DI' r)), some (strsL acc), some (.pu (DS' row)), some (.pu (DS' f)), some (.pu (DS' l)), some (.pu (DI' a)), some (.pu (DS' rest))], an⟩ := fun rest hrl g => by
    have hrs : rest.length ≤ sizeLine := small_sl (by omega)
    have g := g (some (.pu (DI' a))) (some (.pu (DS' rest)))
    simp only [dSet, dRet, dRetN, dIfS, dFor, dIt, dgName, dgNil, dgCons, dgTup, dgLst, dgTxt, dgSet, dVar, dC, dG, dOp, dUn, dCallP, dCons, dNil, dTst, dAnd, dOr, dNot, dAndV, dOrV, dNotV, dIf, dFz, dTup, dLst, dCall, dChain, dSl, dONo, dOSome, dMs, dMi, dAsg, dPar, dDrop, dLc, dLc2, dYes, dRng1, dRng2, dEnum, dZip, dLam, dNewD, dRaise, dNext, dBrk, dCnt, DS.put, DS.wipe, DS.rest, wipeL, restL, val, slD, vals, frz1, put1, out1, pures, dargs, dback, getM, setM, M.frz, start0, par, dEnds, isRes, itemsD, p2i, addP, subP, mulP, divP, modP, powP, DL.ltP, DL.leP, DL.gtP, DL.geP, eqP, inP, isNP, ixP, lenP, isiP, allP, anyP, intP, listP, tupleP, sortedSP, reprP, slP, revP, negP, findP, countP, joinP, appP, insP, tyD, lenD, dMl, lcountP, isBP, dLSet, dLRg, List.getElem?_cons_zero, List.getElem?_cons_succ, List.set_cons_zero, List.set_cons_succ, List.cons_append, List.nil_append, List.replicate_succ, List.replicate_zero, List.length_cons, List.length_nil, Option.some.injEq, exists_eq_left', exists_eq_left, Wv.pu.injEq, D.sc.injEq, V.bl.injEq, V.int.injEq, V.str.injEq, Nat.reduceSub, Nat.reduceAdd, List.cons.injEq, and_true, true_and, exists_and_left, Option.map_some, if_true, if_false, Bool.false_eq_true, exists_eq_right, ex2a, ex2b, ex2c, D.tup.injEq, D.lst.injEq, M.lst.injEq, eq_self, scal, lf, ll, strsL, if_pos hrs, ex1]
    refine ⟨hw, ⟨by omega, by omega, by omega⟩, ?_⟩
    by_cases c1 : cutS row none (some a) = repS f a
    · have d2 : decide (cutS row none (some a) = repS f a) = true := decide_eq_true c1
      by_cases c2 : rest = repS l rest.length
      · have d4 : decide (rest = repS l rest.length) = true := decide_eq_true c2
        simp only [d2, d4, Bool.and_self, if_true, strsL, List.map_append, List.map_cons, List.map_nil] at g
        simp only [d2, d4, if_true, Bool.false_xor, List.length_map]
        exact ⟨⟨by omega, by omega, by omega⟩, ⟨_, rfl⟩, Nat.lt_of_le_of_lt hz (show 1000 < sizeLine by decide), g⟩
      · have d4 : decide (rest = repS l rest.length) = false := decide_eq_false c2
        simp only [d2, d4, Bool.and_false, Bool.false_eq_true, if_false, strsL] at g
        simp only [d2, d4, Bool.false_eq_true, if_false, if_true, Bool.false_xor]
        exact ⟨⟨by omega, by omega, by omega⟩, g⟩
    · have d2 : decide (cutS row none (some a) = repS f a) = false := decide_eq_false c1
      simp only [d2, Bool.false_and, Bool.false_eq_true, if_false, strsL] at g
      simp only [d2, Bool.false_eq_true, if_false, Bool.false_xor]
      exact g
  by_cases c1 : 63 ∈ row.cps.toList
  · simp only [decide_eq_true c1, if_true] at g
    simp only [dSet, dRet, dRetN, dIfS, dFor, dIt, dgName, dgNil, dgCons, dgTup, dgLst, dgTxt, dgSet, dVar, dC, dG, dOp, dUn, dCallP, dCons, dNil, dTst, dAnd, dOr, dNot, dAndV, dOrV, dNotV, dIf, dFz, dTup, dLst, dCall, dChain, dSl, dONo, dOSome, dMs, dMi, dAsg, dPar, dDrop, dLc, dLc2, dYes, dRng1, dRng2, dEnum, dZip, dLam, dNewD, dRaise, dNext, dBrk, dCnt, DS.put, DS.wipe, DS.rest, wipeL, restL, val, slD, vals, frz1, put1, out1, pures, dargs, dback, getM, setM, M.frz, start0, par, dEnds, isRes, itemsD, p2i, addP, subP, mulP, divP, modP, powP, DL.ltP, DL.leP, DL.gtP, DL.geP, eqP, inP, isNP, ixP, lenP, isiP, allP, anyP, intP, listP, tupleP, sortedSP, reprP, slP, revP, negP, findP, countP, joinP, appP, insP, tyD, lenD, dMl, lcountP, isBP, dLSet, dLRg, List.getElem?_cons_zero, List.getElem?_cons_succ, List.set_cons_zero, List.set_cons_succ, List.cons_append, List.nil_append, List.replicate_succ, List.replicate_zero, List.length_cons, List.length_nil, Option.some.injEq, exists_eq_left', exists_eq_left, Wv.pu.injEq, D.sc.injEq, V.bl.injEq, V.int.injEq, V.str.injEq, Nat.reduceSub, Nat.reduceAdd, List.cons.injEq, and_true, true_and, exists_and_left, Option.map_some, if_true, if_false, Bool.false_eq_true, exists_eq_right, ex2a, ex2b, ex2c, D.tup.injEq, D.lst.injEq, M.lst.injEq, eq_self, scal, o1, ex1, decide_eq_true c1, Bool.false_xor, if_true]
    exact ⟨hw, by rw [hN]; exact fin _ (cl _ _) g⟩
  · simp only [decide_eq_false c1, Bool.false_eq_true, if_false] at g
    simp only [dSet, dRet, dRetN, dIfS, dFor, dIt, dgName, dgNil, dgCons, dgTup, dgLst, dgTxt, dgSet, dVar, dC, dG, dOp, dUn, dCallP, dCons, dNil, dTst, dAnd, dOr, dNot, dAndV, dOrV, dNotV, dIf, dFz, dTup, dLst, dCall, dChain, dSl, dONo, dOSome, dMs, dMi, dAsg, dPar, dDrop, dLc, dLc2, dYes, dRng1, dRng2, dEnum, dZip, dLam, dNewD, dRaise, dNext, dBrk, dCnt, DS.put, DS.wipe, DS.rest, wipeL, restL, val, slD, vals, frz1, put1, out1, pures, dargs, dback, getM, setM, M.frz, start0, par, dEnds, isRes, itemsD, p2i, addP, subP, mulP, divP, modP, powP, DL.ltP, DL.leP, DL.gtP, DL.geP, eqP, inP, isNP, ixP, lenP, isiP, allP, anyP, intP, listP, tupleP, sortedSP, reprP, slP, revP, negP, findP, countP, joinP, appP, insP, tyD, lenD, dMl, lcountP, isBP, dLSet, dLRg, List.getElem?_cons_zero, List.getElem?_cons_succ, List.set_cons_zero, List.set_cons_succ, List.cons_append, List.nil_append, List.replicate_succ, List.replicate_zero, List.length_cons, List.length_nil, Option.some.injEq, exists_eq_left', exists_eq_left, Wv.pu.injEq, D.sc.injEq, V.bl.injEq, V.int.injEq, V.str.injEq, Nat.reduceSub, Nat.reduceAdd, List.cons.injEq, and_true, true_and, exists_and_left, Option.map_some, if_true, if_false, Bool.false_eq_true, exists_eq_right, ex2a, ex2b, ex2c, D.tup.injEq, D.lst.injEq, M.lst.injEq, eq_self, scal, o1, ex1, decide_eq_false c1, Bool.false_xor, Bool.false_eq_true, if_false]
    exact ⟨hw, by rw [hN]; exact fin _ (cl _ _) g⟩
theorem r__law_reads (h : sp__law_reads K ws Q Y) : t__law_reads K (dEnds Q Y) (start0 N__law_reads ws) := by
  obtain ⟨ds, e, hl, ⟨k, b, r, rfl, hk, hb, h1, h8⟩, q⟩ := h
  have := pures_len e
  subst this
  have bl := isBit_len hb
  have er : ((r.toNat : Nat) : Int) = r := by omega
  simp only [List.map_cons, List.map_nil, List.getD_cons_zero, List.getD_cons_succ, str, nat, DS', DI'] at q ⊢
  unfold t__law_reads
  refine seq_o fun N hN => ?_
  simp only [N__law_reads, dSet, dRet, dRetN, dIfS, dFor, dIt, dgName, dgNil, dgCons, dgTup, dgLst, dgTxt, dgSet, dVar, dC, dG, dOp, dUn, dCallP, dCons, dNil, dTst, dAnd, dOr, dNot, dAndV, dOrV, dNotV, dIf, dFz, dTup, dLst, dCall, dChain, dSl, dONo, dOSome, dMs, dMi, dAsg, dPar, dDrop, dLc, dLc2, dYes, dRng1, dRng2, dEnum, dZip, dLam, dNewD, dRaise, dNext, dBrk, dCnt, DS.put, DS.wipe, DS.rest, wipeL, restL, val, slD, vals, frz1, put1, out1, pures, dargs, dback, getM, setM, M.frz, start0, par, dEnds, isRes, itemsD, p2i, addP, subP, mulP, divP, modP, powP, DL.ltP, DL.leP, DL.gtP, DL.geP, eqP, inP, isNP, ixP, lenP, isiP, allP, anyP, intP, listP, tupleP, sortedSP, reprP, slP, revP, negP, findP, countP, joinP, appP, insP, tyD, lenD, dMl, lcountP, isBP, dLSet, dLRg, List.getElem?_cons_zero, List.getElem?_cons_succ, List.set_cons_zero, List.set_cons_succ, List.cons_append, List.nil_append, List.replicate_succ, List.replicate_zero, List.length_cons, List.length_nil, Option.some.injEq, exists_eq_left', exists_eq_left, Wv.pu.injEq, D.sc.injEq, V.bl.injEq, V.int.injEq, V.str.injEq, Nat.reduceSub, Nat.reduceAdd, List.cons.injEq, and_true, true_and, exists_and_left, Option.map_some, if_true, if_false, Bool.false_eq_true, exists_eq_right, ex2a, ex2b, ex2c, D.tup.injEq, D.lst.injEq, M.lst.injEq, eq_self, dec_str, scal]
  have fine : (b ≠ "?" ∨ k = "plain") → ((-2 ^ 63 ≤ r ∧ r < 2 ^ 63 ∧ b.length * r.toNat ≤ 16777216) ∧ 1 ≤ sizeLine ∧ Q (Wv.ow (M.lst [D.sc (V.str (repS b r))])) [Wv.pu (D.sc (V.str k)), Wv.pu (D.sc (V.str b)), Wv.pu (D.sc (V.int r))]) := fun h => by
    have e0 : lawReads k b r.toNat = [repS b (r.toNat : Nat)] := by
      unfold lawReads
      rw [if_pos (by rcases h with h | h <;> simp [h])]
    rw [e0] at q
    simp only [strsL, List.map_cons, List.map_nil, er] at q
    exact ⟨⟨by omega, by omega, by rw [bl]; omega⟩, by decide, q.2⟩
  by_cases c0 : b ≠ "?" ∨ k = "plain"
  · rcases c0 with c1 | c2
    · simp [c1] at fine ⊢
      exact fine
    · by_cases c1 : b = "?"
      · simp [c1, c2] at fine ⊢
        exact fine
      · simp [c1] at fine ⊢
        exact fine
  · have c1 : b = "?" := Classical.byContradiction fun z => c0 (.inl z)
    have c2 : ¬ k = "plain" := fun z => c0 (.inr z)
    have ek : k = "low" ∨ k = "high" := by
      simp only [isK, Bool.or_eq_true, beq_iff_eq] at hk
      exact hk.resolve_left c2
    clear fine
    simp [c1, c2]
    subst c1
    subst hN
    refine seq_o fun N hN => ?_
    simp only [dSet, dRet, dRetN, dIfS, dFor, dIt, dgName, dgNil, dgCons, dgTup, dgLst, dgTxt, dgSet, dVar, dC, dG, dOp, dUn, dCallP, dCons, dNil, dTst, dAnd, dOr, dNot, dAndV, dOrV, dNotV, dIf, dFz, dTup, dLst, dCall, dChain, dSl, dONo, dOSome, dMs, dMi, dAsg, dPar, dDrop, dLc, dLc2, dYes, dRng1, dRng2, dEnum, dZip, dLam, dNewD, dRaise, dNext, dBrk, dCnt, DS.put, DS.wipe, DS.rest, wipeL, restL, val, slD, vals, frz1, put1, out1, pures, dargs, dback, getM, setM, M.frz, start0, par, dEnds, isRes, itemsD, p2i, addP, subP, mulP, divP, modP, powP, DL.ltP, DL.leP, DL.gtP, DL.geP, eqP, inP, isNP, ixP, lenP, isiP, allP, anyP, intP, listP, tupleP, sortedSP, reprP, slP, revP, negP, findP, countP, joinP, appP, insP, tyD, lenD, dMl, lcountP, isBP, dLSet, dLRg, List.getElem?_cons_zero, List.getElem?_cons_succ, List.set_cons_zero, List.set_cons_succ, List.cons_append, List.nil_append, List.replicate_succ, List.replicate_zero, List.length_cons, List.length_nil, Option.some.injEq, exists_eq_left', exists_eq_left, Wv.pu.injEq, D.sc.injEq, V.bl.injEq, V.int.injEq, V.str.injEq, Nat.reduceSub, Nat.reduceAdd, List.cons.injEq, and_true, true_and, exists_and_left, Option.map_some, if_true, if_false, Bool.false_eq_true, exists_eq_right, ex2a, ex2b, ex2c, D.tup.injEq, D.lst.injEq, M.lst.injEq, eq_self]
    refine ⟨by decide, ?_⟩
    subst hN
    refine seq_o fun N hN => ?_
    simp only [dSet, dRet, dRetN, dIfS, dFor, dIt, dgName, dgNil, dgCons, dgTup, dgLst, dgTxt, dgSet, dVar, dC, dG, dOp, dUn, dCallP, dCons, dNil, dTst, dAnd, dOr, dNot, dAndV, dOrV, dNotV, dIf, dFz, dTup, dLst, dCall, dChain, dSl, dONo, dOSome, dMs, dMi, dAsg, dPar, dDrop, dLc, dLc2, dYes, dRng1, dRng2, dEnum, dZip, dLam, dNewD, dRaise, dNext, dBrk, dCnt, DS.put, DS.wipe, DS.rest, wipeL, restL, val, slD, vals, frz1, put1, out1, pures, dargs, dback, getM, setM, M.frz, start0, par, dEnds, isRes, itemsD, p2i, addP, subP, mulP, divP, modP, powP, DL.ltP, DL.leP, DL.gtP, DL.geP, eqP, inP, isNP, ixP, lenP, isiP, allP, anyP, intP, listP, tupleP, sortedSP, reprP, slP, revP, negP, findP, countP, joinP, appP, insP, tyD, lenD, dMl, lcountP, isBP, dLSet, dLRg, List.getElem?_cons_zero, List.getElem?_cons_succ, List.set_cons_zero, List.set_cons_succ, List.cons_append, List.nil_append, List.replicate_succ, List.replicate_zero, List.length_cons, List.length_nil, Option.some.injEq, exists_eq_left', exists_eq_left, Wv.pu.injEq, D.sc.injEq, V.bl.injEq, V.int.injEq, V.str.injEq, Nat.reduceSub, Nat.reduceAdd, List.cons.injEq, and_true, true_and, exists_and_left, Option.map_some, if_true, if_false, Bool.false_eq_true, exists_eq_right, ex2a, ex2b, ex2c, D.tup.injEq, D.lst.injEq, M.lst.injEq, eq_self]
    refine call_ok (ds := [DI' r, DS' "01?"]) rfl rfl ⟨r.toNat, "01?", by rw [er], by omega, by decide⟩ ?_
    simp only [dSet, dRet, dRetN, dIfS, dFor, dIt, dgName, dgNil, dgCons, dgTup, dgLst, dgTxt, dgSet, dVar, dC, dG, dOp, dUn, dCallP, dCons, dNil, dTst, dAnd, dOr, dNot, dAndV, dOrV, dNotV, dIf, dFz, dTup, dLst, dCall, dChain, dSl, dONo, dOSome, dMs, dMi, dAsg, dPar, dDrop, dLc, dLc2, dYes, dRng1, dRng2, dEnum, dZip, dLam, dNewD, dRaise, dNext, dBrk, dCnt, DS.put, DS.wipe, DS.rest, wipeL, restL, val, slD, vals, frz1, put1, out1, pures, dargs, dback, getM, setM, M.frz, start0, par, dEnds, isRes, itemsD, p2i, addP, subP, mulP, divP, modP, powP, DL.ltP, DL.leP, DL.gtP, DL.geP, eqP, inP, isNP, ixP, lenP, isiP, allP, anyP, intP, listP, tupleP, sortedSP, reprP, slP, revP, negP, findP, countP, joinP, appP, insP, tyD, lenD, dMl, lcountP, isBP, dLSet, dLRg, List.getElem?_cons_zero, List.getElem?_cons_succ, List.set_cons_zero, List.set_cons_succ, List.cons_append, List.nil_append, List.replicate_succ, List.replicate_zero, List.length_cons, List.length_nil, Option.some.injEq, exists_eq_left', exists_eq_left, Wv.pu.injEq, D.sc.injEq, V.bl.injEq, V.int.injEq, V.str.injEq, Nat.reduceSub, Nat.reduceAdd, List.cons.injEq, and_true, true_and, exists_and_left, Option.map_some, if_true, if_false, Bool.false_eq_true, exists_eq_right, ex2a, ex2b, ex2c, D.tup.injEq, D.lst.injEq, M.lst.injEq, eq_self, strsL, List.getD_cons_zero, List.getD_cons_succ, str, nat, b3_eq]
    rw [hN]
    refine for_i (fun j δ => ∃ x y z w v, δ = ⟨[some (.pu (.sc (.str k))), some (.pu (.sc (.str "?"))), some (.pu (.sc (.int r))), some (strsL (((allW B3 r.toNat).take j).filter (if k == "low" then goodRow "0" "1" r.toNat else goodRow "1" "0" r.toNat))), x, y, z, w, v], [.pu (.sc (.str k)), .pu (.sc (.str "?")), .pu (.sc (.int r))]⟩) ⟨none, none, none, none, none, rfl⟩ (fun j d δ K' hd hI k' => ?_) (fun δ hI => ?_)
    · obtain ⟨x, y, z, w, v, rfl⟩ := hI
      rw [List.getElem?_map] at hd
      cases hp : (allW B3 r.toNat)[j]? with
      | none => rw [hp] at hd; cases hd
      | some row =>
        rw [hp] at hd
        cases hd
        simp only [dSet, dRet, dRetN, dIfS, dFor, dIt, dgName, dgNil, dgCons, dgTup, dgLst, dgTxt, dgSet, dVar, dC, dG, dOp, dUn, dCallP, dCons, dNil, dTst, dAnd, dOr, dNot, dAndV, dOrV, dNotV, dIf, dFz, dTup, dLst, dCall, dChain, dSl, dONo, dOSome, dMs, dMi, dAsg, dPar, dDrop, dLc, dLc2, dYes, dRng1, dRng2, dEnum, dZip, dLam, dNewD, dRaise, dNext, dBrk, dCnt, DS.put, DS.wipe, DS.rest, wipeL, restL, val, slD, vals, frz1, put1, out1, pures, dargs, dback, getM, setM, M.frz, start0, par, dEnds, isRes, itemsD, p2i, addP, subP, mulP, divP, modP, powP, DL.ltP, DL.leP, DL.gtP, DL.geP, eqP, inP, isNP, ixP, lenP, isiP, allP, anyP, intP, listP, tupleP, sortedSP, reprP, slP, revP, negP, findP, countP, joinP, appP, insP, tyD, lenD, dMl, lcountP, isBP, dLSet, dLRg, List.getElem?_cons_zero, List.getElem?_cons_succ, List.set_cons_zero, List.set_cons_succ, List.cons_append, List.nil_append, List.replicate_succ, List.replicate_zero, List.length_cons, List.length_nil, Option.some.injEq, exists_eq_left', exists_eq_left, Wv.pu.injEq, D.sc.injEq, V.bl.injEq, V.int.injEq, V.str.injEq, Nat.reduceSub, Nat.reduceAdd, List.cons.injEq, and_true, true_and, exists_and_left, Option.map_some, if_true, if_false, Bool.false_eq_true, exists_eq_right, ex2a, ex2b, ex2c, D.tup.injEq, D.lst.injEq, M.lst.injEq, eq_self]
        refine seq_o fun N1 hN1 => ?_
        unfold dAsg
        have hrl : row.length ≤ 5 := by rw [(allW_bound r.toNat).2 row (List.mem_of_getElem? hp)]; omega
        have hok := rows_ok (show r.toNat ≤ 5 by omega) row (List.mem_of_getElem? hp)
        simp only [rowOk, Bool.and_eq_true, decide_eq_true_eq] at hok
        obtain ⟨⟨⟨o1, o2⟩, o3⟩, o4⟩ := hok
        have hac : ∀ p : Str → Bool, (((allW B3 r.toNat).take j).filter p).length ≤ 1000 := fun p => by
          refine Nat.le_trans (List.length_filter_le _ _) (Nat.le_trans (List.length_take_le' _ _) ?_)
          rw [(allW_bound r.toNat).1]
          exact Nat.le_trans (Nat.pow_le_pow_right (by decide) (show r.toNat ≤ 5 by omega)) (by decide)
        have hst : ∀ p : Str → Bool, ((allW B3 r.toNat).take (j + 1)).filter p = if p row then ((allW B3 r.toNat).take j).filter p ++ [row] else ((allW B3 r.toNat).take j).filter p := fun p => by
          rw [List.take_succ, hp, List.filter_append]
          show _ ++ [row].filter p = _
          cases h : p row with
          | true => simp [List.filter, h]
          | false => simp [List.filter, h]
        rcases ek with rfl | rfl
        · simp [dSet, dRet, dRetN, dIfS, dFor, dIt, dgName, dgNil, dgCons, dgTup, dgLst, dgTxt, dgSet, dVar, dC, dG, dOp, dUn, dCallP, dCons, dNil, dTst, dAnd, dOr, dNot, dAndV, dOrV, dNotV, dIf, dFz, dTup, dLst, dCall, dChain, dSl, dONo, dOSome, dMs, dMi, dAsg, dPar, dDrop, dLc, dLc2, dYes, dRng1, dRng2, dEnum, dZip, dLam, dNewD, dRaise, dNext, dBrk, dCnt, DS.put, DS.wipe, DS.rest, wipeL, restL, val, slD, vals, frz1, put1, out1, pures, dargs, dback, getM, setM, M.frz, start0, par, dEnds, isRes, itemsD, p2i, addP, subP, mulP, divP, modP, powP, DL.ltP, DL.leP, DL.gtP, DL.geP, eqP, inP, isNP, ixP, lenP, isiP, allP, anyP, intP, listP, tupleP, sortedSP, reprP, slP, revP, negP, findP, countP, joinP, appP, insP, tyD, lenD, dMl, lcountP, isBP, dLSet, dLRg, List.getElem?_cons_zero, List.getElem?_cons_succ, List.set_cons_zero, List.set_cons_succ, List.cons_append, List.nil_append, List.replicate_succ, List.replicate_zero, List.length_cons, List.length_nil, Option.some.injEq, exists_eq_left', exists_eq_left, Wv.pu.injEq, D.sc.injEq, V.bl.injEq, V.int.injEq, V.str.injEq, Nat.reduceSub, Nat.reduceAdd, List.cons.injEq, and_true, true_and, exists_and_left, Option.map_some, if_true, if_false, Bool.false_eq_true, exists_eq_right, ex2a, ex2b, ex2c, D.tup.injEq, D.lst.injEq, M.lst.injEq, eq_self, scal]
          refine ⟨by decide, _, _, ⟨rfl, rfl⟩, rfl, ?_⟩
          rw [hN1]
          refine row_step (f0 := 48) (l0 := 49) rfl rfl hrl h1 h8 (hac _) (fun w v => ?_) o1 o2
          refine k' _ ⟨some (.pu (DS' row)), some (.pu (DS' "0")), some (.pu (DS' "1")), w, v, ?_⟩
          rw [hst]
          rfl
        · simp [dSet, dRet, dRetN, dIfS, dFor, dIt, dgName, dgNil, dgCons, dgTup, dgLst, dgTxt, dgSet, dVar, dC, dG, dOp, dUn, dCallP, dCons, dNil, dTst, dAnd, dOr, dNot, dAndV, dOrV, dNotV, dIf, dFz, dTup, dLst, dCall, dChain, dSl, dONo, dOSome, dMs, dMi, dAsg, dPar, dDrop, dLc, dLc2, dYes, dRng1, dRng2, dEnum, dZip, dLam, dNewD, dRaise, dNext, dBrk, dCnt, DS.put, DS.wipe, DS.rest, wipeL, restL, val, slD, vals, frz1, put1, out1, pures, dargs, dback, getM, setM, M.frz, start0, par, dEnds, isRes, itemsD, p2i, addP, subP, mulP, divP, modP, powP, DL.ltP, DL.leP, DL.gtP, DL.geP, eqP, inP, isNP, ixP, lenP, isiP, allP, anyP, intP, listP, tupleP, sortedSP, reprP, slP, revP, negP, findP, countP, joinP, appP, insP, tyD, lenD, dMl, lcountP, isBP, dLSet, dLRg, List.getElem?_cons_zero, List.getElem?_cons_succ, List.set_cons_zero, List.set_cons_succ, List.cons_append, List.nil_append, List.replicate_succ, List.replicate_zero, List.length_cons, List.length_nil, Option.some.injEq, exists_eq_left', exists_eq_left, Wv.pu.injEq, D.sc.injEq, V.bl.injEq, V.int.injEq, V.str.injEq, Nat.reduceSub, Nat.reduceAdd, List.cons.injEq, and_true, true_and, exists_and_left, Option.map_some, if_true, if_false, Bool.false_eq_true, exists_eq_right, ex2a, ex2b, ex2c, D.tup.injEq, D.lst.injEq, M.lst.injEq, eq_self, scal, show ¬ (Str.ofString "high") = Str.ofString "low" by decide]
          refine ⟨by decide, _, _, ⟨rfl, rfl⟩, rfl, ?_⟩
          rw [hN1]
          refine row_step (f0 := 49) (l0 := 48) rfl rfl hrl h1 h8 (hac _) (fun w v => ?_) o3 o4
          refine k' _ ⟨some (.pu (DS' row)), some (.pu (DS' "1")), some (.pu (DS' "0")), w, v, ?_⟩
          rw [hst]
          rfl
    · obtain ⟨x, y, z, w, v, rfl⟩ := hI
      have c3 : ((Str.ofString "?" != Str.ofString "?") || k == Str.ofString "plain") = false := by
        simp [c2]
      have q := q.2
      unfold lawReads at q
      rw [c3] at q
      simp only [Bool.false_eq_true, if_false, b3_eq] at q
      simp only [dSet, dRet, dRetN, dIfS, dFor, dIt, dgName, dgNil, dgCons, dgTup, dgLst, dgTxt, dgSet, dVar, dC, dG, dOp, dUn, dCallP, dCons, dNil, dTst, dAnd, dOr, dNot, dAndV, dOrV, dNotV, dIf, dFz, dTup, dLst, dCall, dChain, dSl, dONo, dOSome, dMs, dMi, dAsg, dPar, dDrop, dLc, dLc2, dYes, dRng1, dRng2, dEnum, dZip, dLam, dNewD, dRaise, dNext, dBrk, dCnt, DS.put, DS.wipe, DS.rest, wipeL, restL, val, slD, vals, frz1, put1, out1, pures, dargs, dback, getM, setM, M.frz, start0, par, dEnds, isRes, itemsD, p2i, addP, subP, mulP, divP, modP, powP, DL.ltP, DL.leP, DL.gtP, DL.geP, eqP, inP, isNP, ixP, lenP, isiP, allP, anyP, intP, listP, tupleP, sortedSP, reprP, slP, revP, negP, findP, countP, joinP, appP, insP, tyD, lenD, dMl, lcountP, isBP, dLSet, dLRg, List.getElem?_cons_zero, List.getElem?_cons_succ, List.set_cons_zero, List.set_cons_succ, List.cons_append, List.nil_append, List.replicate_succ, List.replicate_zero, List.length_cons, List.length_nil, Option.some.injEq, exists_eq_left', exists_eq_left, Wv.pu.injEq, D.sc.injEq, V.bl.injEq, V.int.injEq, V.str.injEq, Nat.reduceSub, Nat.reduceAdd, List.cons.injEq, and_true, true_and, exists_and_left, Option.map_some, if_true, if_false, Bool.false_eq_true, exists_eq_right, ex2a, ex2b, ex2c, D.tup.injEq, D.lst.injEq, M.lst.injEq, eq_self, strsL, List.length_map, List.take_length]
      exact q
end
end Lw

/-! text RI -/
set_option Elab.async false
set_option linter.all false
set_option maxRecDepth 100000
set_option maxHeartbeats 4000000
namespace Lw
open PySem PySem.Spec PyProof.Rows L2 DL
section
variable {P : Program} {w : World} {base : Heap} {K : PySem.W.Frag} {ws : List Wv} {Q : Wv → List Wv → Prop} {Y : Value → List Wv → Prop} {mg : Str → Option Value}
theorem reads_eq {k b : Str} {r : Nat} (hk : isK k = true) (h1 : 1 ≤ r) (h5 : r ≤ 5) : lawReads k b r = rawReads k b r := by
  by_cases c : (b != "?" || k == "plain") = true
  · unfold lawReads rawReads
    rw [if_pos c, if_pos c]
  · have c0 : (b != "?" || k == "plain") = false := by simpa using c
    have c1 : b = "?" := by simp at c0; exact c0.1
    have c2 : ¬ k = "plain" := by simp at c0; exact c0.2
    have ek : k = "low" ∨ k = "high" := by
      simp only [isK, Bool.or_eq_true, beq_iff_eq] at hk
      exact hk.resolve_left c2
    have all : ∀ r ≤ 5, 1 ≤ r → lawReads "low" "?" r = rawReads "low" "?" r ∧ lawReads "high" "?" r = rawReads "high" "?" r := by decide +kernel
    subst c1
    rcases ek with rfl | rfl
    · exact (all r h5 h1).1
    · exact (all r h5 h1).2
theorem rowsF_congr {R S : Str → Str → List Str} : ∀ {ps : List (Str × Nat)}, (∀ p ∈ ps, R p.1 (sign p.2) = S p.1 (sign p.2)) → rowsF R ps = rowsF S ps := by
  intro ps h
  unfold rowsF
  suffices ∀ acc : List Str, ps.foldl (fun (found : List Str) (p : Str × Nat) => found.flatMap fun start => (R p.1 (sign p.2)).map (start ++ ·)) acc = ps.foldl (fun (found : List Str) (p : Str × Nat) => found.flatMap fun start => (S p.1 (sign p.2)).map (start ++ ·)) acc from this _
  induction ps with
  | nil => intro acc; rfl
  | cons p ps ih =>
    intro acc
    rw [List.foldl_cons, List.foldl_cons, h p (List.mem_cons_self ..)]
    exact ih (fun q hq => h q (List.mem_cons_of_mem _ hq)) _
theorem rows_eq {ks : List Str} {cs : List Nat} {r : Nat} (hk : ∀ k ∈ ks, isK k = true) (h1 : 1 ≤ r) (h5 : r ≤ 5) : lawRows ks r cs = rawRows ks r cs :=
  rowsF_congr (R := fun k b => lawReads k b r) (S := fun k b => rawReads k b r) fun p hp => reads_eq (hk _ (List.of_mem_zip hp).1) h1 h5
theorem grow_map {α : Type} {f : α → List Str} (xs : List α) (j : Nat) {x : α} (h : xs[j]? = some x) : (xs.take (j + 1)).flatMap f = (xs.take j).flatMap f ++ f x := by
  rw [List.take_succ, h, List.flatMap_append]
  simp
theorem r__law_rows (h : sp__law_rows K ws Q Y) : t__law_rows K (dEnds Q Y) (start0 N__law_rows ws) := by
  obtain ⟨ds, e, hl, ⟨ks, r, z, rfl, hk, h3, hz, hb, h1, h8⟩, q⟩ := h
  have := pures_len e
  subst this
  have er : ((r.toNat : Nat) : Int) = r := by omega
  have hcl : ks.length = z.cps.toList.length := by rw [hz]; simp [Str.length]
  simp only [List.map_cons, List.map_nil, List.getD_cons_zero, List.getD_cons_succ, str, nat, dstrs, DS', DI'] at q ⊢
  have eks : (ks.map fun k => D.sc (.str k)).map str = ks := by rw [List.map_map]; simp [Function.comp_def, str]
  rw [eks] at q
  unfold t__law_rows
  refine seq_o fun N hN => ?_
  simp only [N__law_rows, dSet, dRet, dRetN, dIfS, dFor, dIt, dgName, dgNil, dgCons, dgTup, dgLst, dgTxt, dgSet, dVar, dC, dG, dOp, dUn, dCallP, dCons, dNil, dTst, dAnd, dOr, dNot, dAndV, dOrV, dNotV, dIf, dFz, dTup, dLst, dCall, dChain, dSl, dONo, dOSome, dMs, dMi, dAsg, dPar, dDrop, dLc, dLc2, dYes, dRng1, dRng2, dEnum, dZip, dLam, dNewD, dRaise, dNext, dBrk, dCnt, DS.put, DS.wipe, DS.rest, wipeL, restL, val, slD, vals, frz1, put1, out1, pures, dargs, dback, getM, setM, M.frz, start0, par, dEnds, isRes, itemsD, p2i, addP, subP, mulP, divP, modP, powP, DL.ltP, DL.leP, DL.gtP, DL.geP, eqP, inP, isNP, ixP, lenP, isiP, allP, anyP, intP, listP, tupleP, sortedSP, reprP, slP, revP, negP, findP, countP, joinP, appP, insP, tyD, lenD, dMl, lcountP, isBP, dLSet, dLRg, List.getElem?_cons_zero, List.getElem?_cons_succ, List.set_cons_zero, List.set_cons_succ, List.cons_append, List.nil_append, List.replicate_succ, List.replicate_zero, List.length_cons, List.length_nil, Option.some.injEq, exists_eq_left', exists_eq_left, Wv.pu.injEq, D.sc.injEq, V.bl.injEq, V.int.injEq, V.str.injEq, Nat.reduceSub, Nat.reduceAdd, List.cons.injEq, and_true, true_and, exists_and_left, Option.map_some, if_true, if_false, Bool.false_eq_true, exists_eq_right, ex2a, ex2b, ex2c, D.tup.injEq, D.lst.injEq, M.lst.injEq, eq_self]
  refine ⟨by decide, ?_⟩
  subst hN
  refine seq_o fun N hN => ?_
  simp only [dSet, dRet, dRetN, dIfS, dFor, dIt, dgName, dgNil, dgCons, dgTup, dgLst, dgTxt, dgSet, dVar, dC, dG, dOp, dUn, dCallP, dCons, dNil, dTst, dAnd, dOr, dNot, dAndV, dOrV, dNotV, dIf, dFz, dTup, dLst, dCall, dChain, dSl, dONo, dOSome, dMs, dMi, dAsg, dPar, dDrop, dLc, dLc2, dYes, dRng1, dRng2, dEnum, dZip, dLam, dNewD, dRaise, dNext, dBrk, dCnt, DS.put, DS.wipe, DS.rest, wipeL, restL, val, slD, vals, frz1, put1, out1, pures, dargs, dback, getM, setM, M.frz, start0, par, dEnds, isRes, itemsD, p2i, addP, subP, mulP, divP, modP, powP, DL.ltP, DL.leP, DL.gtP, DL.geP, eqP, inP, isNP, ixP, lenP, isiP, allP, anyP, intP, listP, tupleP, sortedSP, reprP, slP, revP, negP, findP, countP, joinP, appP, insP, tyD, lenD, dMl, lcountP, isBP, dLSet, dLRg, List.getElem?_cons_zero, List.getElem?_cons_succ, List.set_cons_zero, List.set_cons_succ, List.cons_append, List.nil_append, List.replicate_succ, List.replicate_zero, List.length_cons, List.length_nil, Option.some.injEq, exists_eq_left', exists_eq_left, Wv.pu.injEq, D.sc.injEq, V.bl.injEq, V.int.injEq, V.str.injEq, Nat.reduceSub, Nat.reduceAdd, List.cons.injEq, and_true, true_and, exists_and_left, Option.map_some, if_true, if_false, Bool.false_eq_true, exists_eq_right, ex2a, ex2b, ex2c, D.tup.injEq, D.lst.injEq, M.lst.injEq, eq_self, ↓reduceIte]
  have bd : ∀ q' ∈ ks.zip z.cps.toList, (lawReads q'.1 (sign q'.2) r.toNat).length ≤ 17 ∧ ∀ x ∈ lawReads q'.1 (sign q'.2) r.toNat, x.length ≤ 3 := fun q' hq' => by
    rw [reads_eq (hk _ (List.of_mem_zip hq').1) (by omega) (by omega)]
    obtain ⟨a1, a2⟩ := raw_bound (hk _ (List.of_mem_zip hq').1) (hb _ (List.of_mem_zip hq').2) (show r.toNat ≤ 8 by omega)
    exact ⟨a1, fun x hx => by rw [a2 x hx]; omega⟩
  refine ⟨fun h => absurd h (by decide), ?_⟩
  rw [zipD_map]
  refine for_i (fun j δ => ∃ x y v, δ = ⟨[some (.pu (.tup (ks.map fun k => D.sc (.str k)))), some (.pu (.sc (.int r))), some (.pu (.sc (.str z))), some (strsL (rowsF (fun k b => lawReads k b r.toNat) ((ks.zip z.cps.toList).take j))), x, y, none, v, none], [.pu (.tup (ks.map fun k => D.sc (.str k))), .pu (.sc (.int r)), .pu (.sc (.str z))]⟩) ⟨none, none, none, rfl⟩ (fun j d δ K' hd hI k => ?_) (fun δ hI => ?_)
  · obtain ⟨x, y, v, rfl⟩ := hI
    rw [List.getElem?_map] at hd
    cases hp : (ks.zip z.cps.toList)[j]? with
    | none => rw [hp] at hd; cases hd
    | some p =>
      rw [hp] at hd
      cases hd
      have hm : p ∈ ks.zip z.cps.toList := List.mem_of_getElem? hp
      have hj : j < ks.length := by
        have := (List.getElem?_eq_some_iff.mp hp).1
        rw [List.length_zip] at this
        omega
      have hpk := hk p.1 (List.of_mem_zip hm).1
      have hpb := hb p.2 (List.of_mem_zip hm).2
      obtain ⟨m1, m2⟩ := bd p hm
      have lt : ((ks.zip z.cps.toList).take j).length = j := by
        rw [List.length_take, List.length_zip]
        omega
      obtain ⟨b1, b2⟩ := rows_bound (R := fun k b => lawReads k b r.toNat) (c := 17) (e := 3) lt fun q' hq' => bd q' (List.mem_of_mem_take hq')
      have p17 : 17 ^ j ≤ 289 := by
        have : j ≤ 2 := by omega
        exact Nat.le_trans (Nat.pow_le_pow_right (by decide) this) (by decide)
      generalize hF : rowsF (fun k b => lawReads k b r.toNat) ((ks.zip z.cps.toList).take j) = found at *
      simp only [dSet, dRet, dRetN, dIfS, dFor, dIt, dgName, dgNil, dgCons, dgTup, dgLst, dgTxt, dgSet, dVar, dC, dG, dOp, dUn, dCallP, dCons, dNil, dTst, dAnd, dOr, dNot, dAndV, dOrV, dNotV, dIf, dFz, dTup, dLst, dCall, dChain, dSl, dONo, dOSome, dMs, dMi, dAsg, dPar, dDrop, dLc, dLc2, dYes, dRng1, dRng2, dEnum, dZip, dLam, dNewD, dRaise, dNext, dBrk, dCnt, DS.put, DS.wipe, DS.rest, wipeL, restL, val, slD, vals, frz1, put1, out1, pures, dargs, dback, getM, setM, M.frz, start0, par, dEnds, isRes, itemsD, p2i, addP, subP, mulP, divP, modP, powP, DL.ltP, DL.leP, DL.gtP, DL.geP, eqP, inP, isNP, ixP, lenP, isiP, allP, anyP, intP, listP, tupleP, sortedSP, reprP, slP, revP, negP, findP, countP, joinP, appP, insP, tyD, lenD, dMl, lcountP, isBP, dLSet, dLRg, List.getElem?_cons_zero, List.getElem?_cons_succ, List.set_cons_zero, List.set_cons_succ, List.cons_append, List.nil_append, List.replicate_succ, List.replicate_zero, List.length_cons, List.length_nil, Option.some.injEq, exists_eq_left', exists_eq_left, Wv.pu.injEq, D.sc.injEq, V.bl.injEq, V.int.injEq, V.str.injEq, Nat.reduceSub, Nat.reduceAdd, List.cons.injEq, and_true, true_and, exists_and_left, Option.map_some, if_true, if_false, Bool.false_eq_true, exists_eq_right, ex2a, ex2b, ex2c, D.tup.injEq, D.lst.injEq, M.lst.injEq, eq_self, strsL]
      refine seq_o fun N1 hN1 => ?_
      simp only [dSet, dRet, dRetN, dIfS, dFor, dIt, dgName, dgNil, dgCons, dgTup, dgLst, dgTxt, dgSet, dVar, dC, dG, dOp, dUn, dCallP, dCons, dNil, dTst, dAnd, dOr, dNot, dAndV, dOrV, dNotV, dIf, dFz, dTup, dLst, dCall, dChain, dSl, dONo, dOSome, dMs, dMi, dAsg, dPar, dDrop, dLc, dLc2, dYes, dRng1, dRng2, dEnum, dZip, dLam, dNewD, dRaise, dNext, dBrk, dCnt, DS.put, DS.wipe, DS.rest, wipeL, restL, val, slD, vals, frz1, put1, out1, pures, dargs, dback, getM, setM, M.frz, start0, par, dEnds, isRes, itemsD, p2i, addP, subP, mulP, divP, modP, powP, DL.ltP, DL.leP, DL.gtP, DL.geP, eqP, inP, isNP, ixP, lenP, isiP, allP, anyP, intP, listP, tupleP, sortedSP, reprP, slP, revP, negP, findP, countP, joinP, appP, insP, tyD, lenD, dMl, lcountP, isBP, dLSet, dLRg, List.getElem?_cons_zero, List.getElem?_cons_succ, List.set_cons_zero, List.set_cons_succ, List.cons_append, List.nil_append, List.replicate_succ, List.replicate_zero, List.length_cons, List.length_nil, Option.some.injEq, exists_eq_left', exists_eq_left, Wv.pu.injEq, D.sc.injEq, V.bl.injEq, V.int.injEq, V.str.injEq, Nat.reduceSub, Nat.reduceAdd, List.cons.injEq, and_true, true_and, exists_and_left, Option.map_some, if_true, if_false, Bool.false_eq_true, exists_eq_right, ex2a, ex2b, ex2c, D.tup.injEq, D.lst.injEq, M.lst.injEq, eq_self]
      refine ⟨by decide, ?_⟩
      subst hN1
      refine seq_o fun N1 hN1 => ?_
      simp only [dSet, dRet, dRetN, dIfS, dFor, dIt, dgName, dgNil, dgCons, dgTup, dgLst, dgTxt, dgSet, dVar, dC, dG, dOp, dUn, dCallP, dCons, dNil, dTst, dAnd, dOr, dNot, dAndV, dOrV, dNotV, dIf, dFz, dTup, dLst, dCall, dChain, dSl, dONo, dOSome, dMs, dMi, dAsg, dPar, dDrop, dLc, dLc2, dYes, dRng1, dRng2, dEnum, dZip, dLam, dNewD, dRaise, dNext, dBrk, dCnt, DS.put, DS.wipe, DS.rest, wipeL, restL, val, slD, vals, frz1, put1, out1, pures, dargs, dback, getM, setM, M.frz, start0, par, dEnds, isRes, itemsD, p2i, addP, subP, mulP, divP, modP, powP, DL.ltP, DL.leP, DL.gtP, DL.geP, eqP, inP, isNP, ixP, lenP, isiP, allP, anyP, intP, listP, tupleP, sortedSP, reprP, slP, revP, negP, findP, countP, joinP, appP, insP, tyD, lenD, dMl, lcountP, isBP, dLSet, dLRg, List.getElem?_cons_zero, List.getElem?_cons_succ, List.set_cons_zero, List.set_cons_succ, List.cons_append, List.nil_append, List.replicate_succ, List.replicate_zero, List.length_cons, List.length_nil, Option.some.injEq, exists_eq_left', exists_eq_left, Wv.pu.injEq, D.sc.injEq, V.bl.injEq, V.int.injEq, V.str.injEq, Nat.reduceSub, Nat.reduceAdd, List.cons.injEq, and_true, true_and, exists_and_left, Option.map_some, if_true, if_false, Bool.false_eq_true, exists_eq_right, ex2a, ex2b, ex2c, D.tup.injEq, D.lst.injEq, M.lst.injEq, eq_self]
      refine for_i (fun i δ => ∃ v, δ = ⟨[some (.pu (.tup (ks.map fun k => D.sc (.str k)))), some (.pu (.sc (.int r))), some (.pu (.sc (.str z))), some (.pu (.lst (found.map fun z => DS' z))), some (.pu (.sc (.str p.1))), some (.pu (.sc (.str (sign p.2)))), some (strsL ((found.take i).flatMap fun start => (lawReads p.1 (sign p.2) r.toNat).map (start ++ ·))), v, none], [.pu (.tup (ks.map fun k => D.sc (.str k))), .pu (.sc (.int r)), .pu (.sc (.str z))]⟩) ⟨v, rfl⟩ (fun i d2 δ K2 hd2 hI2 k2 => ?_) (fun δ hI2 => ?_)
      · obtain ⟨v, rfl⟩ := hI2
        rw [List.getElem?_map] at hd2
        cases hw : found[i]? with
        | none => rw [hw] at hd2; cases hd2
        | some start =>
          rw [hw] at hd2
          cases hd2
          have hwl := b2 start (List.mem_of_getElem? hw)
          have g := grow_map (f := fun start => (lawReads p.1 (sign p.2) r.toNat).map (start ++ ·)) found i hw
          have tot : ((found.take i).flatMap fun start => (lawReads p.1 (sign p.2) r.toNat).map (start ++ ·)).length + (lawReads p.1 (sign p.2) r.toNat).length ≤ 4913 := by
            have e2 := congrArg List.length g
            rw [List.length_append, List.length_map] at e2
            rw [← e2]
            refine Nat.le_trans (flat_len (c := 17) fun x _ => by simpa using m1) (Nat.le_trans (Nat.mul_le_mul_right _ (List.length_take_le' _ _)) ?_)
            omega
          simp only [dSet, dRet, dRetN, dIfS, dFor, dIt, dgName, dgNil, dgCons, dgTup, dgLst, dgTxt, dgSet, dVar, dC, dG, dOp, dUn, dCallP, dCons, dNil, dTst, dAnd, dOr, dNot, dAndV, dOrV, dNotV, dIf, dFz, dTup, dLst, dCall, dChain, dSl, dONo, dOSome, dMs, dMi, dAsg, dPar, dDrop, dLc, dLc2, dYes, dRng1, dRng2, dEnum, dZip, dLam, dNewD, dRaise, dNext, dBrk, dCnt, DS.put, DS.wipe, DS.rest, wipeL, restL, val, slD, vals, frz1, put1, out1, pures, dargs, dback, getM, setM, M.frz, start0, par, dEnds, isRes, itemsD, p2i, addP, subP, mulP, divP, modP, powP, DL.ltP, DL.leP, DL.gtP, DL.geP, eqP, inP, isNP, ixP, lenP, isiP, allP, anyP, intP, listP, tupleP, sortedSP, reprP, slP, revP, negP, findP, countP, joinP, appP, insP, tyD, lenD, dMl, lcountP, isBP, dLSet, dLRg, List.getElem?_cons_zero, List.getElem?_cons_succ, List.set_cons_zero, List.set_cons_succ, List.cons_append, List.nil_append, List.replicate_succ, List.replicate_zero, List.length_cons, List.length_nil, Option.some.injEq, exists_eq_left', exists_eq_left, Wv.pu.injEq, D.sc.injEq, V.bl.injEq, V.int.injEq, V.str.injEq, Nat.reduceSub, Nat.reduceAdd, List.cons.injEq, and_true, true_and, exists_and_left, Option.map_some, if_true, if_false, Bool.false_eq_true, exists_eq_right, ex2a, ex2b, ex2c, D.tup.injEq, D.lst.injEq, M.lst.injEq, eq_self, strsL]
          refine call_ok (ds := [DS' p.1, DS' (sign p.2), DI' r]) rfl rfl ⟨p.1, sign p.2, r, rfl, hpk, hpb, h1, by omega⟩ ?_
          simp only [dSet, dRet, dRetN, dIfS, dFor, dIt, dgName, dgNil, dgCons, dgTup, dgLst, dgTxt, dgSet, dVar, dC, dG, dOp, dUn, dCallP, dCons, dNil, dTst, dAnd, dOr, dNot, dAndV, dOrV, dNotV, dIf, dFz, dTup, dLst, dCall, dChain, dSl, dONo, dOSome, dMs, dMi, dAsg, dPar, dDrop, dLc, dLc2, dYes, dRng1, dRng2, dEnum, dZip, dLam, dNewD, dRaise, dNext, dBrk, dCnt, DS.put, DS.wipe, DS.rest, wipeL, restL, val, slD, vals, frz1, put1, out1, pures, dargs, dback, getM, setM, M.frz, start0, par, dEnds, isRes, itemsD, p2i, addP, subP, mulP, divP, modP, powP, DL.ltP, DL.leP, DL.gtP, DL.geP, eqP, inP, isNP, ixP, lenP, isiP, allP, anyP, intP, listP, tupleP, sortedSP, reprP, slP, revP, negP, findP, countP, joinP, appP, insP, tyD, lenD, dMl, lcountP, isBP, dLSet, dLRg, List.getElem?_cons_zero, List.getElem?_cons_succ, List.set_cons_zero, List.set_cons_succ, List.cons_append, List.nil_append, List.replicate_succ, List.replicate_zero, List.length_cons, List.length_nil, Option.some.injEq, exists_eq_left', exists_eq_left, Wv.pu.injEq, D.sc.injEq, V.bl.injEq, V.int.injEq, V.str.injEq, Nat.reduceSub, Nat.reduceAdd, List.cons.injEq, and_true, true_and, exists_and_left, Option.map_some, if_true, if_false, Bool.false_eq_true, exists_eq_right, ex2a, ex2b, ex2c, D.tup.injEq, D.lst.injEq, M.lst.injEq, eq_self, strsL, List.getD_cons_zero, List.getD_cons_succ, str, nat]
          refine comp_map (fun d => match d with
            | .sc (.str s) => DS' (start ++ s)
            | _ => DN') ((lawReads p.1 (sign p.2) r.toNat).map fun z => DS' z) [] _ (fun d3 hd3 K3 k3 => ?_) (by rw [List.length_map, List.length_nil]; exact small_sl (by omega)) ?_
          · obtain ⟨row, hrow, rfl⟩ := List.mem_map.mp hd3
            simp only [dSet, dRet, dRetN, dIfS, dFor, dIt, dgName, dgNil, dgCons, dgTup, dgLst, dgTxt, dgSet, dVar, dC, dG, dOp, dUn, dCallP, dCons, dNil, dTst, dAnd, dOr, dNot, dAndV, dOrV, dNotV, dIf, dFz, dTup, dLst, dCall, dChain, dSl, dONo, dOSome, dMs, dMi, dAsg, dPar, dDrop, dLc, dLc2, dYes, dRng1, dRng2, dEnum, dZip, dLam, dNewD, dRaise, dNext, dBrk, dCnt, DS.put, DS.wipe, DS.rest, wipeL, restL, val, slD, vals, frz1, put1, out1, pures, dargs, dback, getM, setM, M.frz, start0, par, dEnds, isRes, itemsD, p2i, addP, subP, mulP, divP, modP, powP, DL.ltP, DL.leP, DL.gtP, DL.geP, eqP, inP, isNP, ixP, lenP, isiP, allP, anyP, intP, listP, tupleP, sortedSP, reprP, slP, revP, negP, findP, countP, joinP, appP, insP, tyD, lenD, dMl, lcountP, isBP, dLSet, dLRg, List.getElem?_cons_zero, List.getElem?_cons_succ, List.set_cons_zero, List.set_cons_succ, List.cons_append, List.nil_append, List.replicate_succ, List.replicate_zero, List.length_cons, List.length_nil, Option.some.injEq, exists_eq_left', exists_eq_left, Wv.pu.injEq, D.sc.injEq, V.bl.injEq, V.int.injEq, V.str.injEq, Nat.reduceSub, Nat.reduceAdd, List.cons.injEq, and_true, true_and, exists_and_left, Option.map_some, if_true, if_false, Bool.false_eq_true, exists_eq_right, ex2a, ex2b, ex2c, D.tup.injEq, D.lst.injEq, M.lst.injEq, eq_self]
            have l2 := m2 row hrow
            have : j * 3 ≤ 6 := by omega
            exact ⟨small_sl (by omega), k3 _ rfl⟩
          · simp only [dSet, dRet, dRetN, dIfS, dFor, dIt, dgName, dgNil, dgCons, dgTup, dgLst, dgTxt, dgSet, dVar, dC, dG, dOp, dUn, dCallP, dCons, dNil, dTst, dAnd, dOr, dNot, dAndV, dOrV, dNotV, dIf, dFz, dTup, dLst, dCall, dChain, dSl, dONo, dOSome, dMs, dMi, dAsg, dPar, dDrop, dLc, dLc2, dYes, dRng1, dRng2, dEnum, dZip, dLam, dNewD, dRaise, dNext, dBrk, dCnt, DS.put, DS.wipe, DS.rest, wipeL, restL, val, slD, vals, frz1, put1, out1, pures, dargs, dback, getM, setM, M.frz, start0, par, dEnds, isRes, itemsD, p2i, addP, subP, mulP, divP, modP, powP, DL.ltP, DL.leP, DL.gtP, DL.geP, eqP, inP, isNP, ixP, lenP, isiP, allP, anyP, intP, listP, tupleP, sortedSP, reprP, slP, revP, negP, findP, countP, joinP, appP, insP, tyD, lenD, dMl, lcountP, isBP, dLSet, dLRg, List.getElem?_cons_zero, List.getElem?_cons_succ, List.set_cons_zero, List.set_cons_succ, List.cons_append, List.nil_append, List.replicate_succ, List.replicate_zero, List.length_cons, List.length_nil, Option.some.injEq, exists_eq_left', exists_eq_left, Wv.pu.injEq, D.sc.injEq, V.bl.injEq, V.int.injEq, V.str.injEq, Nat.reduceSub, Nat.reduceAdd, List.cons.injEq, and_true, true_and, exists_and_left, Option.map_some, if_true, if_false, Bool.false_eq_true, exists_eq_right, ex2a, ex2b, ex2c, D.tup.injEq, D.lst.injEq, M.lst.injEq, eq_self, List.length_map, List.length_nil]
            refine ⟨small_sl (by omega), k2 _ ⟨some (.pu (DS' start)), ?_⟩⟩
            rw [g, strsL, List.map_append, List.map_map, List.map_map]
            rfl
      · obtain ⟨v, rfl⟩ := hI2
        rw [List.length_map, List.take_length]
        simp only [hN1, dSet, dRet, dRetN, dIfS, dFor, dIt, dgName, dgNil, dgCons, dgTup, dgLst, dgTxt, dgSet, dVar, dC, dG, dOp, dUn, dCallP, dCons, dNil, dTst, dAnd, dOr, dNot, dAndV, dOrV, dNotV, dIf, dFz, dTup, dLst, dCall, dChain, dSl, dONo, dOSome, dMs, dMi, dAsg, dPar, dDrop, dLc, dLc2, dYes, dRng1, dRng2, dEnum, dZip, dLam, dNewD, dRaise, dNext, dBrk, dCnt, DS.put, DS.wipe, DS.rest, wipeL, restL, val, slD, vals, frz1, put1, out1, pures, dargs, dback, getM, setM, M.frz, start0, par, dEnds, isRes, itemsD, p2i, addP, subP, mulP, divP, modP, powP, DL.ltP, DL.leP, DL.gtP, DL.geP, eqP, inP, isNP, ixP, lenP, isiP, allP, anyP, intP, listP, tupleP, sortedSP, reprP, slP, revP, negP, findP, countP, joinP, appP, insP, tyD, lenD, dMl, lcountP, isBP, dLSet, dLRg, List.getElem?_cons_zero, List.getElem?_cons_succ, List.set_cons_zero, List.set_cons_succ, List.cons_append, List.nil_append, List.replicate_succ, List.replicate_zero, List.length_cons, List.length_nil, Option.some.injEq, exists_eq_left', exists_eq_left, Wv.pu.injEq, D.sc.injEq, V.bl.injEq, V.int.injEq, V.str.injEq, Nat.reduceSub, Nat.reduceAdd, List.cons.injEq, and_true, true_and, exists_and_left, Option.map_some, if_true, if_false, Bool.false_eq_true, exists_eq_right, ex2a, ex2b, ex2c, D.tup.injEq, D.lst.injEq, M.lst.injEq, eq_self, strsL]
        refine ⟨_, rfl, k _ ⟨some (.pu (DS' p.1)), some (.pu (DS' (sign p.2))), v, ?_⟩⟩
        have e1 : (ks.zip z.cps.toList).take (j + 1) = (ks.zip z.cps.toList).take j ++ [p] := by
          rw [List.take_succ, hp]
          rfl
        rw [e1, rowsF_snoc, hF]
        rfl
  · obtain ⟨x, y, v, rfl⟩ := hI
    simp only [hN, dSet, dRet, dRetN, dIfS, dFor, dIt, dgName, dgNil, dgCons, dgTup, dgLst, dgTxt, dgSet, dVar, dC, dG, dOp, dUn, dCallP, dCons, dNil, dTst, dAnd, dOr, dNot, dAndV, dOrV, dNotV, dIf, dFz, dTup, dLst, dCall, dChain, dSl, dONo, dOSome, dMs, dMi, dAsg, dPar, dDrop, dLc, dLc2, dYes, dRng1, dRng2, dEnum, dZip, dLam, dNewD, dRaise, dNext, dBrk, dCnt, DS.put, DS.wipe, DS.rest, wipeL, restL, val, slD, vals, frz1, put1, out1, pures, dargs, dback, getM, setM, M.frz, start0, par, dEnds, isRes, itemsD, p2i, addP, subP, mulP, divP, modP, powP, DL.ltP, DL.leP, DL.gtP, DL.geP, eqP, inP, isNP, ixP, lenP, isiP, allP, anyP, intP, listP, tupleP, sortedSP, reprP, slP, revP, negP, findP, countP, joinP, appP, insP, tyD, lenD, dMl, lcountP, isBP, dLSet, dLRg, List.getElem?_cons_zero, List.getElem?_cons_succ, List.set_cons_zero, List.set_cons_succ, List.cons_append, List.nil_append, List.replicate_succ, List.replicate_zero, List.length_cons, List.length_nil, Option.some.injEq, exists_eq_left', exists_eq_left, Wv.pu.injEq, D.sc.injEq, V.bl.injEq, V.int.injEq, V.str.injEq, Nat.reduceSub, Nat.reduceAdd, List.cons.injEq, and_true, true_and, exists_and_left, Option.map_some, if_true, if_false, Bool.false_eq_true, exists_eq_right, ex2a, ex2b, ex2c, D.tup.injEq, D.lst.injEq, M.lst.injEq, eq_self, strsL]
    rw [List.length_map, List.take_length]
    exact q.2
end
end Lw

/-! text RJ -/
set_option Elab.async false
set_option linter.all false
set_option maxRecDepth 100000
set_option maxHeartbeats 4000000
namespace Lw
open PySem PySem.Spec PyProof.Rows L2 DL
section
variable {P : Program} {w : World} {base : Heap} {K : PySem.W.Frag} {ws : List Wv} {Q : Wv → List Wv → Prop} {Y : Value → List Wv → Prop} {mg : Str → Option Value}
theorem pick_kind (Z : Fx K mg) {k : Str → Prop} (h : k "kind") : pickK K (.ref (He.ga K "NoKind")) k (clw__law_word K) := ⟨_, Z.m_NoKind_NoKind, fun _ => h, fun e => by cases e⟩
theorem pick_count (Z : Fx K mg) {k : Str → Prop} (h : k "count") : pickK K (.ref (He.ga K "NoCount")) k (clw__law_word K) := ⟨_, Z.m_NoCount_NoKind, (fun e => by cases e), fun _ => ⟨_, Z.m_NoCount_NoCount, fun _ => h, fun e => by cases e⟩⟩
theorem pick_word (Z : Fx K mg) {k : Str → Prop} (h : k "word") : pickK K (.ref (He.ga K "NoWord")) k (clw__law_word K) := ⟨_, Z.m_NoWord_NoKind, (fun e => by cases e), fun _ => ⟨_, Z.m_NoWord_NoCount, (fun e => by cases e), fun _ => ⟨_, Z.m_NoWord_NoWord, fun _ => h, fun e => by cases e⟩⟩⟩
theorem pick_match (Z : Fx K mg) {k : Str → Prop} (h : k "match") : pickK K (.ref (He.ga K "NoMatch")) k (clw__law_word K) := ⟨_, Z.m_NoMatch_NoKind, (fun e => by cases e), fun _ => ⟨_, Z.m_NoMatch_NoCount, (fun e => by cases e), fun _ => ⟨_, Z.m_NoMatch_NoWord, (fun e => by cases e), fun _ => ⟨_, Z.m_NoMatch_NoMatch, fun _ => h, fun e => by cases e⟩⟩⟩⟩
theorem lamE {c : Str} {n : Nat} {pre : List D → Prop} {f : List D → Except Str Wv} {ws : List Wv} {ds : List D} {Q : Wv → List Wv → Prop} {Y : Value → List Wv → Prop} (e : ws = ds.map .pu) (hl : ds.length = n) (hp : pre ds) (hf : f ds = .error c) (h : Y (.ref (He.ga K c)) ws) : spX K n pre f ws Q Y := call_ok e hl hp (by rw [hf]; exact h)
def thingB (d : D) : Bool := (tyD d).isSome && match d with
  | .sc (.str z) => decide (z.length ≤ 100000)
  | _ => true
theorem thing_of {d : D} (h : thingB d = true) : thing d := by
  unfold thingB at h
  rw [Bool.and_eq_true] at h
  refine ⟨Option.isSome_iff_exists.mp h.1, fun z e => ?_⟩
  subst e
  exact small_sl (by simpa using h.2)
def thingKB (d : D) : Bool := thingB d && match d with
  | .tup xs => decide (xs.length ≤ 100000) && xs.all thingB
  | _ => true
theorem thingK_of {d : D} (h : thingKB d = true) : thingK d := by
  unfold thingKB at h
  rw [Bool.and_eq_true] at h
  refine ⟨thing_of h.1, fun xs e => ?_⟩
  subst e
  have h2 := h.2
  simp only [Bool.and_eq_true, decide_eq_true_eq, List.all_eq_true] at h2
  exact ⟨small_sl h2.1, fun x hx => thing_of (h2.2 x hx)⟩
def thB (ds : List D) : Bool := ds.all thingB
theorem th_of {ds : List D} (h : ds.all thingB = true) : ∀ d ∈ ds, thing d := fun d hd => thing_of (List.all_eq_true.mp h d hd)
theorem thK_of {ds : List D} (h : ds.all thingKB = true) : ∀ d ∈ ds, thingK d := fun d hd => thingK_of (List.all_eq_true.mp h d hd)
theorem all_at {p : D → Bool} {ds : List D} {j : Nat} {d : D} (h : ds.all p = true) (hd : ds[j]? = some d) : p d = true := List.all_eq_true.mp h d (List.mem_of_getElem? hd)
theorem c_reads_kind {a b c : D} {Q : Wv → List Wv → Prop} {Y : Value → List Wv → Prop} (t : [a, b, c].all thingB = true) (h : isKD a = false) (y : Y (.ref (He.ga K "NoKind")) ([a, b, c].map .pu)) : sp_reads K ([a, b, c].map .pu) Q Y :=
  lamE (c := "NoKind") rfl rfl (th_of t) (by simp [h]) y
theorem c_reads_bit {a b c : D} {Q : Wv → List Wv → Prop} {Y : Value → List Wv → Prop} (t : [a, b, c].all thingB = true) (h : isBitD b = false) (y : Y (.ref (He.ga K "NoKind")) ([a, b, c].map .pu)) : sp_reads K ([a, b, c].map .pu) Q Y :=
  lamE (c := "NoKind") rfl rfl (th_of t) (by simp [h]) y
theorem c_reads_count {a b c : D} {Q : Wv → List Wv → Prop} {Y : Value → List Wv → Prop} (t : [a, b, c].all thingB = true) (h1 : isKD a = true) (h2 : isBitD b = true) (h : isRD c = false) (y : Y (.ref (He.ga K "NoCount")) ([a, b, c].map .pu)) : sp_reads K ([a, b, c].map .pu) Q Y :=
  lamE (c := "NoCount") rfl rfl (th_of t) (by simp [h1, h2, h]) y
theorem c_rows_kind {a b c : D} {Q : Wv → List Wv → Prop} {Y : Value → List Wv → Prop} (t : [a, b, c].all thingKB = true) (h : areK a = false) (y : Y (.ref (He.ga K "NoKind")) ([a, b, c].map .pu)) : sp_rows_of K ([a, b, c].map .pu) Q Y :=
  lamE (c := "NoKind") rfl rfl (thK_of t) (by simp [h]) y
theorem c_rows_count {a b c : D} {Q : Wv → List Wv → Prop} {Y : Value → List Wv → Prop} (t : [a, b, c].all thingKB = true) (h1 : areK a = true) (h : isRD b = false) (y : Y (.ref (He.ga K "NoCount")) ([a, b, c].map .pu)) : sp_rows_of K ([a, b, c].map .pu) Q Y :=
  lamE (c := "NoCount") rfl rfl (thK_of t) (by simp [h1, h]) y
theorem c_rows_word {a b c : D} {Q : Wv → List Wv → Prop} {Y : Value → List Wv → Prop} (t : [a, b, c].all thingKB = true) (h1 : areK a = true) (h2 : isRD b = true) (h : isWD c = false) (y : Y (.ref (He.ga K "NoWord")) ([a, b, c].map .pu)) : sp_rows_of K ([a, b, c].map .pu) Q Y :=
  lamE (c := "NoWord") rfl rfl (thK_of t) (by simp [h1, h2, h]) y
theorem c_rows_match {a b c : D} {Q : Wv → List Wv → Prop} {Y : Value → List Wv → Prop} (t : [a, b, c].all thingKB = true) (h1 : areK a = true) (h2 : isRD b = true) (h3 : isWD c = true) (h : ¬ (str c).length = lenT a) (y : Y (.ref (He.ga K "NoMatch")) ([a, b, c].map .pu)) : sp_rows_of K ([a, b, c].map .pu) Q Y :=
  lamE (c := "NoMatch") rfl rfl (thK_of t) (by simp [h1, h2, h3, h]) y
theorem areK_no {xs : List D} {d : D} (h : d ∈ xs) (hd : isKD d = false) : areK (.tup xs) = false := by
  unfold areK
  have : xs.all isKD = false := by
    cases e : xs.all isKD with
    | false => rfl
    | true => rw [List.all_eq_true.mp e d h] at hd; cases hd
  show (decide (1 ≤ xs.length) && decide (xs.length ≤ 3) && xs.all isKD) = false
  rw [this, Bool.and_false]
abbrev kt (ks : List Str) : D := .tup (ks.map fun k => DS' k)
theorem isK_short {k : Str} (h : isK k = true) : k.length ≤ 5 := by
  simp only [isK, Bool.or_eq_true, beq_iff_eq] at h
  rcases h with rfl | rfl | rfl <;> decide
theorem kt_things {ks : List Str} (hk : ∀ k ∈ ks, isK k = true) : (ks.map fun k => DS' k).all thingB = true := by
  rw [List.all_eq_true]
  intro d hd
  obtain ⟨k, h, rfl⟩ := List.mem_map.mp hd
  have := isK_short (hk k h)
  simp [thingB, tyD]
  omega
theorem kt_areK {ks : List Str} (hk : ∀ k ∈ ks, isK k = true) (h1 : 1 ≤ ks.length) (h3 : ks.length ≤ 3) : areK (kt ks) = true := by
  simp only [areK, List.length_map, h1, h3, decide_true, Bool.true_and, List.all_eq_true]
  intro d hd
  obtain ⟨k, h, rfl⟩ := List.mem_map.mp hd
  exact hk k h
theorem cut_all' {xs : List D} {p : D → Bool} (h : xs.all p = true) (lo hi : Option Int) : (cutL xs lo hi).all p = true := by
  rw [List.all_eq_true] at h ⊢
  intro d hd
  exact h d (List.mem_of_mem_drop (List.mem_of_mem_take hd))
theorem cut_len' {xs : List D} (lo hi : Option Int) : (cutL xs lo hi).length ≤ xs.length := by
  unfold cutL
  rw [List.length_take, List.length_drop]
  omega
/-- the first loop: what is no kind -/
theorem rr_one (Z : Fx K mg) {ks : List Str} {r : Int} {z : Str} {odd : D} {fnd : Option Wv} {an : List Wv} {E : DEnds} (hk : ∀ k ∈ ks, isK k = true) (h3 : ks.length ≤ 3) (hz : z.length ≤ 3) (ho : isKD odd = false) (ht : thingB odd = true)
    (g : ∀ w, E.nx ⟨[some (.pu (kt ks)), some (.pu (DI' r)), some (.pu (DS' z)), some (.pu odd), some w], an⟩) :
    dSeq (dSet 4 (dLst (dCons (dFz (dLam K (clw__law_word K) "none" (dCall ((sp_reads K)) (dCons (dFz (dVar 3)) (dCons (dC .non) (dCons (dC .non) (dNil))))))) (dNil))))
  (dSeq (dDrop (dMi appP (dVar 4) (dCons (dFz (dLam K (clw__law_word K) "none" (dCall ((sp_reads K)) (dCons (dFz (dVar 3)) (dCons (dC (.str "0")) (dCons (dC (.int 1)) (dNil))))))) (dNil))))
  (dSeq (dDrop (dMi appP (dVar 4) (dCons (dFz (dLam K (clw__law_word K) "none" (dCall ((sp_rows_of K)) (dCons (dFz (dTup (dCons (dFz (dVar 3)) (dNil)))) (dCons (dC .non) (dCons (dC .non) (dNil))))))) (dNil))))
  (dSeq (dDrop (dMi appP (dVar 4) (dCons (dFz (dLam K (clw__law_word K) "none" (dCall ((sp_rows_of K)) (dCons (dFz (dTup (dCons (dFz (dVar 3)) (dNil)))) (dCons (dC (.int 1)) (dCons (dC (.str "0")) (dNil))))))) (dNil))))
  (dSeq (dDrop (dMi appP (dVar 4) (dCons (dFz (dLam K (clw__law_word K) "none" (dCall ((sp_rows_of K)) (dCons (dFz (dOp addP (dSl slP (dVar 0) (dOSome (dC (.int 1))) dONo) (dTup (dCons (dFz (dVar 3)) (dNil))))) (dCons (dC (.int 1)) (dCons (dFz (dVar 2)) (dNil))))))) (dNil))))
  (dSeq (dDrop (dMi appP (dVar 4) (dCons (dFz (dLam K (clw__law_word K) "none" (dCall ((sp_rows_of K)) (dCons (dFz (dOp addP (dTup (dCons (dFz (dVar 3)) (dNil))) (dSl slP (dVar 0) (dOSome (dC (.int 1))) dONo))) (dCons (dC (.int 1)) (dCons (dFz (dVar 2)) (dNil))))))) (dNil))))
  (dSeq (dDrop (dMi appP (dVar 4) (dCons (dFz (dLam K (clw__law_word K) "none" (dCall ((sp_rows_of K)) (dCons (dFz (dTup (dCons (dC (.str "low")) (dCons (dFz (dVar 3)) (dCons (dC (.str "low")) (dNil)))))) (dCons (dC (.int 1)) (dCons (dC (.str "000")) (dNil))))))) (dNil))))
  (dIfS (dTst (dOp (eqP true) (dVar 4) (dOp mulP (dLst (dCons (dC (.str "kind")) (dNil))) (dC (.int 7))))) (dRet (dC (.bl false))) (dNext)))))))) E
  ⟨[some (.pu (kt ks)), some (.pu (DI' r)), some (.pu (DS' z)), some (.pu odd), fnd], an⟩ := by
  have tz : thingB (DS' z) = true := by simp [thingB, tyD]; omega
  have tzK : thingKB (DS' z) = true := by simp [thingKB, tz]
  have tt : ∀ xs : List D, xs.length ≤ 100 → xs.all thingB = true → thingKB (.tup xs) = true := fun xs h1 h2 => by
    simp only [thingKB, h2, Bool.and_true, Bool.and_eq_true, decide_eq_true_eq]
    exact ⟨rfl, by omega⟩
  have cl := cut_len' (xs := ks.map fun k => DS' k) (some 1) none
  rw [List.length_map] at cl
  have ca := cut_all' (kt_things hk) (some 1) none
  have n1 : ∀ d ∈ (cutL (ks.map fun k => DS' k) (some 1) none), thingB d = true := List.all_eq_true.mp ca
  refine seq_o fun N hN => ?_
  simp only [dSet, dRet, dRetN, dIfS, dFor, dIt, dgName, dgNil, dgCons, dgTup, dgLst, dgTxt, dgSet, dVar, dC, dG, dOp, dUn, dCallP, dCons, dNil, dTst, dAnd, dOr, dNot, dAndV, dOrV, dNotV, dIf, dFz, dTup, dLst, dCall, dChain, dSl, dONo, dOSome, dMs, dMi, dAsg, dPar, dDrop, dLc, dLc2, dYes, dRng1, dRng2, dEnum, dZip, dLam, dNewD, dRaise, dNext, dBrk, dCnt, DS.put, DS.wipe, DS.rest, wipeL, restL, val, slD, vals, frz1, put1, out1, pures, dargs, dback, getM, setM, M.frz, start0, par, dEnds, isRes, itemsD, p2i, addP, subP, mulP, divP, modP, powP, DL.ltP, DL.leP, DL.gtP, DL.geP, eqP, inP, isNP, ixP, lenP, isiP, allP, anyP, intP, listP, tupleP, sortedSP, reprP, slP, revP, negP, findP, countP, joinP, appP, insP, tyD, lenD, dMl, lcountP, isBP, dLSet, dLRg, List.getElem?_cons_zero, List.getElem?_cons_succ, List.set_cons_zero, List.set_cons_succ, List.cons_append, List.nil_append, List.replicate_succ, List.replicate_zero, List.length_cons, List.length_nil, Option.some.injEq, exists_eq_left', exists_eq_left, Wv.pu.injEq, D.sc.injEq, V.bl.injEq, V.int.injEq, V.str.injEq, Nat.reduceSub, Nat.reduceAdd, List.cons.injEq, and_true, true_and, exists_and_left, Option.map_some, if_true, if_false, Bool.false_eq_true, exists_eq_right, ex2a, ex2b, ex2c, D.tup.injEq, D.lst.injEq, M.lst.injEq, eq_self]
  refine c_reads_kind (a := odd) (b := DN') (c := DN') (by rw [List.all_cons, ht]; rfl) ho (pick_kind Z ?_)
  try simp only [dSet, dRet, dRetN, dIfS, dFor, dIt, dgName, dgNil, dgCons, dgTup, dgLst, dgTxt, dgSet, dVar, dC, dG, dOp, dUn, dCallP, dCons, dNil, dTst, dAnd, dOr, dNot, dAndV, dOrV, dNotV, dIf, dFz, dTup, dLst, dCall, dChain, dSl, dONo, dOSome, dMs, dMi, dAsg, dPar, dDrop, dLc, dLc2, dYes, dRng1, dRng2, dEnum, dZip, dLam, dNewD, dRaise, dNext, dBrk, dCnt, DS.put, DS.wipe, DS.rest, wipeL, restL, val, slD, vals, frz1, put1, out1, pures, dargs, dback, getM, setM, M.frz, start0, par, dEnds, isRes, itemsD, p2i, addP, subP, mulP, divP, modP, powP, DL.ltP, DL.leP, DL.gtP, DL.geP, eqP, inP, isNP, ixP, lenP, isiP, allP, anyP, intP, listP, tupleP, sortedSP, reprP, slP, revP, negP, findP, countP, joinP, appP, insP, tyD, lenD, dMl, lcountP, isBP, dLSet, dLRg, List.getElem?_cons_zero, List.getElem?_cons_succ, List.set_cons_zero, List.set_cons_succ, List.cons_append, List.nil_append, List.replicate_succ, List.replicate_zero, List.length_cons, List.length_nil, Option.some.injEq, exists_eq_left', exists_eq_left, Wv.pu.injEq, D.sc.injEq, V.bl.injEq, V.int.injEq, V.str.injEq, Nat.reduceSub, Nat.reduceAdd, List.cons.injEq, and_true, true_and, exists_and_left, Option.map_some, if_true, if_false, Bool.false_eq_true, exists_eq_right, ex2a, ex2b, ex2c, D.tup.injEq, D.lst.injEq, M.lst.injEq, eq_self]
  refine ⟨by decide, ?_⟩
  subst hN
  refine seq_o fun N hN => ?_
  simp only [dSet, dRet, dRetN, dIfS, dFor, dIt, dgName, dgNil, dgCons, dgTup, dgLst, dgTxt, dgSet, dVar, dC, dG, dOp, dUn, dCallP, dCons, dNil, dTst, dAnd, dOr, dNot, dAndV, dOrV, dNotV, dIf, dFz, dTup, dLst, dCall, dChain, dSl, dONo, dOSome, dMs, dMi, dAsg, dPar, dDrop, dLc, dLc2, dYes, dRng1, dRng2, dEnum, dZip, dLam, dNewD, dRaise, dNext, dBrk, dCnt, DS.put, DS.wipe, DS.rest, wipeL, restL, val, slD, vals, frz1, put1, out1, pures, dargs, dback, getM, setM, M.frz, start0, par, dEnds, isRes, itemsD, p2i, addP, subP, mulP, divP, modP, powP, DL.ltP, DL.leP, DL.gtP, DL.geP, eqP, inP, isNP, ixP, lenP, isiP, allP, anyP, intP, listP, tupleP, sortedSP, reprP, slP, revP, negP, findP, countP, joinP, appP, insP, tyD, lenD, dMl, lcountP, isBP, dLSet, dLRg, List.getElem?_cons_zero, List.getElem?_cons_succ, List.set_cons_zero, List.set_cons_succ, List.cons_append, List.nil_append, List.replicate_succ, List.replicate_zero, List.length_cons, List.length_nil, Option.some.injEq, exists_eq_left', exists_eq_left, Wv.pu.injEq, D.sc.injEq, V.bl.injEq, V.int.injEq, V.str.injEq, Nat.reduceSub, Nat.reduceAdd, List.cons.injEq, and_true, true_and, exists_and_left, Option.map_some, if_true, if_false, Bool.false_eq_true, exists_eq_right, ex2a, ex2b, ex2c, D.tup.injEq, D.lst.injEq, M.lst.injEq, eq_self]
  refine ⟨⟨_, rfl⟩, c_reads_kind (a := odd) (b := DS' "0") (c := DI' 1) (by rw [List.all_cons, ht]; rfl) ho (pick_kind Z ?_)⟩
  try simp only [dSet, dRet, dRetN, dIfS, dFor, dIt, dgName, dgNil, dgCons, dgTup, dgLst, dgTxt, dgSet, dVar, dC, dG, dOp, dUn, dCallP, dCons, dNil, dTst, dAnd, dOr, dNot, dAndV, dOrV, dNotV, dIf, dFz, dTup, dLst, dCall, dChain, dSl, dONo, dOSome, dMs, dMi, dAsg, dPar, dDrop, dLc, dLc2, dYes, dRng1, dRng2, dEnum, dZip, dLam, dNewD, dRaise, dNext, dBrk, dCnt, DS.put, DS.wipe, DS.rest, wipeL, restL, val, slD, vals, frz1, put1, out1, pures, dargs, dback, getM, setM, M.frz, start0, par, dEnds, isRes, itemsD, p2i, addP, subP, mulP, divP, modP, powP, DL.ltP, DL.leP, DL.gtP, DL.geP, eqP, inP, isNP, ixP, lenP, isiP, allP, anyP, intP, listP, tupleP, sortedSP, reprP, slP, revP, negP, findP, countP, joinP, appP, insP, tyD, lenD, dMl, lcountP, isBP, dLSet, dLRg, List.getElem?_cons_zero, List.getElem?_cons_succ, List.set_cons_zero, List.set_cons_succ, List.cons_append, List.nil_append, List.replicate_succ, List.replicate_zero, List.length_cons, List.length_nil, Option.some.injEq, exists_eq_left', exists_eq_left, Wv.pu.injEq, D.sc.injEq, V.bl.injEq, V.int.injEq, V.str.injEq, Nat.reduceSub, Nat.reduceAdd, List.cons.injEq, and_true, true_and, exists_and_left, Option.map_some, if_true, if_false, Bool.false_eq_true, exists_eq_right, ex2a, ex2b, ex2c, D.tup.injEq, D.lst.injEq, M.lst.injEq, eq_self]
  refine ⟨by decide, ?_⟩
  subst hN
  refine seq_o fun N hN => ?_
  simp only [dSet, dRet, dRetN, dIfS, dFor, dIt, dgName, dgNil, dgCons, dgTup, dgLst, dgTxt, dgSet, dVar, dC, dG, dOp, dUn, dCallP, dCons, dNil, dTst, dAnd, dOr, dNot, dAndV, dOrV, dNotV, dIf, dFz, dTup, dLst, dCall, dChain, dSl, dONo, dOSome, dMs, dMi, dAsg, dPar, dDrop, dLc, dLc2, dYes, dRng1, dRng2, dEnum, dZip, dLam, dNewD, dRaise, dNext, dBrk, dCnt, DS.put, DS.wipe, DS.rest, wipeL, restL, val, slD, vals, frz1, put1, out1, pures, dargs, dback, getM, setM, M.frz, start0, par, dEnds, isRes, itemsD, p2i, addP, subP, mulP, divP, modP, powP, DL.ltP, DL.leP, DL.gtP, DL.geP, eqP, inP, isNP, ixP, lenP, isiP, allP, anyP, intP, listP, tupleP, sortedSP, reprP, slP, revP, negP, findP, countP, joinP, appP, insP, tyD, lenD, dMl, lcountP, isBP, dLSet, dLRg, List.getElem?_cons_zero, List.getElem?_cons_succ, List.set_cons_zero, List.set_cons_succ, List.cons_append, List.nil_append, List.replicate_succ, List.replicate_zero, List.length_cons, List.length_nil, Option.some.injEq, exists_eq_left', exists_eq_left, Wv.pu.injEq, D.sc.injEq, V.bl.injEq, V.int.injEq, V.str.injEq, Nat.reduceSub, Nat.reduceAdd, List.cons.injEq, and_true, true_and, exists_and_left, Option.map_some, if_true, if_false, Bool.false_eq_true, exists_eq_right, ex2a, ex2b, ex2c, D.tup.injEq, D.lst.injEq, M.lst.injEq, eq_self]
  have a1 : ∀ xs : List D, odd ∈ xs → areK (.tup xs) = false := fun xs h => areK_no h ho
  refine ⟨⟨_, rfl⟩, by decide, c_rows_kind (a := .tup [odd]) (b := DN') (c := DN') (by rw [List.all_cons, tt _ (by simp) (by rw [List.all_cons, ht]; rfl)]; rfl) (a1 _ (by simp)) (pick_kind Z ?_)⟩
  try simp only [dSet, dRet, dRetN, dIfS, dFor, dIt, dgName, dgNil, dgCons, dgTup, dgLst, dgTxt, dgSet, dVar, dC, dG, dOp, dUn, dCallP, dCons, dNil, dTst, dAnd, dOr, dNot, dAndV, dOrV, dNotV, dIf, dFz, dTup, dLst, dCall, dChain, dSl, dONo, dOSome, dMs, dMi, dAsg, dPar, dDrop, dLc, dLc2, dYes, dRng1, dRng2, dEnum, dZip, dLam, dNewD, dRaise, dNext, dBrk, dCnt, DS.put, DS.wipe, DS.rest, wipeL, restL, val, slD, vals, frz1, put1, out1, pures, dargs, dback, getM, setM, M.frz, start0, par, dEnds, isRes, itemsD, p2i, addP, subP, mulP, divP, modP, powP, DL.ltP, DL.leP, DL.gtP, DL.geP, eqP, inP, isNP, ixP, lenP, isiP, allP, anyP, intP, listP, tupleP, sortedSP, reprP, slP, revP, negP, findP, countP, joinP, appP, insP, tyD, lenD, dMl, lcountP, isBP, dLSet, dLRg, List.getElem?_cons_zero, List.getElem?_cons_succ, List.set_cons_zero, List.set_cons_succ, List.cons_append, List.nil_append, List.replicate_succ, List.replicate_zero, List.length_cons, List.length_nil, Option.some.injEq, exists_eq_left', exists_eq_left, Wv.pu.injEq, D.sc.injEq, V.bl.injEq, V.int.injEq, V.str.injEq, Nat.reduceSub, Nat.reduceAdd, List.cons.injEq, and_true, true_and, exists_and_left, Option.map_some, if_true, if_false, Bool.false_eq_true, exists_eq_right, ex2a, ex2b, ex2c, D.tup.injEq, D.lst.injEq, M.lst.injEq, eq_self]
  refine ⟨by decide, ?_⟩
  subst hN
  refine seq_o fun N hN => ?_
  simp only [dSet, dRet, dRetN, dIfS, dFor, dIt, dgName, dgNil, dgCons, dgTup, dgLst, dgTxt, dgSet, dVar, dC, dG, dOp, dUn, dCallP, dCons, dNil, dTst, dAnd, dOr, dNot, dAndV, dOrV, dNotV, dIf, dFz, dTup, dLst, dCall, dChain, dSl, dONo, dOSome, dMs, dMi, dAsg, dPar, dDrop, dLc, dLc2, dYes, dRng1, dRng2, dEnum, dZip, dLam, dNewD, dRaise, dNext, dBrk, dCnt, DS.put, DS.wipe, DS.rest, wipeL, restL, val, slD, vals, frz1, put1, out1, pures, dargs, dback, getM, setM, M.frz, start0, par, dEnds, isRes, itemsD, p2i, addP, subP, mulP, divP, modP, powP, DL.ltP, DL.leP, DL.gtP, DL.geP, eqP, inP, isNP, ixP, lenP, isiP, allP, anyP, intP, listP, tupleP, sortedSP, reprP, slP, revP, negP, findP, countP, joinP, appP, insP, tyD, lenD, dMl, lcountP, isBP, dLSet, dLRg, List.getElem?_cons_zero, List.getElem?_cons_succ, List.set_cons_zero, List.set_cons_succ, List.cons_append, List.nil_append, List.replicate_succ, List.replicate_zero, List.length_cons, List.length_nil, Option.some.injEq, exists_eq_left', exists_eq_left, Wv.pu.injEq, D.sc.injEq, V.bl.injEq, V.int.injEq, V.str.injEq, Nat.reduceSub, Nat.reduceAdd, List.cons.injEq, and_true, true_and, exists_and_left, Option.map_some, if_true, if_false, Bool.false_eq_true, exists_eq_right, ex2a, ex2b, ex2c, D.tup.injEq, D.lst.injEq, M.lst.injEq, eq_self]
  refine ⟨⟨_, rfl⟩, by decide, c_rows_kind (a := .tup [odd]) (b := DI' 1) (c := DS' "0") (by rw [List.all_cons, tt _ (by simp) (by rw [List.all_cons, ht]; rfl)]; rfl) (a1 _ (by simp)) (pick_kind Z ?_)⟩
  try simp only [dSet, dRet, dRetN, dIfS, dFor, dIt, dgName, dgNil, dgCons, dgTup, dgLst, dgTxt, dgSet, dVar, dC, dG, dOp, dUn, dCallP, dCons, dNil, dTst, dAnd, dOr, dNot, dAndV, dOrV, dNotV, dIf, dFz, dTup, dLst, dCall, dChain, dSl, dONo, dOSome, dMs, dMi, dAsg, dPar, dDrop, dLc, dLc2, dYes, dRng1, dRng2, dEnum, dZip, dLam, dNewD, dRaise, dNext, dBrk, dCnt, DS.put, DS.wipe, DS.rest, wipeL, restL, val, slD, vals, frz1, put1, out1, pures, dargs, dback, getM, setM, M.frz, start0, par, dEnds, isRes, itemsD, p2i, addP, subP, mulP, divP, modP, powP, DL.ltP, DL.leP, DL.gtP, DL.geP, eqP, inP, isNP, ixP, lenP, isiP, allP, anyP, intP, listP, tupleP, sortedSP, reprP, slP, revP, negP, findP, countP, joinP, appP, insP, tyD, lenD, dMl, lcountP, isBP, dLSet, dLRg, List.getElem?_cons_zero, List.getElem?_cons_succ, List.set_cons_zero, List.set_cons_succ, List.cons_append, List.nil_append, List.replicate_succ, List.replicate_zero, List.length_cons, List.length_nil, Option.some.injEq, exists_eq_left', exists_eq_left, Wv.pu.injEq, D.sc.injEq, V.bl.injEq, V.int.injEq, V.str.injEq, Nat.reduceSub, Nat.reduceAdd, List.cons.injEq, and_true, true_and, exists_and_left, Option.map_some, if_true, if_false, Bool.false_eq_true, exists_eq_right, ex2a, ex2b, ex2c, D.tup.injEq, D.lst.injEq, M.lst.injEq, eq_self]
  refine ⟨by decide, ?_⟩
  subst hN
  refine seq_o fun N hN => ?_
  simp only [dSet, dRet, dRetN, dIfS, dFor, dIt, dgName, dgNil, dgCons, dgTup, dgLst, dgTxt, dgSet, dVar, dC, dG, dOp, dUn, dCallP, dCons, dNil, dTst, dAnd, dOr, dNot, dAndV, dOrV, dNotV, dIf, dFz, dTup, dLst, dCall, dChain, dSl, dONo, dOSome, dMs, dMi, dAsg, dPar, dDrop, dLc, dLc2, dYes, dRng1, dRng2, dEnum, dZip, dLam, dNewD, dRaise, dNext, dBrk, dCnt, DS.put, DS.wipe, DS.rest, wipeL, restL, val, slD, vals, frz1, put1, out1, pures, dargs, dback, getM, setM, M.frz, start0, par, dEnds, isRes, itemsD, p2i, subP, mulP, divP, modP, powP, DL.ltP, DL.leP, DL.gtP, DL.geP, eqP, inP, isNP, ixP, lenP, isiP, allP, anyP, intP, listP, tupleP, sortedSP, reprP, revP, negP, findP, countP, joinP, appP, insP, tyD, lenD, dMl, lcountP, isBP, dLSet, dLRg, List.getElem?_cons_zero, List.getElem?_cons_succ, List.set_cons_zero, List.set_cons_succ, List.cons_append, List.nil_append, List.replicate_succ, List.replicate_zero, List.length_cons, List.length_nil, Option.some.injEq, exists_eq_left', exists_eq_left, Wv.pu.injEq, D.sc.injEq, V.bl.injEq, V.int.injEq, V.str.injEq, Nat.reduceSub, Nat.reduceAdd, List.cons.injEq, and_true, true_and, exists_and_left, Option.map_some, if_true, if_false, Bool.false_eq_true, exists_eq_right, ex2a, ex2b, ex2c, D.tup.injEq, D.lst.injEq, M.lst.injEq, eq_self]
  simp only [slP]
  refine ⟨⟨_, rfl⟩, by decide, ?_⟩
  simp only [exists_eq_left', Option.some.injEq]
  simp only [addP]
  refine ⟨small_sl (by simp only [List.length_append, List.length_cons, List.length_nil] at *; omega), ?_⟩
  simp only [dSet, dRet, dRetN, dIfS, dFor, dIt, dgName, dgNil, dgCons, dgTup, dgLst, dgTxt, dgSet, dVar, dC, dG, dOp, dUn, dCallP, dCons, dNil, dTst, dAnd, dOr, dNot, dAndV, dOrV, dNotV, dIf, dFz, dTup, dLst, dCall, dChain, dSl, dONo, dOSome, dMs, dMi, dAsg, dPar, dDrop, dLc, dLc2, dYes, dRng1, dRng2, dEnum, dZip, dLam, dNewD, dRaise, dNext, dBrk, dCnt, DS.put, DS.wipe, DS.rest, wipeL, restL, val, slD, vals, frz1, put1, out1, pures, dargs, dback, getM, setM, M.frz, start0, par, dEnds, isRes, itemsD, p2i, addP, subP, mulP, divP, modP, powP, DL.ltP, DL.leP, DL.gtP, DL.geP, eqP, inP, isNP, ixP, lenP, isiP, allP, anyP, intP, listP, tupleP, sortedSP, reprP, slP, revP, negP, findP, countP, joinP, appP, insP, tyD, lenD, dMl, lcountP, isBP, dLSet, dLRg, List.getElem?_cons_zero, List.getElem?_cons_succ, List.set_cons_zero, List.set_cons_succ, List.cons_append, List.nil_append, List.replicate_succ, List.replicate_zero, List.length_cons, List.length_nil, Option.some.injEq, exists_eq_left', exists_eq_left, Wv.pu.injEq, D.sc.injEq, V.bl.injEq, V.int.injEq, V.str.injEq, Nat.reduceSub, Nat.reduceAdd, List.cons.injEq, and_true, true_and, exists_and_left, Option.map_some, if_true, if_false, Bool.false_eq_true, exists_eq_right, ex2a, ex2b, ex2c, D.tup.injEq, D.lst.injEq, M.lst.injEq, eq_self]
  refine c_rows_kind (a := .tup (cutL (ks.map fun k => DS' k) (some 1) none ++ [odd])) (b := DI' 1) (c := DS' z) (by rw [List.all_cons, tt _ (by simp only [List.length_append, List.length_cons, List.length_nil]; omega) (by rw [List.all_append, ca, List.all_cons, ht]; rfl)]; simp [tzK]; rfl) (a1 _ (by simp)) (pick_kind Z ?_)
  try simp only [dSet, dRet, dRetN, dIfS, dFor, dIt, dgName, dgNil, dgCons, dgTup, dgLst, dgTxt, dgSet, dVar, dC, dG, dOp, dUn, dCallP, dCons, dNil, dTst, dAnd, dOr, dNot, dAndV, dOrV, dNotV, dIf, dFz, dTup, dLst, dCall, dChain, dSl, dONo, dOSome, dMs, dMi, dAsg, dPar, dDrop, dLc, dLc2, dYes, dRng1, dRng2, dEnum, dZip, dLam, dNewD, dRaise, dNext, dBrk, dCnt, DS.put, DS.wipe, DS.rest, wipeL, restL, val, slD, vals, frz1, put1, out1, pures, dargs, dback, getM, setM, M.frz, start0, par, dEnds, isRes, itemsD, p2i, addP, subP, mulP, divP, modP, powP, DL.ltP, DL.leP, DL.gtP, DL.geP, eqP, inP, isNP, ixP, lenP, isiP, allP, anyP, intP, listP, tupleP, sortedSP, reprP, slP, revP, negP, findP, countP, joinP, appP, insP, tyD, lenD, dMl, lcountP, isBP, dLSet, dLRg, List.getElem?_cons_zero, List.getElem?_cons_succ, List.set_cons_zero, List.set_cons_succ, List.cons_append, List.nil_append, List.replicate_succ, List.replicate_zero, List.length_cons, List.length_nil, Option.some.injEq, exists_eq_left', exists_eq_left, Wv.pu.injEq, D.sc.injEq, V.bl.injEq, V.int.injEq, V.str.injEq, Nat.reduceSub, Nat.reduceAdd, List.cons.injEq, and_true, true_and, exists_and_left, Option.map_some, if_true, if_false, Bool.false_eq_true, exists_eq_right, ex2a, ex2b, ex2c, D.tup.injEq, D.lst.injEq, M.lst.injEq, eq_self]
  refine ⟨by decide, ?_⟩
  subst hN
  refine seq_o fun N hN => ?_
  simp only [dSet, dRet, dRetN, dIfS, dFor, dIt, dgName, dgNil, dgCons, dgTup, dgLst, dgTxt, dgSet, dVar, dC, dG, dOp, dUn, dCallP, dCons, dNil, dTst, dAnd, dOr, dNot, dAndV, dOrV, dNotV, dIf, dFz, dTup, dLst, dCall, dChain, dSl, dONo, dOSome, dMs, dMi, dAsg, dPar, dDrop, dLc, dLc2, dYes, dRng1, dRng2, dEnum, dZip, dLam, dNewD, dRaise, dNext, dBrk, dCnt, DS.put, DS.wipe, DS.rest, wipeL, restL, val, slD, vals, frz1, put1, out1, pures, dargs, dback, getM, setM, M.frz, start0, par, dEnds, isRes, itemsD, p2i, subP, mulP, divP, modP, powP, DL.ltP, DL.leP, DL.gtP, DL.geP, eqP, inP, isNP, ixP, lenP, isiP, allP, anyP, intP, listP, tupleP, sortedSP, reprP, revP, negP, findP, countP, joinP, appP, insP, tyD, lenD, dMl, lcountP, isBP, dLSet, dLRg, List.getElem?_cons_zero, List.getElem?_cons_succ, List.set_cons_zero, List.set_cons_succ, List.cons_append, List.nil_append, List.replicate_succ, List.replicate_zero, List.length_cons, List.length_nil, Option.some.injEq, exists_eq_left', exists_eq_left, Wv.pu.injEq, D.sc.injEq, V.bl.injEq, V.int.injEq, V.str.injEq, Nat.reduceSub, Nat.reduceAdd, List.cons.injEq, and_true, true_and, exists_and_left, Option.map_some, if_true, if_false, Bool.false_eq_true, exists_eq_right, ex2a, ex2b, ex2c, D.tup.injEq, D.lst.injEq, M.lst.injEq, eq_self]
  refine ⟨⟨_, rfl⟩, by decide, ?_⟩
  simp only [slP]
  simp only [exists_eq_left', Option.some.injEq]
  simp only [addP]
  refine ⟨small_sl (by simp only [List.length_append, List.length_cons, List.length_nil] at *; omega), ?_⟩
  simp only [dSet, dRet, dRetN, dIfS, dFor, dIt, dgName, dgNil, dgCons, dgTup, dgLst, dgTxt, dgSet, dVar, dC, dG, dOp, dUn, dCallP, dCons, dNil, dTst, dAnd, dOr, dNot, dAndV, dOrV, dNotV, dIf, dFz, dTup, dLst, dCall, dChain, dSl, dONo, dOSome, dMs, dMi, dAsg, dPar, dDrop, dLc, dLc2, dYes, dRng1, dRng2, dEnum, dZip, dLam, dNewD, dRaise, dNext, dBrk, dCnt, DS.put, DS.wipe, DS.rest, wipeL, restL, val, slD, vals, frz1, put1, out1, pures, dargs, dback, getM, setM, M.frz, start0, par, dEnds, isRes, itemsD, p2i, addP, subP, mulP, divP, modP, powP, DL.ltP, DL.leP, DL.gtP, DL.geP, eqP, inP, isNP, ixP, lenP, isiP, allP, anyP, intP, listP, tupleP, sortedSP, reprP, slP, revP, negP, findP, countP, joinP, appP, insP, tyD, lenD, dMl, lcountP, isBP, dLSet, dLRg, List.getElem?_cons_zero, List.getElem?_cons_succ, List.set_cons_zero, List.set_cons_succ, List.cons_append, List.nil_append, List.replicate_succ, List.replicate_zero, List.length_cons, List.length_nil, Option.some.injEq, exists_eq_left', exists_eq_left, Wv.pu.injEq, D.sc.injEq, V.bl.injEq, V.int.injEq, V.str.injEq, Nat.reduceSub, Nat.reduceAdd, List.cons.injEq, and_true, true_and, exists_and_left, Option.map_some, if_true, if_false, Bool.false_eq_true, exists_eq_right, ex2a, ex2b, ex2c, D.tup.injEq, D.lst.injEq, M.lst.injEq, eq_self]
  refine c_rows_kind (a := .tup (odd :: cutL (ks.map fun k => DS' k) (some 1) none)) (b := DI' 1) (c := DS' z) (by rw [List.all_cons, tt _ (by simp only [List.length_cons]; omega) (by rw [List.all_cons, ca, ht]; rfl)]; simp [tzK]; rfl) (a1 _ (by simp)) (pick_kind Z ?_)
  try simp only [dSet, dRet, dRetN, dIfS, dFor, dIt, dgName, dgNil, dgCons, dgTup, dgLst, dgTxt, dgSet, dVar, dC, dG, dOp, dUn, dCallP, dCons, dNil, dTst, dAnd, dOr, dNot, dAndV, dOrV, dNotV, dIf, dFz, dTup, dLst, dCall, dChain, dSl, dONo, dOSome, dMs, dMi, dAsg, dPar, dDrop, dLc, dLc2, dYes, dRng1, dRng2, dEnum, dZip, dLam, dNewD, dRaise, dNext, dBrk, dCnt, DS.put, DS.wipe, DS.rest, wipeL, restL, val, slD, vals, frz1, put1, out1, pures, dargs, dback, getM, setM, M.frz, start0, par, dEnds, isRes, itemsD, p2i, addP, subP, mulP, divP, modP, powP, DL.ltP, DL.leP, DL.gtP, DL.geP, eqP, inP, isNP, ixP, lenP, isiP, allP, anyP, intP, listP, tupleP, sortedSP, reprP, slP, revP, negP, findP, countP, joinP, appP, insP, tyD, lenD, dMl, lcountP, isBP, dLSet, dLRg, List.getElem?_cons_zero, List.getElem?_cons_succ, List.set_cons_zero, List.set_cons_succ, List.cons_append, List.nil_append, List.replicate_succ, List.replicate_zero, List.length_cons, List.length_nil, Option.some.injEq, exists_eq_left', exists_eq_left, Wv.pu.injEq, D.sc.injEq, V.bl.injEq, V.int.injEq, V.str.injEq, Nat.reduceSub, Nat.reduceAdd, List.cons.injEq, and_true, true_and, exists_and_left, Option.map_some, if_true, if_false, Bool.false_eq_true, exists_eq_right, ex2a, ex2b, ex2c, D.tup.injEq, D.lst.injEq, M.lst.injEq, eq_self]
  refine ⟨by decide, ?_⟩
  subst hN
  refine seq_o fun N hN => ?_
  simp only [dSet, dRet, dRetN, dIfS, dFor, dIt, dgName, dgNil, dgCons, dgTup, dgLst, dgTxt, dgSet, dVar, dC, dG, dOp, dUn, dCallP, dCons, dNil, dTst, dAnd, dOr, dNot, dAndV, dOrV, dNotV, dIf, dFz, dTup, dLst, dCall, dChain, dSl, dONo, dOSome, dMs, dMi, dAsg, dPar, dDrop, dLc, dLc2, dYes, dRng1, dRng2, dEnum, dZip, dLam, dNewD, dRaise, dNext, dBrk, dCnt, DS.put, DS.wipe, DS.rest, wipeL, restL, val, slD, vals, frz1, put1, out1, pures, dargs, dback, getM, setM, M.frz, start0, par, dEnds, isRes, itemsD, p2i, addP, subP, mulP, divP, modP, powP, DL.ltP, DL.leP, DL.gtP, DL.geP, eqP, inP, isNP, ixP, lenP, isiP, allP, anyP, intP, listP, tupleP, sortedSP, reprP, slP, revP, negP, findP, countP, joinP, appP, insP, tyD, lenD, dMl, lcountP, isBP, dLSet, dLRg, List.getElem?_cons_zero, List.getElem?_cons_succ, List.set_cons_zero, List.set_cons_succ, List.cons_append, List.nil_append, List.replicate_succ, List.replicate_zero, List.length_cons, List.length_nil, Option.some.injEq, exists_eq_left', exists_eq_left, Wv.pu.injEq, D.sc.injEq, V.bl.injEq, V.int.injEq, V.str.injEq, Nat.reduceSub, Nat.reduceAdd, List.cons.injEq, and_true, true_and, exists_and_left, Option.map_some, if_true, if_false, Bool.false_eq_true, exists_eq_right, ex2a, ex2b, ex2c, D.tup.injEq, D.lst.injEq, M.lst.injEq, eq_self]
  refine ⟨⟨_, rfl⟩, by decide, c_rows_kind (a := .tup [DS' "low", odd, DS' "low"]) (b := DI' 1) (c := DS' "000") (by rw [List.all_cons, tt _ (by simp) (by rw [List.all_cons, List.all_cons, ht]; rfl)]; rfl) (a1 _ (by simp)) (pick_kind Z ?_)⟩
  try simp only [dSet, dRet, dRetN, dIfS, dFor, dIt, dgName, dgNil, dgCons, dgTup, dgLst, dgTxt, dgSet, dVar, dC, dG, dOp, dUn, dCallP, dCons, dNil, dTst, dAnd, dOr, dNot, dAndV, dOrV, dNotV, dIf, dFz, dTup, dLst, dCall, dChain, dSl, dONo, dOSome, dMs, dMi, dAsg, dPar, dDrop, dLc, dLc2, dYes, dRng1, dRng2, dEnum, dZip, dLam, dNewD, dRaise, dNext, dBrk, dCnt, DS.put, DS.wipe, DS.rest, wipeL, restL, val, slD, vals, frz1, put1, out1, pures, dargs, dback, getM, setM, M.frz, start0, par, dEnds, isRes, itemsD, p2i, addP, subP, mulP, divP, modP, powP, DL.ltP, DL.leP, DL.gtP, DL.geP, eqP, inP, isNP, ixP, lenP, isiP, allP, anyP, intP, listP, tupleP, sortedSP, reprP, slP, revP, negP, findP, countP, joinP, appP, insP, tyD, lenD, dMl, lcountP, isBP, dLSet, dLRg, List.getElem?_cons_zero, List.getElem?_cons_succ, List.set_cons_zero, List.set_cons_succ, List.cons_append, List.nil_append, List.replicate_succ, List.replicate_zero, List.length_cons, List.length_nil, Option.some.injEq, exists_eq_left', exists_eq_left, Wv.pu.injEq, D.sc.injEq, V.bl.injEq, V.int.injEq, V.str.injEq, Nat.reduceSub, Nat.reduceAdd, List.cons.injEq, and_true, true_and, exists_and_left, Option.map_some, if_true, if_false, Bool.false_eq_true, exists_eq_right, ex2a, ex2b, ex2c, D.tup.injEq, D.lst.injEq, M.lst.injEq, eq_self]
  refine ⟨by decide, ?_⟩
  subst hN
  simp only [dSet, dRet, dRetN, dIfS, dFor, dIt, dgName, dgNil, dgCons, dgTup, dgLst, dgTxt, dgSet, dVar, dC, dG, dOp, dUn, dCallP, dCons, dNil, dTst, dAnd, dOr, dNot, dAndV, dOrV, dNotV, dIf, dFz, dTup, dLst, dCall, dChain, dSl, dONo, dOSome, dMs, dMi, dAsg, dPar, dDrop, dLc, dLc2, dYes, dRng1, dRng2, dEnum, dZip, dLam, dNewD, dRaise, dNext, dBrk, dCnt, DS.put, DS.wipe, DS.rest, wipeL, restL, val, slD, vals, frz1, put1, out1, pures, dargs, dback, getM, setM, M.frz, start0, par, dEnds, isRes, itemsD, p2i, addP, subP, mulP, divP, modP, powP, DL.ltP, DL.leP, DL.gtP, DL.geP, eqP, inP, isNP, ixP, lenP, isiP, allP, anyP, intP, listP, tupleP, sortedSP, reprP, slP, revP, negP, findP, countP, joinP, appP, insP, tyD, lenD, dMl, lcountP, isBP, dLSet, dLRg, List.getElem?_cons_zero, List.getElem?_cons_succ, List.set_cons_zero, List.set_cons_succ, List.cons_append, List.nil_append, List.replicate_succ, List.replicate_zero, List.length_cons, List.length_nil, Option.some.injEq, exists_eq_left', exists_eq_left, Wv.pu.injEq, D.sc.injEq, V.bl.injEq, V.int.injEq, V.str.injEq, Nat.reduceSub, Nat.reduceAdd, List.cons.injEq, and_true, true_and, exists_and_left, Option.map_some, if_true, if_false, Bool.false_eq_true, exists_eq_right, ex2a, ex2b, ex2c, D.tup.injEq, D.lst.injEq, M.lst.injEq, eq_self]
  refine ⟨by decide, by decide, _, rfl, _, rfl, ⟨by decide +kernel, by decide +kernel⟩, ?_⟩
  rw [if_neg (by decide +kernel)]
  exact g _
theorem rr_two (Z : Fx K mg) {ks z' : D} {r : Wv} {odd : D} {fnd : Option Wv} {an : List Wv} {E : DEnds} (ho : isBitD odd = false) (ht : thingB odd = true)
    (g : E.nx ⟨[some (.pu ks), some r, some (.pu z'), some (.pu odd), fnd], an⟩) :
    dSeq (dIfS (dTst (dOp (eqP true) (dLam K (clw__law_word K) "none" (dCall ((sp_reads K)) (dCons (dC (.str "low")) (dCons (dFz (dVar 3)) (dCons (dC (.int 1)) (dNil)))))) (dC (.str "kind")))) (dRet (dC (.bl false))) (dNext))
  (dIfS (dTst (dOp (eqP true) (dLam K (clw__law_word K) "none" (dCall ((sp_reads K)) (dCons (dC (.str "low")) (dCons (dFz (dVar 3)) (dCons (dC .non) (dNil)))))) (dC (.str "kind")))) (dRet (dC (.bl false))) (dNext)) E ⟨[some (.pu ks), some r, some (.pu z'), some (.pu odd), fnd], an⟩ := by
  refine seq_o fun N hN => ?_
  simp only [dSet, dRet, dRetN, dIfS, dFor, dIt, dgName, dgNil, dgCons, dgTup, dgLst, dgTxt, dgSet, dVar, dC, dG, dOp, dUn, dCallP, dCons, dNil, dTst, dAnd, dOr, dNot, dAndV, dOrV, dNotV, dIf, dFz, dTup, dLst, dCall, dChain, dSl, dONo, dOSome, dMs, dMi, dAsg, dPar, dDrop, dLc, dLc2, dYes, dRng1, dRng2, dEnum, dZip, dLam, dNewD, dRaise, dNext, dBrk, dCnt, DS.put, DS.wipe, DS.rest, wipeL, restL, val, slD, vals, frz1, put1, out1, pures, dargs, dback, getM, setM, M.frz, start0, par, dEnds, isRes, itemsD, p2i, addP, subP, mulP, divP, modP, powP, DL.ltP, DL.leP, DL.gtP, DL.geP, eqP, inP, isNP, ixP, lenP, isiP, allP, anyP, intP, listP, tupleP, sortedSP, reprP, slP, revP, negP, findP, countP, joinP, appP, insP, tyD, lenD, dMl, lcountP, isBP, dLSet, dLRg, List.getElem?_cons_zero, List.getElem?_cons_succ, List.set_cons_zero, List.set_cons_succ, List.cons_append, List.nil_append, List.replicate_succ, List.replicate_zero, List.length_cons, List.length_nil, Option.some.injEq, exists_eq_left', exists_eq_left, Wv.pu.injEq, D.sc.injEq, V.bl.injEq, V.int.injEq, V.str.injEq, Nat.reduceSub, Nat.reduceAdd, List.cons.injEq, and_true, true_and, exists_and_left, Option.map_some, if_true, if_false, Bool.false_eq_true, exists_eq_right, ex2a, ex2b, ex2c, D.tup.injEq, D.lst.injEq, M.lst.injEq, eq_self]
  refine c_reads_bit (a := DS' "low") (b := odd) (c := DI' 1) (by rw [List.all_cons, List.all_cons, ht]; rfl) ho (pick_kind Z ?_)
  refine ⟨rfl, ?_⟩
  rw [if_neg (by decide +kernel)]
  subst hN
  simp only [dSet, dRet, dRetN, dIfS, dFor, dIt, dgName, dgNil, dgCons, dgTup, dgLst, dgTxt, dgSet, dVar, dC, dG, dOp, dUn, dCallP, dCons, dNil, dTst, dAnd, dOr, dNot, dAndV, dOrV, dNotV, dIf, dFz, dTup, dLst, dCall, dChain, dSl, dONo, dOSome, dMs, dMi, dAsg, dPar, dDrop, dLc, dLc2, dYes, dRng1, dRng2, dEnum, dZip, dLam, dNewD, dRaise, dNext, dBrk, dCnt, DS.put, DS.wipe, DS.rest, wipeL, restL, val, slD, vals, frz1, put1, out1, pures, dargs, dback, getM, setM, M.frz, start0, par, dEnds, isRes, itemsD, p2i, addP, subP, mulP, divP, modP, powP, DL.ltP, DL.leP, DL.gtP, DL.geP, eqP, inP, isNP, ixP, lenP, isiP, allP, anyP, intP, listP, tupleP, sortedSP, reprP, slP, revP, negP, findP, countP, joinP, appP, insP, tyD, lenD, dMl, lcountP, isBP, dLSet, dLRg, List.getElem?_cons_zero, List.getElem?_cons_succ, List.set_cons_zero, List.set_cons_succ, List.cons_append, List.nil_append, List.replicate_succ, List.replicate_zero, List.length_cons, List.length_nil, Option.some.injEq, exists_eq_left', exists_eq_left, Wv.pu.injEq, D.sc.injEq, V.bl.injEq, V.int.injEq, V.str.injEq, Nat.reduceSub, Nat.reduceAdd, List.cons.injEq, and_true, true_and, exists_and_left, Option.map_some, if_true, if_false, Bool.false_eq_true, exists_eq_right, ex2a, ex2b, ex2c, D.tup.injEq, D.lst.injEq, M.lst.injEq, eq_self]
  refine c_reads_bit (a := DS' "low") (b := odd) (c := DN') (by rw [List.all_cons, List.all_cons, ht]; rfl) ho (pick_kind Z ?_)
  refine ⟨rfl, ?_⟩
  rw [if_neg (by decide +kernel)]
  exact g
end
end Lw

/-! text RM -/
set_option Elab.async false
set_option linter.all false
set_option maxRecDepth 100000
set_option maxHeartbeats 4000000
namespace Lw
open PySem PySem.Spec PyProof.Rows L2 DL
section
variable {P : Program} {w : World} {base : Heap} {K : PySem.W.Frag} {ws : List Wv} {Q : Wv → List Wv → Prop} {Y : Value → List Wv → Prop} {mg : Str → Option Value}
theorem for_a {ti : DTI} {gt : DTG} {tb : DTS} {D : DEnds} {δ : DS} (h : ∀ T, T = tb → dFor ti gt T D δ) : dFor ti gt tb D δ := h _ rfl
theorem isBit_in {c : Nat} (h : isBit (sign c) = true) : c ∈ ("01?" : Str).cps.toList := by
  simp only [isBit, Bool.or_eq_true, beq_iff_eq] at h
  have key : ∀ d : Nat, sign c = sign d → c = d := fun d e => by
    have := congrArg one? e
    rw [one?_sign, one?_sign] at this
    exact Option.some.inj this
  rcases h with h | h | h
  · rw [key 48 h]; decide
  · rw [key 49 h]; decide
  · rw [key 63 h]; decide
theorem r__law_refused_right (Z : Fx K mg) (h : sp__law_refused_right K ws Q Y) : t__law_refused_right K (dEnds Q Y) (start0 N__law_refused_right ws) := by
  obtain ⟨ds, e, hl, ⟨ks, r, z, rfl, hk, h1, h3, hz, hb, r1, r3⟩, q⟩ := h
  have := pures_len e
  subst this
  have q := q.2
  simp only [List.map_cons, List.map_nil] at q ⊢
  have zl : z.length ≤ 3 := by omega
  have ka := kt_areK hk h1 h3
  have kT : thingKB (kt ks) = true := by
    have := kt_things hk
    simp only [thingKB, this, Bool.and_true, Bool.and_eq_true, decide_eq_true_eq, List.length_map]
    exact ⟨rfl, by omega⟩
  have rR : isRD (DI' r) = true := by simp [isRD]; omega
  unfold t__law_refused_right
  refine seq_o fun N hN => ?_
  refine for_a fun T hT => ?_
  simp only [N__law_refused_right, dSet, dRet, dRetN, dIfS, dFor, dIt, dgName, dgNil, dgCons, dgTup, dgLst, dgTxt, dgSet, dVar, dC, dG, dOp, dUn, dCallP, dCons, dNil, dTst, dAnd, dOr, dNot, dAndV, dOrV, dNotV, dIf, dFz, dTup, dLst, dCall, dChain, dSl, dONo, dOSome, dMs, dMi, dAsg, dPar, dDrop, dLc, dLc2, dYes, dRng1, dRng2, dEnum, dZip, dLam, dNewD, dRaise, dNext, dBrk, dCnt, DS.put, DS.wipe, DS.rest, wipeL, restL, val, slD, vals, frz1, put1, out1, pures, dargs, dback, getM, setM, M.frz, start0, par, dEnds, isRes, itemsD, p2i, addP, subP, mulP, divP, modP, powP, DL.ltP, DL.leP, DL.gtP, DL.geP, eqP, inP, isNP, ixP, lenP, isiP, allP, anyP, intP, listP, tupleP, sortedSP, reprP, slP, revP, negP, findP, countP, joinP, appP, insP, tyD, lenD, dMl, lcountP, isBP, dLSet, dLRg, List.getElem?_cons_zero, List.getElem?_cons_succ, List.set_cons_zero, List.set_cons_succ, List.cons_append, List.nil_append, List.replicate_succ, List.replicate_zero, List.length_cons, List.length_nil, Option.some.injEq, exists_eq_left', exists_eq_left, Wv.pu.injEq, D.sc.injEq, V.bl.injEq, V.int.injEq, V.str.injEq, Nat.reduceSub, Nat.reduceAdd, List.cons.injEq, and_true, true_and, exists_and_left, Option.map_some, if_true, if_false, Bool.false_eq_true, exists_eq_right, ex2a, ex2b, ex2c, D.tup.injEq, D.lst.injEq, M.lst.injEq, eq_self]
  refine ⟨by decide, by decide, by decide, ?_⟩
  refine for_i (fun j δ => ∃ x y, δ = ⟨[some (.pu (kt ks)), some (.pu (DI' r)), some (.pu (DS' z)), x, y], [.pu (kt ks), .pu (DI' r), .pu (DS' z)]⟩) ⟨none, none, rfl⟩ (fun j d δ K' hd hI k => ?_) (fun δ hI => ?_)
  · obtain ⟨x, y, rfl⟩ := hI
    have hp := all_at (p := fun d => !isKD d && thingB d) (by decide +kernel) hd
    simp only [Bool.and_eq_true, Bool.not_eq_true'] at hp
    simp only [dSet, dRet, dRetN, dIfS, dFor, dIt, dgName, dgNil, dgCons, dgTup, dgLst, dgTxt, dgSet, dVar, dC, dG, dOp, dUn, dCallP, dCons, dNil, dTst, dAnd, dOr, dNot, dAndV, dOrV, dNotV, dIf, dFz, dTup, dLst, dCall, dChain, dSl, dONo, dOSome, dMs, dMi, dAsg, dPar, dDrop, dLc, dLc2, dYes, dRng1, dRng2, dEnum, dZip, dLam, dNewD, dRaise, dNext, dBrk, dCnt, DS.put, DS.wipe, DS.rest, wipeL, restL, val, slD, vals, frz1, put1, out1, pures, dargs, dback, getM, setM, M.frz, start0, par, dEnds, isRes, itemsD, p2i, addP, subP, mulP, divP, modP, powP, DL.ltP, DL.leP, DL.gtP, DL.geP, eqP, inP, isNP, ixP, lenP, isiP, allP, anyP, intP, listP, tupleP, sortedSP, reprP, slP, revP, negP, findP, countP, joinP, appP, insP, tyD, lenD, dMl, lcountP, isBP, dLSet, dLRg, List.getElem?_cons_zero, List.getElem?_cons_succ, List.set_cons_zero, List.set_cons_succ, List.cons_append, List.nil_append, List.replicate_succ, List.replicate_zero, List.length_cons, List.length_nil, Option.some.injEq, exists_eq_left', exists_eq_left, Wv.pu.injEq, D.sc.injEq, V.bl.injEq, V.int.injEq, V.str.injEq, Nat.reduceSub, Nat.reduceAdd, List.cons.injEq, and_true, true_and, exists_and_left, Option.map_some, if_true, if_false, Bool.false_eq_true, exists_eq_right, ex2a, ex2b, ex2c, D.tup.injEq, D.lst.injEq, M.lst.injEq, eq_self]
    rw [hT]
    exact rr_one Z hk h3 zl hp.1 hp.2 fun w => k _ ⟨_, _, rfl⟩
  obtain ⟨x, y, rfl⟩ := hI
  clear hT T
  show N _
  rw [hN]
  clear hN N
  refine seq_o fun N hN => ?_
  refine for_a fun T hT => ?_
  simp only [dSet, dRet, dRetN, dIfS, dFor, dIt, dgName, dgNil, dgCons, dgTup, dgLst, dgTxt, dgSet, dVar, dC, dG, dOp, dUn, dCallP, dCons, dNil, dTst, dAnd, dOr, dNot, dAndV, dOrV, dNotV, dIf, dFz, dTup, dLst, dCall, dChain, dSl, dONo, dOSome, dMs, dMi, dAsg, dPar, dDrop, dLc, dLc2, dYes, dRng1, dRng2, dEnum, dZip, dLam, dNewD, dRaise, dNext, dBrk, dCnt, DS.put, DS.wipe, DS.rest, wipeL, restL, val, slD, vals, frz1, put1, out1, pures, dargs, dback, getM, setM, M.frz, start0, par, dEnds, isRes, itemsD, p2i, addP, subP, mulP, divP, modP, powP, DL.ltP, DL.leP, DL.gtP, DL.geP, eqP, inP, isNP, ixP, lenP, isiP, allP, anyP, intP, listP, tupleP, sortedSP, reprP, slP, revP, negP, findP, countP, joinP, appP, insP, tyD, lenD, dMl, lcountP, isBP, dLSet, dLRg, List.getElem?_cons_zero, List.getElem?_cons_succ, List.set_cons_zero, List.set_cons_succ, List.cons_append, List.nil_append, List.replicate_succ, List.replicate_zero, List.length_cons, List.length_nil, Option.some.injEq, exists_eq_left', exists_eq_left, Wv.pu.injEq, D.sc.injEq, V.bl.injEq, V.int.injEq, V.str.injEq, Nat.reduceSub, Nat.reduceAdd, List.cons.injEq, and_true, true_and, exists_and_left, Option.map_some, if_true, if_false, Bool.false_eq_true, exists_eq_right, ex2a, ex2b, ex2c, D.tup.injEq, D.lst.injEq, M.lst.injEq, eq_self]
  refine ⟨by decide, by decide, ?_⟩
  refine for_i (fun j δ => ∃ x y, δ = ⟨[some (.pu (kt ks)), some (.pu (DI' r)), some (.pu (DS' z)), x, y], [.pu (kt ks), .pu (DI' r), .pu (DS' z)]⟩) ⟨x, y, rfl⟩ (fun j d δ K' hd hI k => ?_) (fun δ hI => ?_)
  · obtain ⟨x, y, rfl⟩ := hI
    have hp := all_at (p := fun d => !isBitD d && thingB d) (by decide +kernel) hd
    simp only [Bool.and_eq_true, Bool.not_eq_true'] at hp
    simp only [dSet, dRet, dRetN, dIfS, dFor, dIt, dgName, dgNil, dgCons, dgTup, dgLst, dgTxt, dgSet, dVar, dC, dG, dOp, dUn, dCallP, dCons, dNil, dTst, dAnd, dOr, dNot, dAndV, dOrV, dNotV, dIf, dFz, dTup, dLst, dCall, dChain, dSl, dONo, dOSome, dMs, dMi, dAsg, dPar, dDrop, dLc, dLc2, dYes, dRng1, dRng2, dEnum, dZip, dLam, dNewD, dRaise, dNext, dBrk, dCnt, DS.put, DS.wipe, DS.rest, wipeL, restL, val, slD, vals, frz1, put1, out1, pures, dargs, dback, getM, setM, M.frz, start0, par, dEnds, isRes, itemsD, p2i, addP, subP, mulP, divP, modP, powP, DL.ltP, DL.leP, DL.gtP, DL.geP, eqP, inP, isNP, ixP, lenP, isiP, allP, anyP, intP, listP, tupleP, sortedSP, reprP, slP, revP, negP, findP, countP, joinP, appP, insP, tyD, lenD, dMl, lcountP, isBP, dLSet, dLRg, List.getElem?_cons_zero, List.getElem?_cons_succ, List.set_cons_zero, List.set_cons_succ, List.cons_append, List.nil_append, List.replicate_succ, List.replicate_zero, List.length_cons, List.length_nil, Option.some.injEq, exists_eq_left', exists_eq_left, Wv.pu.injEq, D.sc.injEq, V.bl.injEq, V.int.injEq, V.str.injEq, Nat.reduceSub, Nat.reduceAdd, List.cons.injEq, and_true, true_and, exists_and_left, Option.map_some, if_true, if_false, Bool.false_eq_true, exists_eq_right, ex2a, ex2b, ex2c, D.tup.injEq, D.lst.injEq, M.lst.injEq, eq_self]
    rw [hT]
    exact rr_two Z hp.1 hp.2 (k _ ⟨_, _, rfl⟩)
  obtain ⟨x, y, rfl⟩ := hI
  clear hT T
  show N _
  rw [hN]
  clear hN N
  refine seq_o fun N hN => ?_
  refine for_a fun T hT => ?_
  simp only [dSet, dRet, dRetN, dIfS, dFor, dIt, dgName, dgNil, dgCons, dgTup, dgLst, dgTxt, dgSet, dVar, dC, dG, dOp, dUn, dCallP, dCons, dNil, dTst, dAnd, dOr, dNot, dAndV, dOrV, dNotV, dIf, dFz, dTup, dLst, dCall, dChain, dSl, dONo, dOSome, dMs, dMi, dAsg, dPar, dDrop, dLc, dLc2, dYes, dRng1, dRng2, dEnum, dZip, dLam, dNewD, dRaise, dNext, dBrk, dCnt, DS.put, DS.wipe, DS.rest, wipeL, restL, val, slD, vals, frz1, put1, out1, pures, dargs, dback, getM, setM, M.frz, start0, par, dEnds, isRes, itemsD, p2i, addP, subP, mulP, divP, modP, powP, DL.ltP, DL.leP, DL.gtP, DL.geP, eqP, inP, isNP, ixP, lenP, isiP, allP, anyP, intP, listP, tupleP, sortedSP, reprP, slP, revP, negP, findP, countP, joinP, appP, insP, tyD, lenD, dMl, lcountP, isBP, dLSet, dLRg, List.getElem?_cons_zero, List.getElem?_cons_succ, List.set_cons_zero, List.set_cons_succ, List.cons_append, List.nil_append, List.replicate_succ, List.replicate_zero, List.length_cons, List.length_nil, Option.some.injEq, exists_eq_left', exists_eq_left, Wv.pu.injEq, D.sc.injEq, V.bl.injEq, V.int.injEq, V.str.injEq, Nat.reduceSub, Nat.reduceAdd, List.cons.injEq, and_true, true_and, exists_and_left, Option.map_some, if_true, if_false, Bool.false_eq_true, exists_eq_right, ex2a, ex2b, ex2c, D.tup.injEq, D.lst.injEq, M.lst.injEq, eq_self]
  refine ⟨by decide, by decide, by decide, ⟨by simp, by decide, by decide, by decide⟩, by decide, ?_⟩
  refine for_i (fun j δ => ∃ x y, δ = ⟨[some (.pu (kt ks)), some (.pu (DI' r)), some (.pu (DS' z)), x, y], [.pu (kt ks), .pu (DI' r), .pu (DS' z)]⟩) ⟨x, y, rfl⟩ (fun j d δ K' hd hI k => ?_) (fun δ hI => ?_)
  · obtain ⟨x, y, rfl⟩ := hI
    have hp := all_at (p := fun d => !areK d && thingKB d) (by decide +kernel) hd
    simp only [Bool.and_eq_true, Bool.not_eq_true'] at hp
    simp only [dSet, dRet, dRetN, dIfS, dFor, dIt, dgName, dgNil, dgCons, dgTup, dgLst, dgTxt, dgSet, dVar, dC, dG, dOp, dUn, dCallP, dCons, dNil, dTst, dAnd, dOr, dNot, dAndV, dOrV, dNotV, dIf, dFz, dTup, dLst, dCall, dChain, dSl, dONo, dOSome, dMs, dMi, dAsg, dPar, dDrop, dLc, dLc2, dYes, dRng1, dRng2, dEnum, dZip, dLam, dNewD, dRaise, dNext, dBrk, dCnt, DS.put, DS.wipe, DS.rest, wipeL, restL, val, slD, vals, frz1, put1, out1, pures, dargs, dback, getM, setM, M.frz, start0, par, dEnds, isRes, itemsD, p2i, addP, subP, mulP, divP, modP, powP, DL.ltP, DL.leP, DL.gtP, DL.geP, eqP, inP, isNP, ixP, lenP, isiP, allP, anyP, intP, listP, tupleP, sortedSP, reprP, slP, revP, negP, findP, countP, joinP, appP, insP, tyD, lenD, dMl, lcountP, isBP, dLSet, dLRg, List.getElem?_cons_zero, List.getElem?_cons_succ, List.set_cons_zero, List.set_cons_succ, List.cons_append, List.nil_append, List.replicate_succ, List.replicate_zero, List.length_cons, List.length_nil, Option.some.injEq, exists_eq_left', exists_eq_left, Wv.pu.injEq, D.sc.injEq, V.bl.injEq, V.int.injEq, V.str.injEq, Nat.reduceSub, Nat.reduceAdd, List.cons.injEq, and_true, true_and, exists_and_left, Option.map_some, if_true, if_false, Bool.false_eq_true, exists_eq_right, ex2a, ex2b, ex2c, D.tup.injEq, D.lst.injEq, M.lst.injEq, eq_self]
    rw [hT]
    simp only [dSet, dRet, dRetN, dIfS, dFor, dIt, dgName, dgNil, dgCons, dgTup, dgLst, dgTxt, dgSet, dVar, dC, dG, dOp, dUn, dCallP, dCons, dNil, dTst, dAnd, dOr, dNot, dAndV, dOrV, dNotV, dIf, dFz, dTup, dLst, dCall, dChain, dSl, dONo, dOSome, dMs, dMi, dAsg, dPar, dDrop, dLc, dLc2, dYes, dRng1, dRng2, dEnum, dZip, dLam, dNewD, dRaise, dNext, dBrk, dCnt, DS.put, DS.wipe, DS.rest, wipeL, restL, val, slD, vals, frz1, put1, out1, pures, dargs, dback, getM, setM, M.frz, start0, par, dEnds, isRes, itemsD, p2i, addP, subP, mulP, divP, modP, powP, DL.ltP, DL.leP, DL.gtP, DL.geP, eqP, inP, isNP, ixP, lenP, isiP, allP, anyP, intP, listP, tupleP, sortedSP, reprP, slP, revP, negP, findP, countP, joinP, appP, insP, tyD, lenD, dMl, lcountP, isBP, dLSet, dLRg, List.getElem?_cons_zero, List.getElem?_cons_succ, List.set_cons_zero, List.set_cons_succ, List.cons_append, List.nil_append, List.replicate_succ, List.replicate_zero, List.length_cons, List.length_nil, Option.some.injEq, exists_eq_left', exists_eq_left, Wv.pu.injEq, D.sc.injEq, V.bl.injEq, V.int.injEq, V.str.injEq, Nat.reduceSub, Nat.reduceAdd, List.cons.injEq, and_true, true_and, exists_and_left, Option.map_some, if_true, if_false, Bool.false_eq_true, exists_eq_right, ex2a, ex2b, ex2c, D.tup.injEq, D.lst.injEq, M.lst.injEq, eq_self]
    refine c_rows_kind (a := d) (b := DN') (c := DN') (by rw [List.all_cons, hp.2]; rfl) hp.1 (pick_kind Z ?_)
    refine ⟨rfl, ?_⟩
    rw [if_neg (by decide +kernel)]
    exact k _ ⟨_, _, rfl⟩
  obtain ⟨x, y, rfl⟩ := hI
  clear hT T
  show N _
  rw [hN]
  clear hN N
  refine seq_o fun N hN => ?_
  refine for_a fun T hT => ?_
  simp only [dSet, dRet, dRetN, dIfS, dFor, dIt, dgName, dgNil, dgCons, dgTup, dgLst, dgTxt, dgSet, dVar, dC, dG, dOp, dUn, dCallP, dCons, dNil, dTst, dAnd, dOr, dNot, dAndV, dOrV, dNotV, dIf, dFz, dTup, dLst, dCall, dChain, dSl, dONo, dOSome, dMs, dMi, dAsg, dPar, dDrop, dLc, dLc2, dYes, dRng1, dRng2, dEnum, dZip, dLam, dNewD, dRaise, dNext, dBrk, dCnt, DS.put, DS.wipe, DS.rest, wipeL, restL, val, slD, vals, frz1, put1, out1, pures, dargs, dback, getM, setM, M.frz, start0, par, dEnds, isRes, itemsD, p2i, addP, subP, mulP, divP, modP, powP, DL.ltP, DL.leP, DL.gtP, DL.geP, eqP, inP, isNP, ixP, lenP, isiP, allP, anyP, intP, listP, tupleP, sortedSP, reprP, slP, revP, negP, findP, countP, joinP, appP, insP, tyD, lenD, dMl, lcountP, isBP, dLSet, dLRg, List.getElem?_cons_zero, List.getElem?_cons_succ, List.set_cons_zero, List.set_cons_succ, List.cons_append, List.nil_append, List.replicate_succ, List.replicate_zero, List.length_cons, List.length_nil, Option.some.injEq, exists_eq_left', exists_eq_left, Wv.pu.injEq, D.sc.injEq, V.bl.injEq, V.int.injEq, V.str.injEq, Nat.reduceSub, Nat.reduceAdd, List.cons.injEq, and_true, true_and, exists_and_left, Option.map_some, if_true, if_false, Bool.false_eq_true, exists_eq_right, ex2a, ex2b, ex2c, D.tup.injEq, D.lst.injEq, M.lst.injEq, eq_self]
  refine ⟨by decide, by decide, ?_⟩
  refine for_i (fun j δ => ∃ x y, δ = ⟨[some (.pu (kt ks)), some (.pu (DI' r)), some (.pu (DS' z)), x, y], [.pu (kt ks), .pu (DI' r), .pu (DS' z)]⟩) ⟨x, y, rfl⟩ (fun j d δ K' hd hI k => ?_) (fun δ hI => ?_)
  · obtain ⟨x, y, rfl⟩ := hI
    have hp := all_at (p := fun d => !isRD d && thingB d && thingKB d) (by decide +kernel) hd
    simp only [Bool.and_eq_true, Bool.not_eq_true'] at hp
    simp only [dSet, dRet, dRetN, dIfS, dFor, dIt, dgName, dgNil, dgCons, dgTup, dgLst, dgTxt, dgSet, dVar, dC, dG, dOp, dUn, dCallP, dCons, dNil, dTst, dAnd, dOr, dNot, dAndV, dOrV, dNotV, dIf, dFz, dTup, dLst, dCall, dChain, dSl, dONo, dOSome, dMs, dMi, dAsg, dPar, dDrop, dLc, dLc2, dYes, dRng1, dRng2, dEnum, dZip, dLam, dNewD, dRaise, dNext, dBrk, dCnt, DS.put, DS.wipe, DS.rest, wipeL, restL, val, slD, vals, frz1, put1, out1, pures, dargs, dback, getM, setM, M.frz, start0, par, dEnds, isRes, itemsD, p2i, addP, subP, mulP, divP, modP, powP, DL.ltP, DL.leP, DL.gtP, DL.geP, eqP, inP, isNP, ixP, lenP, isiP, allP, anyP, intP, listP, tupleP, sortedSP, reprP, slP, revP, negP, findP, countP, joinP, appP, insP, tyD, lenD, dMl, lcountP, isBP, dLSet, dLRg, List.getElem?_cons_zero, List.getElem?_cons_succ, List.set_cons_zero, List.set_cons_succ, List.cons_append, List.nil_append, List.replicate_succ, List.replicate_zero, List.length_cons, List.length_nil, Option.some.injEq, exists_eq_left', exists_eq_left, Wv.pu.injEq, D.sc.injEq, V.bl.injEq, V.int.injEq, V.str.injEq, Nat.reduceSub, Nat.reduceAdd, List.cons.injEq, and_true, true_and, exists_and_left, Option.map_some, if_true, if_false, Bool.false_eq_true, exists_eq_right, ex2a, ex2b, ex2c, D.tup.injEq, D.lst.injEq, M.lst.injEq, eq_self]
    rw [hT]
    refine seq_o fun N1 hN1 => ?_
    simp only [dSet, dRet, dRetN, dIfS, dFor, dIt, dgName, dgNil, dgCons, dgTup, dgLst, dgTxt, dgSet, dVar, dC, dG, dOp, dUn, dCallP, dCons, dNil, dTst, dAnd, dOr, dNot, dAndV, dOrV, dNotV, dIf, dFz, dTup, dLst, dCall, dChain, dSl, dONo, dOSome, dMs, dMi, dAsg, dPar, dDrop, dLc, dLc2, dYes, dRng1, dRng2, dEnum, dZip, dLam, dNewD, dRaise, dNext, dBrk, dCnt, DS.put, DS.wipe, DS.rest, wipeL, restL, val, slD, vals, frz1, put1, out1, pures, dargs, dback, getM, setM, M.frz, start0, par, dEnds, isRes, itemsD, p2i, addP, subP, mulP, divP, modP, powP, DL.ltP, DL.leP, DL.gtP, DL.geP, eqP, inP, isNP, ixP, lenP, isiP, allP, anyP, intP, listP, tupleP, sortedSP, reprP, slP, revP, negP, findP, countP, joinP, appP, insP, tyD, lenD, dMl, lcountP, isBP, dLSet, dLRg, List.getElem?_cons_zero, List.getElem?_cons_succ, List.set_cons_zero, List.set_cons_succ, List.cons_append, List.nil_append, List.replicate_succ, List.replicate_zero, List.length_cons, List.length_nil, Option.some.injEq, exists_eq_left', exists_eq_left, Wv.pu.injEq, D.sc.injEq, V.bl.injEq, V.int.injEq, V.str.injEq, Nat.reduceSub, Nat.reduceAdd, List.cons.injEq, and_true, true_and, exists_and_left, Option.map_some, if_true, if_false, Bool.false_eq_true, exists_eq_right, ex2a, ex2b, ex2c, D.tup.injEq, D.lst.injEq, M.lst.injEq, eq_self]
    refine c_reads_count (a := DS' "high") (b := DS' "?") (c := d) (by rw [List.all_cons, List.all_cons, List.all_cons, hp.1.2]; rfl) (by decide) (by decide) hp.1.1 (pick_count Z ?_)
    refine ⟨rfl, ?_⟩
    rw [if_neg (by decide +kernel), hN1]
    simp only [dSet, dRet, dRetN, dIfS, dFor, dIt, dgName, dgNil, dgCons, dgTup, dgLst, dgTxt, dgSet, dVar, dC, dG, dOp, dUn, dCallP, dCons, dNil, dTst, dAnd, dOr, dNot, dAndV, dOrV, dNotV, dIf, dFz, dTup, dLst, dCall, dChain, dSl, dONo, dOSome, dMs, dMi, dAsg, dPar, dDrop, dLc, dLc2, dYes, dRng1, dRng2, dEnum, dZip, dLam, dNewD, dRaise, dNext, dBrk, dCnt, DS.put, DS.wipe, DS.rest, wipeL, restL, val, slD, vals, frz1, put1, out1, pures, dargs, dback, getM, setM, M.frz, start0, par, dEnds, isRes, itemsD, p2i, addP, subP, mulP, divP, modP, powP, DL.ltP, DL.leP, DL.gtP, DL.geP, eqP, inP, isNP, ixP, lenP, isiP, allP, anyP, intP, listP, tupleP, sortedSP, reprP, slP, revP, negP, findP, countP, joinP, appP, insP, tyD, lenD, dMl, lcountP, isBP, dLSet, dLRg, List.getElem?_cons_zero, List.getElem?_cons_succ, List.set_cons_zero, List.set_cons_succ, List.cons_append, List.nil_append, List.replicate_succ, List.replicate_zero, List.length_cons, List.length_nil, Option.some.injEq, exists_eq_left', exists_eq_left, Wv.pu.injEq, D.sc.injEq, V.bl.injEq, V.int.injEq, V.str.injEq, Nat.reduceSub, Nat.reduceAdd, List.cons.injEq, and_true, true_and, exists_and_left, Option.map_some, if_true, if_false, Bool.false_eq_true, exists_eq_right, ex2a, ex2b, ex2c, D.tup.injEq, D.lst.injEq, M.lst.injEq, eq_self]
    refine c_rows_count (a := kt ks) (b := d) (c := DN') (by rw [List.all_cons, List.all_cons, kT, hp.2]; rfl) ka hp.1.1 (pick_count Z ?_)
    refine ⟨rfl, ?_⟩
    rw [if_neg (by decide +kernel)]
    exact k _ ⟨_, _, rfl⟩
  obtain ⟨x, y, rfl⟩ := hI
  clear hT T
  show N _
  rw [hN]
  clear hN N
  refine seq_o fun N hN => ?_
  refine for_a fun T hT => ?_
  simp only [dSet, dRet, dRetN, dIfS, dFor, dIt, dgName, dgNil, dgCons, dgTup, dgLst, dgTxt, dgSet, dVar, dC, dG, dOp, dUn, dCallP, dCons, dNil, dTst, dAnd, dOr, dNot, dAndV, dOrV, dNotV, dIf, dFz, dTup, dLst, dCall, dChain, dSl, dONo, dOSome, dMs, dMi, dAsg, dPar, dDrop, dLc, dLc2, dYes, dRng1, dRng2, dEnum, dZip, dLam, dNewD, dRaise, dNext, dBrk, dCnt, DS.put, DS.wipe, DS.rest, wipeL, restL, val, slD, vals, frz1, put1, out1, pures, dargs, dback, getM, setM, M.frz, start0, par, dEnds, isRes, itemsD, p2i, addP, subP, mulP, divP, modP, powP, DL.ltP, DL.leP, DL.gtP, DL.geP, eqP, inP, isNP, ixP, lenP, isiP, allP, anyP, intP, listP, tupleP, sortedSP, reprP, slP, revP, negP, findP, countP, joinP, appP, insP, tyD, lenD, dMl, lcountP, isBP, dLSet, dLRg, List.getElem?_cons_zero, List.getElem?_cons_succ, List.set_cons_zero, List.set_cons_succ, List.cons_append, List.nil_append, List.replicate_succ, List.replicate_zero, List.length_cons, List.length_nil, Option.some.injEq, exists_eq_left', exists_eq_left, Wv.pu.injEq, D.sc.injEq, V.bl.injEq, V.int.injEq, V.str.injEq, Nat.reduceSub, Nat.reduceAdd, List.cons.injEq, and_true, true_and, exists_and_left, Option.map_some, if_true, if_false, Bool.false_eq_true, exists_eq_right, ex2a, ex2b, ex2c, D.tup.injEq, D.lst.injEq, M.lst.injEq, eq_self]
  have hzz : z.length ≤ sizeLine := small_sl (by omega)
  have l2 : (Str.ofString "2").length = 1 := rfl
  refine ⟨_, if_pos hzz, ⟨by omega, by omega, by rw [l2]; omega⟩, by decide, by decide, ?_⟩
  refine for_i (fun j δ => ∃ x y, δ = ⟨[some (.pu (kt ks)), some (.pu (DI' r)), some (.pu (DS' z)), x, y], [.pu (kt ks), .pu (DI' r), .pu (DS' z)]⟩) ⟨x, y, rfl⟩ (fun j d δ K' hd hI k => ?_) (fun δ hI => ?_)
  · obtain ⟨x, y, rfl⟩ := hI
    have two : ∀ n ≤ 3, (isWD (DS' (repS "2" ((n : Nat) : Int))) = false) ∧ thingKB (DS' (repS "2" ((n : Nat) : Int))) = true := by decide +kernel
    have hall : [D.sc V.non, D.sc (V.str (Str.ofString "")), D.sc (V.str (repS (Str.ofString "2") ((z.length : Nat) : Int))), D.lst [D.sc (V.str (Str.ofString "0"))], D.sc (V.int 0)].all (fun d => !isWD d && thingKB d) = true := by
      simp only [List.all_cons, List.all_nil, Bool.and_true, (two z.length zl).1, (two z.length zl).2]
      decide +kernel
    have hp := all_at hall hd
    simp only [Bool.and_eq_true, Bool.not_eq_true'] at hp
    simp only [dSet, dRet, dRetN, dIfS, dFor, dIt, dgName, dgNil, dgCons, dgTup, dgLst, dgTxt, dgSet, dVar, dC, dG, dOp, dUn, dCallP, dCons, dNil, dTst, dAnd, dOr, dNot, dAndV, dOrV, dNotV, dIf, dFz, dTup, dLst, dCall, dChain, dSl, dONo, dOSome, dMs, dMi, dAsg, dPar, dDrop, dLc, dLc2, dYes, dRng1, dRng2, dEnum, dZip, dLam, dNewD, dRaise, dNext, dBrk, dCnt, DS.put, DS.wipe, DS.rest, wipeL, restL, val, slD, vals, frz1, put1, out1, pures, dargs, dback, getM, setM, M.frz, start0, par, dEnds, isRes, itemsD, p2i, addP, subP, mulP, divP, modP, powP, DL.ltP, DL.leP, DL.gtP, DL.geP, eqP, inP, isNP, ixP, lenP, isiP, allP, anyP, intP, listP, tupleP, sortedSP, reprP, slP, revP, negP, findP, countP, joinP, appP, insP, tyD, lenD, dMl, lcountP, isBP, dLSet, dLRg, List.getElem?_cons_zero, List.getElem?_cons_succ, List.set_cons_zero, List.set_cons_succ, List.cons_append, List.nil_append, List.replicate_succ, List.replicate_zero, List.length_cons, List.length_nil, Option.some.injEq, exists_eq_left', exists_eq_left, Wv.pu.injEq, D.sc.injEq, V.bl.injEq, V.int.injEq, V.str.injEq, Nat.reduceSub, Nat.reduceAdd, List.cons.injEq, and_true, true_and, exists_and_left, Option.map_some, if_true, if_false, Bool.false_eq_true, exists_eq_right, ex2a, ex2b, ex2c, D.tup.injEq, D.lst.injEq, M.lst.injEq, eq_self]
    rw [hT]
    simp only [dSet, dRet, dRetN, dIfS, dFor, dIt, dgName, dgNil, dgCons, dgTup, dgLst, dgTxt, dgSet, dVar, dC, dG, dOp, dUn, dCallP, dCons, dNil, dTst, dAnd, dOr, dNot, dAndV, dOrV, dNotV, dIf, dFz, dTup, dLst, dCall, dChain, dSl, dONo, dOSome, dMs, dMi, dAsg, dPar, dDrop, dLc, dLc2, dYes, dRng1, dRng2, dEnum, dZip, dLam, dNewD, dRaise, dNext, dBrk, dCnt, DS.put, DS.wipe, DS.rest, wipeL, restL, val, slD, vals, frz1, put1, out1, pures, dargs, dback, getM, setM, M.frz, start0, par, dEnds, isRes, itemsD, p2i, addP, subP, mulP, divP, modP, powP, DL.ltP, DL.leP, DL.gtP, DL.geP, eqP, inP, isNP, ixP, lenP, isiP, allP, anyP, intP, listP, tupleP, sortedSP, reprP, slP, revP, negP, findP, countP, joinP, appP, insP, tyD, lenD, dMl, lcountP, isBP, dLSet, dLRg, List.getElem?_cons_zero, List.getElem?_cons_succ, List.set_cons_zero, List.set_cons_succ, List.cons_append, List.nil_append, List.replicate_succ, List.replicate_zero, List.length_cons, List.length_nil, Option.some.injEq, exists_eq_left', exists_eq_left, Wv.pu.injEq, D.sc.injEq, V.bl.injEq, V.int.injEq, V.str.injEq, Nat.reduceSub, Nat.reduceAdd, List.cons.injEq, and_true, true_and, exists_and_left, Option.map_some, if_true, if_false, Bool.false_eq_true, exists_eq_right, ex2a, ex2b, ex2c, D.tup.injEq, D.lst.injEq, M.lst.injEq, eq_self]
    refine c_rows_word (a := kt ks) (b := DI' r) (c := d) (by rw [List.all_cons, List.all_cons, List.all_cons, kT, hp.2]; rfl) ka rR hp.1 (pick_word Z ?_)
    refine ⟨rfl, ?_⟩
    rw [if_neg (by decide +kernel)]
    exact k _ ⟨_, _, rfl⟩
  obtain ⟨x, y, rfl⟩ := hI
  clear hT T
  show N _
  rw [hN]
  clear hN N
  refine seq_o fun N hN => ?_
  simp only [dSet, dRet, dRetN, dIfS, dFor, dIt, dgName, dgNil, dgCons, dgTup, dgLst, dgTxt, dgSet, dVar, dC, dG, dOp, dUn, dCallP, dCons, dNil, dTst, dAnd, dOr, dNot, dAndV, dOrV, dNotV, dIf, dFz, dTup, dLst, dCall, dChain, dSl, dONo, dOSome, dMs, dMi, dAsg, dPar, dDrop, dLc, dLc2, dYes, dRng1, dRng2, dEnum, dZip, dLam, dNewD, dRaise, dNext, dBrk, dCnt, DS.put, DS.wipe, DS.rest, wipeL, restL, val, slD, vals, frz1, put1, out1, pures, dargs, dback, getM, setM, M.frz, start0, par, dEnds, isRes, itemsD, p2i, addP, subP, mulP, divP, modP, powP, DL.ltP, DL.leP, DL.gtP, DL.geP, eqP, inP, isNP, ixP, lenP, isiP, allP, anyP, intP, listP, tupleP, sortedSP, reprP, slP, revP, negP, findP, countP, joinP, appP, insP, tyD, lenD, dMl, lcountP, isBP, dLSet, dLRg, List.getElem?_cons_zero, List.getElem?_cons_succ, List.set_cons_zero, List.set_cons_succ, List.cons_append, List.nil_append, List.replicate_succ, List.replicate_zero, List.length_cons, List.length_nil, Option.some.injEq, exists_eq_left', exists_eq_left, Wv.pu.injEq, D.sc.injEq, V.bl.injEq, V.int.injEq, V.str.injEq, Nat.reduceSub, Nat.reduceAdd, List.cons.injEq, and_true, true_and, exists_and_left, Option.map_some, if_true, if_false, Bool.false_eq_true, exists_eq_right, ex2a, ex2b, ex2c, D.tup.injEq, D.lst.injEq, M.lst.injEq, eq_self]
  refine ⟨by decide, ?_⟩
  refine c_rows_match (a := .tup [DS' "low", DS' "high", DS' "plain"]) (b := DI' r) (c := DS' "0?") (by rw [List.all_cons, List.all_cons]; rfl) (by decide +kernel) rR (by decide +kernel) (by decide +kernel) (pick_match Z ?_)
  refine ⟨rfl, ?_⟩
  rw [if_neg (by decide +kernel), hN]
  simp only [dSet, dRet, dRetN, dIfS, dFor, dIt, dgName, dgNil, dgCons, dgTup, dgLst, dgTxt, dgSet, dVar, dC, dG, dOp, dUn, dCallP, dCons, dNil, dTst, dAnd, dOr, dNot, dAndV, dOrV, dNotV, dIf, dFz, dTup, dLst, dCall, dChain, dSl, dONo, dOSome, dMs, dMi, dAsg, dPar, dDrop, dLc, dLc2, dYes, dRng1, dRng2, dEnum, dZip, dLam, dNewD, dRaise, dNext, dBrk, dCnt, DS.put, DS.wipe, DS.rest, wipeL, restL, val, slD, vals, frz1, put1, out1, pures, dargs, dback, getM, setM, M.frz, start0, par, dEnds, isRes, itemsD, p2i, addP, subP, mulP, divP, modP, powP, DL.ltP, DL.leP, DL.gtP, DL.geP, eqP, inP, isNP, ixP, lenP, isiP, allP, anyP, intP, listP, tupleP, sortedSP, reprP, slP, revP, negP, findP, countP, joinP, appP, insP, tyD, lenD, dMl, lcountP, isBP, dLSet, dLRg, List.getElem?_cons_zero, List.getElem?_cons_succ, List.set_cons_zero, List.set_cons_succ, List.cons_append, List.nil_append, List.replicate_succ, List.replicate_zero, List.length_cons, List.length_nil, Option.some.injEq, exists_eq_left', exists_eq_left, Wv.pu.injEq, D.sc.injEq, V.bl.injEq, V.int.injEq, V.str.injEq, Nat.reduceSub, Nat.reduceAdd, List.cons.injEq, and_true, true_and, exists_and_left, Option.map_some, if_true, if_false, Bool.false_eq_true, exists_eq_right, ex2a, ex2b, ex2c, D.tup.injEq, D.lst.injEq, M.lst.injEq, eq_self]
  have zq : (z ++ "?" : Str).length = z.length + 1 := by rw [len_app]; rfl
  have zc : (z ++ "?" : Str).cps.toList = z.cps.toList ++ [63] := by
    show (z.cps ++ ("?" : Str).cps).toList = _
    simp
    rfl
  have zw : isW (z ++ "?") = true := by
    unfold isW
    rw [zq, zc, List.all_append]
    simp only [Bool.and_eq_true, decide_eq_true_eq, List.all_eq_true]
    refine ⟨⟨by omega, by omega⟩, fun c hc => isBit_in (hb c hc), fun c hc => ?_⟩
    rw [List.mem_singleton.mp hc]
    decide
  refine ⟨small_sl (by have : (Str.ofString "?").length = 1 := rfl
                       omega), ?_⟩
  refine c_rows_match (a := kt ks) (b := DI' r) (c := DS' (z ++ "?")) (by
    rw [List.all_cons, List.all_cons, List.all_cons, kT]
    have : thingKB (DS' (z ++ "?")) = true := by
      simp only [thingKB, thingB, tyD, zq, Bool.and_true, Bool.and_eq_true, decide_eq_true_eq]
      exact ⟨rfl, by omega⟩
    rw [this]
    rfl) ka rR zw (by
    show ¬ (z ++ "?" : Str).length = (ks.map fun k => DS' k).length
    rw [zq, List.length_map]
    omega) (pick_match Z ?_)
  refine ⟨rfl, ?_⟩
  rw [show (false ^^ decide (Str.ofString "match" = Str.ofString "match")) = true by decide +kernel]
  exact q
end
end Lw

/-! text RK -/
set_option Elab.async false
set_option linter.all false
set_option maxRecDepth 100000
set_option maxHeartbeats 4000000
namespace Lw
open PySem PySem.Spec PyProof.Rows L2 DL
section
variable {P : Program} {w : World} {base : Heap} {K : PySem.W.Frag} {ws : List Wv} {Q : Wv → List Wv → Prop} {Y : Value → List Wv → Prop} {mg : Str → Option Value}
theorem toPDs_strs : ∀ zs : List Str, toPDs (zs.map fun z => DS' z) = some (zs.map .str)
  | [] => rfl
  | z :: zs => by simp [toPDs, toPD, toPDs_strs zs]
theorem showAll_strs : ∀ zs : List Str, PyData.showableAll (zs.map .str) = true
  | [] => rfl
  | z :: zs => by simp [PyData.showableAll, PyData.showable, showAll_strs zs]
theorem depthAll_strs : ∀ zs : List Str, PyData.depthAll (zs.map .str) ≤ 1
  | [] => by simp [PyData.depthAll]
  | z :: zs => by
    have := depthAll_strs zs
    simp [PyData.depthAll, PyData.depth]
    omega
theorem shortAll_strs {B : Nat} : ∀ zs : List Str, (∀ z ∈ zs, low z = true) → PyData.leavesShortAll B (zs.map .str) = true
  | [], _ => rfl
  | z :: zs, h => by
    have h1 := h z (List.mem_cons_self ..)
    have h2 := shortAll_strs (B := B) zs fun y hy => h y (List.mem_cons_of_mem _ hy)
    unfold low at h1
    simp only [List.map_cons, PyData.leavesShortAll, PyData.leavesShort, h2, Bool.and_true]
    exact h1
theorem weightAll_strs {c : Nat} : ∀ zs : List Str, (∀ z ∈ zs, z.length ≤ c) → PyData.weightAll (zs.map .str) ≤ zs.length * (c + 1)
  | [], _ => by simp [PyData.weightAll]
  | z :: zs, h => by
    have h1 := h z (List.mem_cons_self ..)
    have h2 := weightAll_strs (c := c) zs fun y hy => h y (List.mem_cons_of_mem _ hy)
    simp only [List.map_cons, PyData.weightAll, PyData.weight, List.length_cons, Nat.add_mul, Nat.one_mul]
    have : z.cps.size = z.length := rfl
    omega
theorem repr_ok {zs : List Str} (h : zs.length ≤ 5000) (hl : ∀ z ∈ zs, z.length ≤ 100) (hc : ∀ z ∈ zs, low z = true) {Q : PyData → Prop} (q : Q (PyData.list (zs.map .str))) :
    ∃ p, toPD (.lst (zs.map fun z => DS' z)) = some p ∧ PyData.showable p = true ∧ p.depth ≤ 64 ∧ p.shown.length ≤ sizeLine ∧ Q p := by
  refine ⟨.list (zs.map .str), by simp [toPD, toPDs_strs], showAll_strs zs, ?_, ?_, q⟩
  · have := depthAll_strs zs
    simp only [PyData.depth]
    omega
  · refine PyData.shown_fits (B := 13) (by decide) (by decide) (shortAll_strs zs hc) ?_
    have h1 := weightAll_strs zs hl
    have h2 : zs.length * (100 + 1) ≤ 5000 * 101 := Nat.mul_le_mul_right _ h
    show PyData.weightAll _ ≤ _
    exact Nat.le_trans h1 (Nat.le_trans h2 (by decide))
theorem isK_of {k : Str} (h : isK k = true) : k ∈ (["plain", "low", "high"] : List Str) := by
  simp only [isK, Bool.or_eq_true, beq_iff_eq] at h
  rcases h with rfl | rfl | rfl <;> simp
theorem isBit_of {b : Str} (h : isBit b = true) : b ∈ (["0", "1", "?"] : List Str) := by
  simp only [isBit, Bool.or_eq_true, beq_iff_eq] at h
  rcases h with rfl | rfl | rfl <;> simp
theorem raw_low8 {k b : Str} {r : Nat} (hk : isK k = true) (hb : isBit b = true) (h : r ≤ 8) : ∀ z ∈ rawReads k b r, low z = true := by
  have : ∀ k ∈ (["plain", "low", "high"] : List Str), ∀ b ∈ (["0", "1", "?"] : List Str), ∀ r ≤ 8, (rawReads k b r).all low = true := by decide +kernel
  exact fun z hz => List.all_eq_true.mp (this k (isK_of hk) b (isBit_of hb) r h) z hz
theorem low_app {a b : Str} (ha : low a = true) (hb : low b = true) : low (a ++ b) = true := by
  unfold low at *
  have : (a ++ b).cps.toList = a.cps.toList ++ b.cps.toList := by
    show (a.cps ++ b.cps).toList = _
    simp
  rw [this, List.all_append, ha, hb]
  rfl
theorem rows_low {R : Str → Str → List Str} : ∀ {ps : List (Str × Nat)}, (∀ p ∈ ps, ∀ x ∈ R p.1 (sign p.2), low x = true) → ∀ x ∈ rowsF R ps, low x = true := by
  intro ps h
  unfold rowsF
  suffices ∀ acc : List Str, (∀ x ∈ acc, low x = true) → ∀ x ∈ ps.foldl (fun (found : List Str) (p : Str × Nat) => found.flatMap fun start => (R p.1 (sign p.2)).map (start ++ ·)) acc, low x = true from this _ fun x hx => by
    rw [List.mem_singleton.mp hx]
    rfl
  induction ps with
  | nil => exact fun acc h => h
  | cons p ps ih =>
    intro acc ha
    rw [List.foldl_cons]
    refine ih (fun q hq => h q (List.mem_cons_of_mem _ hq)) _ fun x hx => ?_
    obtain ⟨s, hs, hx⟩ := List.mem_flatMap.mp hx
    obtain ⟨y, hy, rfl⟩ := List.mem_map.mp hx
    exact low_app (ha s hs) (h p (List.mem_cons_self ..) y hy)
end
end Lw

/-! text RN -/
set_option Elab.async false
set_option linter.all false
set_option maxRecDepth 100000
set_option maxHeartbeats 4000000
namespace Lw
open PySem PySem.Spec PyProof.Rows L2 DL
section
variable {P : Program} {w : World} {base : Heap} {K : PySem.W.Frag} {ws : List Wv} {Q : Wv → List Wv → Prop} {Y : Value → List Wv → Prop} {mg : Str → Option Value}
theorem th_str {z : Str} (h : z.length ≤ 1000) : thing (DS' z) := thing_of (by simp [thingB, tyD]; omega)
/-- a call of reads that is not refused -/
theorem c_reads_ok {k b : Str} {r : Int} {Q : Wv → List Wv → Prop} {Y : Value → List Wv → Prop} (hk : isK k = true) (hb : isBit b = true) (h1 : 1 ≤ r) (h8 : r ≤ 8) (q : Q (strsL (rawReads k b r.toNat)) [.pu (DS' k), .pu (DS' b), .pu (DI' r)]) :
    sp_reads K [.pu (DS' k), .pu (DS' b), .pu (DI' r)] Q Y := by
  have tr : isRD (DI' r) = true := by simp [isRD]; omega
  have lk := isK_short hk
  have lb := isBit_len hb
  refine call_ok (ds := [DS' k, DS' b, DI' r]) rfl rfl (fun d hd => ?_) ?_
  · simp only [List.mem_cons, List.not_mem_nil, or_false] at hd
    rcases hd with rfl | rfl | rfl
    · exact th_str (by omega)
    · exact th_str (by omega)
    · exact thing_of rfl
  · have e1 : isKD (DS' k) = true := hk
    have e2 : isBitD (DS' b) = true := hb
    simp only [List.getD_cons_zero, List.getD_cons_succ, e1, e2, tr, if_true, str, nat]
    exact ⟨trivial, q⟩
theorem c_rows_ok {ks : List Str} {z : Str} {r : Int} {Q : Wv → List Wv → Prop} {Y : Value → List Wv → Prop} (hk : ∀ k ∈ ks, isK k = true) (hl : ks.length = z.length) (h1 : 1 ≤ ks.length) (h3 : ks.length ≤ 3) (hb : ∀ c ∈ z.cps.toList, isBit (sign c) = true) (r1 : 1 ≤ r) (r8 : r ≤ 8)
    (q : Q (strsL (rawRows ks r.toNat z.cps.toList)) [.pu (kt ks), .pu (DI' r), .pu (DS' z)]) :
    sp_rows_of K [.pu (kt ks), .pu (DI' r), .pu (DS' z)] Q Y := by
  have tr : isRD (DI' r) = true := by simp [isRD]; omega
  have tz : isWD (DS' z) = true := by
    show isW z = true
    unfold isW
    simp only [Bool.and_eq_true, decide_eq_true_eq, List.all_eq_true]
    exact ⟨⟨by omega, by omega⟩, fun c hc => isBit_in (hb c hc)⟩
  have ka := kt_areK hk h1 h3
  have kT : thingKB (kt ks) = true := by
    have := kt_things hk
    simp only [thingKB, this, Bool.and_true, Bool.and_eq_true, decide_eq_true_eq, List.length_map]
    exact ⟨rfl, by omega⟩
  refine call_ok (ds := [kt ks, DI' r, DS' z]) rfl rfl (fun d hd => ?_) ?_
  · simp only [List.mem_cons, List.not_mem_nil, or_false] at hd
    rcases hd with rfl | rfl | rfl
    · exact thingK_of kT
    · exact thingK_of rfl
    · exact thingK_of (by simp [thingKB, thingB, tyD]; omega)
  · have e5 : (str (DS' z)).length = lenT (kt ks) := by
      show z.length = (ks.map fun k => DS' k).length
      rw [List.length_map, hl]
    have e6 : dstrs (kt ks) = ks := by
      show (ks.map fun k => DS' k).map str = ks
      rw [List.map_map]
      simp [Function.comp_def, str]
    simp only [List.getD_cons_zero, List.getD_cons_succ, ka, tr, tz, e5, e6, if_true]
    exact ⟨trivial, q⟩
theorem b_body {k b : Str} {r : Int} {s0 s1 s2 s6 s7 s8 s9 s10 s11 s12 s13 : Option Wv} {an : List Wv} {E : DEnds} (hk : isK k = true) (hb : isBit b = true) (h1 : 1 ≤ r) (h5 : r ≤ 5)
    (g : ∀ x, E.nx ⟨[s0, s1, s2, some (.pu (DS' k)), some (.pu (DI' r)), some (.pu (DS' b)), s6, some x, s8, s9, s10, s11, s12, s13], an⟩) :
    dSeq (dSet 7 (dCall ((sp_reads K)) (dCons (dFz (dVar 3)) (dCons (dFz (dVar 5)) (dCons (dFz (dVar 4)) (dNil))))))
  (dSeq (dIfS (dTst (dOp (eqP true) (dCallP reprP (dCons (dVar 7) (dNil))) (dCallP reprP (dCons (dCall ((sp__law_reads K)) (dCons (dFz (dVar 3)) (dCons (dFz (dVar 5)) (dCons (dFz (dVar 4)) (dNil))))) (dNil))))) (dRet (dC (.bl false))) (dNext))
  (dDrop (dMi appP (dVar 7) (dCons (dC .non) (dNil))))) E ⟨[s0, s1, s2, some (.pu (DS' k)), some (.pu (DI' r)), some (.pu (DS' b)), s6, s7, s8, s9, s10, s11, s12, s13], an⟩ := by
  have eq := reads_eq (b := b) hk (show 1 ≤ r.toNat by omega) (show r.toNat ≤ 5 by omega)
  obtain ⟨m1, m2⟩ := raw_bound hk hb (show r.toNat ≤ 8 by omega)
  have m3 := raw_low8 hk hb (show r.toNat ≤ 8 by omega)
  have m2' : ∀ z ∈ rawReads k b r.toNat, z.length ≤ 100 := fun z hz => by rw [m2 z hz]; omega
  refine seq_o fun N hN => ?_
  simp only [dSet, dRet, dRetN, dIfS, dFor, dIt, dgName, dgNil, dgCons, dgTup, dgLst, dgTxt, dgSet, dVar, dC, dG, dOp, dUn, dCallP, dCons, dNil, dTst, dAnd, dOr, dNot, dAndV, dOrV, dNotV, dIf, dFz, dTup, dLst, dCall, dChain, dSl, dONo, dOSome, dMs, dMi, dAsg, dPar, dDrop, dLc, dLc2, dYes, dRng1, dRng2, dEnum, dZip, dLam, dNewD, dRaise, dNext, dBrk, dCnt, DS.put, DS.wipe, DS.rest, wipeL, restL, val, slD, vals, frz1, put1, out1, pures, dargs, dback, getM, setM, M.frz, start0, par, dEnds, isRes, itemsD, p2i, addP, subP, mulP, divP, modP, powP, DL.ltP, DL.leP, DL.gtP, DL.geP, eqP, inP, isNP, ixP, lenP, isiP, allP, anyP, intP, listP, tupleP, sortedSP, reprP, slP, revP, negP, findP, countP, joinP, appP, insP, tyD, lenD, dMl, lcountP, isBP, dLSet, dLRg, List.getElem?_cons_zero, List.getElem?_cons_succ, List.set_cons_zero, List.set_cons_succ, List.cons_append, List.nil_append, List.replicate_succ, List.replicate_zero, List.length_cons, List.length_nil, Option.some.injEq, exists_eq_left', exists_eq_left, Wv.pu.injEq, D.sc.injEq, V.bl.injEq, V.int.injEq, V.str.injEq, Nat.reduceSub, Nat.reduceAdd, List.cons.injEq, and_true, true_and, exists_and_left, Option.map_some, if_true, if_false, Bool.false_eq_true, exists_eq_right, ex2a, ex2b, ex2c, D.tup.injEq, D.lst.injEq, M.lst.injEq, eq_self]
  refine c_reads_ok hk hb h1 (by omega) ?_
  simp only [dSet, dRet, dRetN, dIfS, dFor, dIt, dgName, dgNil, dgCons, dgTup, dgLst, dgTxt, dgSet, dVar, dC, dG, dOp, dUn, dCallP, dCons, dNil, dTst, dAnd, dOr, dNot, dAndV, dOrV, dNotV, dIf, dFz, dTup, dLst, dCall, dChain, dSl, dONo, dOSome, dMs, dMi, dAsg, dPar, dDrop, dLc, dLc2, dYes, dRng1, dRng2, dEnum, dZip, dLam, dNewD, dRaise, dNext, dBrk, dCnt, DS.put, DS.wipe, DS.rest, wipeL, restL, val, slD, vals, frz1, put1, out1, pures, dargs, dback, getM, setM, M.frz, start0, par, dEnds, isRes, itemsD, p2i, addP, subP, mulP, divP, modP, powP, DL.ltP, DL.leP, DL.gtP, DL.geP, eqP, inP, isNP, ixP, lenP, isiP, allP, anyP, intP, listP, tupleP, sortedSP, reprP, slP, revP, negP, findP, countP, joinP, appP, insP, tyD, lenD, dMl, lcountP, isBP, dLSet, dLRg, List.getElem?_cons_zero, List.getElem?_cons_succ, List.set_cons_zero, List.set_cons_succ, List.cons_append, List.nil_append, List.replicate_succ, List.replicate_zero, List.length_cons, List.length_nil, Option.some.injEq, exists_eq_left', exists_eq_left, Wv.pu.injEq, D.sc.injEq, V.bl.injEq, V.int.injEq, V.str.injEq, Nat.reduceSub, Nat.reduceAdd, List.cons.injEq, and_true, true_and, exists_and_left, Option.map_some, if_true, if_false, Bool.false_eq_true, exists_eq_right, ex2a, ex2b, ex2c, D.tup.injEq, D.lst.injEq, M.lst.injEq, eq_self, strsL]
  show N _
  rw [hN]
  clear hN N
  refine seq_o fun N hN => ?_
  simp only [dSet, dRet, dRetN, dIfS, dFor, dIt, dgName, dgNil, dgCons, dgTup, dgLst, dgTxt, dgSet, dVar, dC, dG, dOp, dUn, dCallP, dCons, dNil, dTst, dAnd, dOr, dNot, dAndV, dOrV, dNotV, dIf, dFz, dTup, dLst, dCall, dChain, dSl, dONo, dOSome, dMs, dMi, dAsg, dPar, dDrop, dLc, dLc2, dYes, dRng1, dRng2, dEnum, dZip, dLam, dNewD, dRaise, dNext, dBrk, dCnt, DS.put, DS.wipe, DS.rest, wipeL, restL, val, slD, vals, frz1, put1, out1, pures, dargs, dback, getM, setM, M.frz, start0, par, dEnds, isRes, itemsD, p2i, addP, subP, mulP, divP, modP, powP, DL.ltP, DL.leP, DL.gtP, DL.geP, eqP, inP, isNP, ixP, lenP, isiP, allP, anyP, intP, listP, tupleP, sortedSP, reprP, slP, revP, negP, findP, countP, joinP, appP, insP, tyD, lenD, dMl, lcountP, isBP, dLSet, dLRg, List.getElem?_cons_zero, List.getElem?_cons_succ, List.set_cons_zero, List.set_cons_succ, List.cons_append, List.nil_append, List.replicate_succ, List.replicate_zero, List.length_cons, List.length_nil, Option.some.injEq, exists_eq_left', exists_eq_left, Wv.pu.injEq, D.sc.injEq, V.bl.injEq, V.int.injEq, V.str.injEq, Nat.reduceSub, Nat.reduceAdd, List.cons.injEq, and_true, true_and, exists_and_left, Option.map_some, if_true, if_false, Bool.false_eq_true, exists_eq_right, ex2a, ex2b, ex2c, D.tup.injEq, D.lst.injEq, M.lst.injEq, eq_self, strsL]
  refine repr_ok (by omega) m2' m3 ?_
  refine call_ok (ds := [DS' k, DS' b, DI' r]) rfl rfl ⟨k, b, r, rfl, hk, hb, h1, h5⟩ ?_
  simp only [List.getD_cons_zero, List.getD_cons_succ, str, nat, eq]
  simp only [dSet, dRet, dRetN, dIfS, dFor, dIt, dgName, dgNil, dgCons, dgTup, dgLst, dgTxt, dgSet, dVar, dC, dG, dOp, dUn, dCallP, dCons, dNil, dTst, dAnd, dOr, dNot, dAndV, dOrV, dNotV, dIf, dFz, dTup, dLst, dCall, dChain, dSl, dONo, dOSome, dMs, dMi, dAsg, dPar, dDrop, dLc, dLc2, dYes, dRng1, dRng2, dEnum, dZip, dLam, dNewD, dRaise, dNext, dBrk, dCnt, DS.put, DS.wipe, DS.rest, wipeL, restL, val, slD, vals, frz1, put1, out1, pures, dargs, dback, getM, setM, M.frz, start0, par, dEnds, isRes, itemsD, p2i, addP, subP, mulP, divP, modP, powP, DL.ltP, DL.leP, DL.gtP, DL.geP, eqP, inP, isNP, ixP, lenP, isiP, allP, anyP, intP, listP, tupleP, sortedSP, reprP, slP, revP, negP, findP, countP, joinP, appP, insP, tyD, lenD, dMl, lcountP, isBP, dLSet, dLRg, List.getElem?_cons_zero, List.getElem?_cons_succ, List.set_cons_zero, List.set_cons_succ, List.cons_append, List.nil_append, List.replicate_succ, List.replicate_zero, List.length_cons, List.length_nil, Option.some.injEq, exists_eq_left', exists_eq_left, Wv.pu.injEq, D.sc.injEq, V.bl.injEq, V.int.injEq, V.str.injEq, Nat.reduceSub, Nat.reduceAdd, List.cons.injEq, and_true, true_and, exists_and_left, Option.map_some, if_true, if_false, Bool.false_eq_true, exists_eq_right, ex2a, ex2b, ex2c, D.tup.injEq, D.lst.injEq, M.lst.injEq, eq_self, strsL]
  refine repr_ok (by omega) m2' m3 ?_
  simp only [dSet, dRet, dRetN, dIfS, dFor, dIt, dgName, dgNil, dgCons, dgTup, dgLst, dgTxt, dgSet, dVar, dC, dG, dOp, dUn, dCallP, dCons, dNil, dTst, dAnd, dOr, dNot, dAndV, dOrV, dNotV, dIf, dFz, dTup, dLst, dCall, dChain, dSl, dONo, dOSome, dMs, dMi, dAsg, dPar, dDrop, dLc, dLc2, dYes, dRng1, dRng2, dEnum, dZip, dLam, dNewD, dRaise, dNext, dBrk, dCnt, DS.put, DS.wipe, DS.rest, wipeL, restL, val, slD, vals, frz1, put1, out1, pures, dargs, dback, getM, setM, M.frz, start0, par, dEnds, isRes, itemsD, p2i, addP, subP, mulP, divP, modP, powP, DL.ltP, DL.leP, DL.gtP, DL.geP, eqP, inP, isNP, ixP, lenP, isiP, allP, anyP, intP, listP, tupleP, sortedSP, reprP, slP, revP, negP, findP, countP, joinP, appP, insP, tyD, lenD, dMl, lcountP, isBP, dLSet, dLRg, List.getElem?_cons_zero, List.getElem?_cons_succ, List.set_cons_zero, List.set_cons_succ, List.cons_append, List.nil_append, List.replicate_succ, List.replicate_zero, List.length_cons, List.length_nil, Option.some.injEq, exists_eq_left', exists_eq_left, Wv.pu.injEq, D.sc.injEq, V.bl.injEq, V.int.injEq, V.str.injEq, Nat.reduceSub, Nat.reduceAdd, List.cons.injEq, and_true, true_and, exists_and_left, Option.map_some, if_true, if_false, Bool.false_eq_true, exists_eq_right, ex2a, ex2b, ex2c, D.tup.injEq, D.lst.injEq, M.lst.injEq, eq_self]
  refine ⟨rfl, ?_⟩
  rw [if_neg (by simp), hN]
  simp only [dSet, dRet, dRetN, dIfS, dFor, dIt, dgName, dgNil, dgCons, dgTup, dgLst, dgTxt, dgSet, dVar, dC, dG, dOp, dUn, dCallP, dCons, dNil, dTst, dAnd, dOr, dNot, dAndV, dOrV, dNotV, dIf, dFz, dTup, dLst, dCall, dChain, dSl, dONo, dOSome, dMs, dMi, dAsg, dPar, dDrop, dLc, dLc2, dYes, dRng1, dRng2, dEnum, dZip, dLam, dNewD, dRaise, dNext, dBrk, dCnt, DS.put, DS.wipe, DS.rest, wipeL, restL, val, slD, vals, frz1, put1, out1, pures, dargs, dback, getM, setM, M.frz, start0, par, dEnds, isRes, itemsD, p2i, addP, subP, mulP, divP, modP, powP, DL.ltP, DL.leP, DL.gtP, DL.geP, eqP, inP, isNP, ixP, lenP, isiP, allP, anyP, intP, listP, tupleP, sortedSP, reprP, slP, revP, negP, findP, countP, joinP, appP, insP, tyD, lenD, dMl, lcountP, isBP, dLSet, dLRg, List.getElem?_cons_zero, List.getElem?_cons_succ, List.set_cons_zero, List.set_cons_succ, List.cons_append, List.nil_append, List.replicate_succ, List.replicate_zero, List.length_cons, List.length_nil, Option.some.injEq, exists_eq_left', exists_eq_left, Wv.pu.injEq, D.sc.injEq, V.bl.injEq, V.int.injEq, V.str.injEq, Nat.reduceSub, Nat.reduceAdd, List.cons.injEq, and_true, true_and, exists_and_left, Option.map_some, if_true, if_false, Bool.false_eq_true, exists_eq_right, ex2a, ex2b, ex2c, D.tup.injEq, D.lst.injEq, M.lst.injEq, eq_self, List.length_map]
  exact ⟨⟨_, rfl⟩, Nat.lt_of_le_of_lt m1 (by decide), g _⟩
theorem r_body {ks : List Str} {z : Str} {r : Int} {s0 s1 s2 s3 s5 s6 s7 s8 s11 s12 s13 : Option Wv} {an : List Wv} {E : DEnds} (hk : ∀ k ∈ ks, isK k = true) (hl : ks.length = z.length) (h1 : 1 ≤ ks.length) (h3 : ks.length ≤ 3) (hb : ∀ c ∈ z.cps.toList, isBit (sign c) = true) (r1 : 1 ≤ r) (r3 : r ≤ 3)
    (g : ∀ x, E.nx ⟨[s0, s1, s2, s3, some (.pu (DI' r)), s5, s6, some x, s8, some (.pu (kt ks)), some (.pu (DS' z)), s11, s12, s13], an⟩) :
    dSeq (dSet 7 (dCall ((sp_rows_of K)) (dCons (dFz (dVar 9)) (dCons (dFz (dVar 4)) (dCons (dFz (dVar 10)) (dNil))))))
  (dSeq (dIfS (dTst (dOp (eqP true) (dCallP reprP (dCons (dVar 7) (dNil))) (dCallP reprP (dCons (dCall ((sp__law_rows K)) (dCons (dFz (dVar 9)) (dCons (dFz (dVar 4)) (dCons (dFz (dVar 10)) (dNil))))) (dNil))))) (dRet (dC (.bl false))) (dNext))
  (dDrop (dMi appP (dVar 7) (dCons (dC .non) (dNil))))) E ⟨[s0, s1, s2, s3, some (.pu (DI' r)), s5, s6, s7, s8, some (.pu (kt ks)), some (.pu (DS' z)), s11, s12, s13], an⟩ := by
  have eq := rows_eq (cs := z.cps.toList) hk (show 1 ≤ r.toNat by omega) (show r.toNat ≤ 5 by omega)
  have hcl : ks.length = z.cps.toList.length := by rw [hl]; simp [Str.length]
  have e6 : dstrs (kt ks) = ks := by
    show (ks.map fun k => DS' k).map str = ks
    rw [List.map_map]
    simp [Function.comp_def, str]
  have lt : (ks.zip z.cps.toList).length = ks.length := by
    rw [List.length_zip]
    omega
  obtain ⟨b1, b2⟩ := rows_bound (R := fun k b => rawReads k b r.toNat) (c := 17) (e := 3) lt fun q' hq' => by
    obtain ⟨a1, a2⟩ := raw_bound (hk _ (List.of_mem_zip hq').1) (hb _ (List.of_mem_zip hq').2) (show r.toNat ≤ 8 by omega)
    exact ⟨a1, fun x hx => by rw [a2 x hx]; omega⟩
  have m3 : ∀ x ∈ rawRows ks r.toNat z.cps.toList, low x = true := rows_low (R := fun k b => rawReads k b r.toNat) fun p hp => raw_low8 (hk _ (List.of_mem_zip hp).1) (hb _ (List.of_mem_zip hp).2) (show r.toNat ≤ 8 by omega)
  have m1 : (rawRows ks r.toNat z.cps.toList).length ≤ 4913 := Nat.le_trans b1 (Nat.le_trans (Nat.pow_le_pow_right (by decide) h3) (by decide))
  have m2 : ∀ x ∈ rawRows ks r.toNat z.cps.toList, x.length ≤ 100 := fun x hx => by
    have := b2 x hx
    omega
  refine seq_o fun N hN => ?_
  simp only [dSet, dRet, dRetN, dIfS, dFor, dIt, dgName, dgNil, dgCons, dgTup, dgLst, dgTxt, dgSet, dVar, dC, dG, dOp, dUn, dCallP, dCons, dNil, dTst, dAnd, dOr, dNot, dAndV, dOrV, dNotV, dIf, dFz, dTup, dLst, dCall, dChain, dSl, dONo, dOSome, dMs, dMi, dAsg, dPar, dDrop, dLc, dLc2, dYes, dRng1, dRng2, dEnum, dZip, dLam, dNewD, dRaise, dNext, dBrk, dCnt, DS.put, DS.wipe, DS.rest, wipeL, restL, val, slD, vals, frz1, put1, out1, pures, dargs, dback, getM, setM, M.frz, start0, par, dEnds, isRes, itemsD, p2i, addP, subP, mulP, divP, modP, powP, DL.ltP, DL.leP, DL.gtP, DL.geP, eqP, inP, isNP, ixP, lenP, isiP, allP, anyP, intP, listP, tupleP, sortedSP, reprP, slP, revP, negP, findP, countP, joinP, appP, insP, tyD, lenD, dMl, lcountP, isBP, dLSet, dLRg, List.getElem?_cons_zero, List.getElem?_cons_succ, List.set_cons_zero, List.set_cons_succ, List.cons_append, List.nil_append, List.replicate_succ, List.replicate_zero, List.length_cons, List.length_nil, Option.some.injEq, exists_eq_left', exists_eq_left, Wv.pu.injEq, D.sc.injEq, V.bl.injEq, V.int.injEq, V.str.injEq, Nat.reduceSub, Nat.reduceAdd, List.cons.injEq, and_true, true_and, exists_and_left, Option.map_some, if_true, if_false, Bool.false_eq_true, exists_eq_right, ex2a, ex2b, ex2c, D.tup.injEq, D.lst.injEq, M.lst.injEq, eq_self]
  refine c_rows_ok hk hl h1 h3 hb r1 (by omega) ?_
  simp only [dSet, dRet, dRetN, dIfS, dFor, dIt, dgName, dgNil, dgCons, dgTup, dgLst, dgTxt, dgSet, dVar, dC, dG, dOp, dUn, dCallP, dCons, dNil, dTst, dAnd, dOr, dNot, dAndV, dOrV, dNotV, dIf, dFz, dTup, dLst, dCall, dChain, dSl, dONo, dOSome, dMs, dMi, dAsg, dPar, dDrop, dLc, dLc2, dYes, dRng1, dRng2, dEnum, dZip, dLam, dNewD, dRaise, dNext, dBrk, dCnt, DS.put, DS.wipe, DS.rest, wipeL, restL, val, slD, vals, frz1, put1, out1, pures, dargs, dback, getM, setM, M.frz, start0, par, dEnds, isRes, itemsD, p2i, addP, subP, mulP, divP, modP, powP, DL.ltP, DL.leP, DL.gtP, DL.geP, eqP, inP, isNP, ixP, lenP, isiP, allP, anyP, intP, listP, tupleP, sortedSP, reprP, slP, revP, negP, findP, countP, joinP, appP, insP, tyD, lenD, dMl, lcountP, isBP, dLSet, dLRg, List.getElem?_cons_zero, List.getElem?_cons_succ, List.set_cons_zero, List.set_cons_succ, List.cons_append, List.nil_append, List.replicate_succ, List.replicate_zero, List.length_cons, List.length_nil, Option.some.injEq, exists_eq_left', exists_eq_left, Wv.pu.injEq, D.sc.injEq, V.bl.injEq, V.int.injEq, V.str.injEq, Nat.reduceSub, Nat.reduceAdd, List.cons.injEq, and_true, true_and, exists_and_left, Option.map_some, if_true, if_false, Bool.false_eq_true, exists_eq_right, ex2a, ex2b, ex2c, D.tup.injEq, D.lst.injEq, M.lst.injEq, eq_self, strsL]
  show N _
  rw [hN]
  clear hN N
  refine seq_o fun N hN => ?_
  simp only [dSet, dRet, dRetN, dIfS, dFor, dIt, dgName, dgNil, dgCons, dgTup, dgLst, dgTxt, dgSet, dVar, dC, dG, dOp, dUn, dCallP, dCons, dNil, dTst, dAnd, dOr, dNot, dAndV, dOrV, dNotV, dIf, dFz, dTup, dLst, dCall, dChain, dSl, dONo, dOSome, dMs, dMi, dAsg, dPar, dDrop, dLc, dLc2, dYes, dRng1, dRng2, dEnum, dZip, dLam, dNewD, dRaise, dNext, dBrk, dCnt, DS.put, DS.wipe, DS.rest, wipeL, restL, val, slD, vals, frz1, put1, out1, pures, dargs, dback, getM, setM, M.frz, start0, par, dEnds, isRes, itemsD, p2i, addP, subP, mulP, divP, modP, powP, DL.ltP, DL.leP, DL.gtP, DL.geP, eqP, inP, isNP, ixP, lenP, isiP, allP, anyP, intP, listP, tupleP, sortedSP, reprP, slP, revP, negP, findP, countP, joinP, appP, insP, tyD, lenD, dMl, lcountP, isBP, dLSet, dLRg, List.getElem?_cons_zero, List.getElem?_cons_succ, List.set_cons_zero, List.set_cons_succ, List.cons_append, List.nil_append, List.replicate_succ, List.replicate_zero, List.length_cons, List.length_nil, Option.some.injEq, exists_eq_left', exists_eq_left, Wv.pu.injEq, D.sc.injEq, V.bl.injEq, V.int.injEq, V.str.injEq, Nat.reduceSub, Nat.reduceAdd, List.cons.injEq, and_true, true_and, exists_and_left, Option.map_some, if_true, if_false, Bool.false_eq_true, exists_eq_right, ex2a, ex2b, ex2c, D.tup.injEq, D.lst.injEq, M.lst.injEq, eq_self, strsL]
  refine repr_ok (by omega) m2 m3 ?_
  refine call_ok (ds := [kt ks, DI' r, DS' z]) rfl rfl ⟨ks, r, z, rfl, hk, h3, hl, hb, r1, r3⟩ ?_
  simp only [List.getD_cons_zero, List.getD_cons_succ, e6, eq, str, nat]
  simp only [dSet, dRet, dRetN, dIfS, dFor, dIt, dgName, dgNil, dgCons, dgTup, dgLst, dgTxt, dgSet, dVar, dC, dG, dOp, dUn, dCallP, dCons, dNil, dTst, dAnd, dOr, dNot, dAndV, dOrV, dNotV, dIf, dFz, dTup, dLst, dCall, dChain, dSl, dONo, dOSome, dMs, dMi, dAsg, dPar, dDrop, dLc, dLc2, dYes, dRng1, dRng2, dEnum, dZip, dLam, dNewD, dRaise, dNext, dBrk, dCnt, DS.put, DS.wipe, DS.rest, wipeL, restL, val, slD, vals, frz1, put1, out1, pures, dargs, dback, getM, setM, M.frz, start0, par, dEnds, isRes, itemsD, p2i, addP, subP, mulP, divP, modP, powP, DL.ltP, DL.leP, DL.gtP, DL.geP, eqP, inP, isNP, ixP, lenP, isiP, allP, anyP, intP, listP, tupleP, sortedSP, reprP, slP, revP, negP, findP, countP, joinP, appP, insP, tyD, lenD, dMl, lcountP, isBP, dLSet, dLRg, List.getElem?_cons_zero, List.getElem?_cons_succ, List.set_cons_zero, List.set_cons_succ, List.cons_append, List.nil_append, List.replicate_succ, List.replicate_zero, List.length_cons, List.length_nil, Option.some.injEq, exists_eq_left', exists_eq_left, Wv.pu.injEq, D.sc.injEq, V.bl.injEq, V.int.injEq, V.str.injEq, Nat.reduceSub, Nat.reduceAdd, List.cons.injEq, and_true, true_and, exists_and_left, Option.map_some, if_true, if_false, Bool.false_eq_true, exists_eq_right, ex2a, ex2b, ex2c, D.tup.injEq, D.lst.injEq, M.lst.injEq, eq_self, strsL]
  refine repr_ok (by omega) m2 m3 ?_
  simp only [dSet, dRet, dRetN, dIfS, dFor, dIt, dgName, dgNil, dgCons, dgTup, dgLst, dgTxt, dgSet, dVar, dC, dG, dOp, dUn, dCallP, dCons, dNil, dTst, dAnd, dOr, dNot, dAndV, dOrV, dNotV, dIf, dFz, dTup, dLst, dCall, dChain, dSl, dONo, dOSome, dMs, dMi, dAsg, dPar, dDrop, dLc, dLc2, dYes, dRng1, dRng2, dEnum, dZip, dLam, dNewD, dRaise, dNext, dBrk, dCnt, DS.put, DS.wipe, DS.rest, wipeL, restL, val, slD, vals, frz1, put1, out1, pures, dargs, dback, getM, setM, M.frz, start0, par, dEnds, isRes, itemsD, p2i, addP, subP, mulP, divP, modP, powP, DL.ltP, DL.leP, DL.gtP, DL.geP, eqP, inP, isNP, ixP, lenP, isiP, allP, anyP, intP, listP, tupleP, sortedSP, reprP, slP, revP, negP, findP, countP, joinP, appP, insP, tyD, lenD, dMl, lcountP, isBP, dLSet, dLRg, List.getElem?_cons_zero, List.getElem?_cons_succ, List.set_cons_zero, List.set_cons_succ, List.cons_append, List.nil_append, List.replicate_succ, List.replicate_zero, List.length_cons, List.length_nil, Option.some.injEq, exists_eq_left', exists_eq_left, Wv.pu.injEq, D.sc.injEq, V.bl.injEq, V.int.injEq, V.str.injEq, Nat.reduceSub, Nat.reduceAdd, List.cons.injEq, and_true, true_and, exists_and_left, Option.map_some, if_true, if_false, Bool.false_eq_true, exists_eq_right, ex2a, ex2b, ex2c, D.tup.injEq, D.lst.injEq, M.lst.injEq, eq_self]
  refine ⟨rfl, ?_⟩
  rw [if_neg (by simp), hN]
  simp only [dSet, dRet, dRetN, dIfS, dFor, dIt, dgName, dgNil, dgCons, dgTup, dgLst, dgTxt, dgSet, dVar, dC, dG, dOp, dUn, dCallP, dCons, dNil, dTst, dAnd, dOr, dNot, dAndV, dOrV, dNotV, dIf, dFz, dTup, dLst, dCall, dChain, dSl, dONo, dOSome, dMs, dMi, dAsg, dPar, dDrop, dLc, dLc2, dYes, dRng1, dRng2, dEnum, dZip, dLam, dNewD, dRaise, dNext, dBrk, dCnt, DS.put, DS.wipe, DS.rest, wipeL, restL, val, slD, vals, frz1, put1, out1, pures, dargs, dback, getM, setM, M.frz, start0, par, dEnds, isRes, itemsD, p2i, addP, subP, mulP, divP, modP, powP, DL.ltP, DL.leP, DL.gtP, DL.geP, eqP, inP, isNP, ixP, lenP, isiP, allP, anyP, intP, listP, tupleP, sortedSP, reprP, slP, revP, negP, findP, countP, joinP, appP, insP, tyD, lenD, dMl, lcountP, isBP, dLSet, dLRg, List.getElem?_cons_zero, List.getElem?_cons_succ, List.set_cons_zero, List.set_cons_succ, List.cons_append, List.nil_append, List.replicate_succ, List.replicate_zero, List.length_cons, List.length_nil, Option.some.injEq, exists_eq_left', exists_eq_left, Wv.pu.injEq, D.sc.injEq, V.bl.injEq, V.int.injEq, V.str.injEq, Nat.reduceSub, Nat.reduceAdd, List.cons.injEq, and_true, true_and, exists_and_left, Option.map_some, if_true, if_false, Bool.false_eq_true, exists_eq_right, ex2a, ex2b, ex2c, D.tup.injEq, D.lst.injEq, M.lst.injEq, eq_self, List.length_map]
  exact ⟨⟨_, rfl⟩, Nat.lt_of_le_of_lt m1 (by decide), g _⟩
end
end Lw

/-! text RO -/
set_option Elab.async false
set_option linter.all false
set_option maxRecDepth 100000
set_option maxHeartbeats 4000000
namespace Lw
open PySem PySem.Spec PyProof.Rows L2 DL
section
variable {P : Program} {w : World} {base : Heap} {K : PySem.W.Frag} {ws : List Wv} {Q : Wv → List Wv → Prop} {Y : Value → List Wv → Prop} {mg : Str → Option Value}
theorem k_body {k : Str} {b : Nat} {pen : List D} {s0 s2 s4 s5 s6 s7 s8 s9 s10 s11 s12 s13 : Option Wv} {an : List Wv} {E : DEnds} (hk : isK k = true) (hp : PenOk b pen) (hb : b < 1000)
    (g : ∀ pen' s4 s5 s6 s7, PenOk (b + 1) pen' → E.nx ⟨[s0, some (.ow (.lst pen')), s2, some (.pu (DS' k)), s4, s5, s6, s7, s8, s9, s10, s11, s12, s13], an⟩) :
    dSeq (dSet 4 (dOp addP (dC (.int 1)) (dCall ((sp__law_take K)) (dCons (dVar 1) (dCons (dC (.int 5)) (dNil))))))
  (dFor (dIt (dC (.str "01?"))) (dgName 5) (dFor (dRng1 (dCons (dC (.int 2)) (dNil))) (dgName 6) (dSeq (dSet 7 (dCall ((sp_reads K)) (dCons (dFz (dVar 3)) (dCons (dFz (dVar 5)) (dCons (dFz (dVar 4)) (dNil))))))
  (dSeq (dIfS (dTst (dOp (eqP true) (dCallP reprP (dCons (dVar 7) (dNil))) (dCallP reprP (dCons (dCall ((sp__law_reads K)) (dCons (dFz (dVar 3)) (dCons (dFz (dVar 5)) (dCons (dFz (dVar 4)) (dNil))))) (dNil))))) (dRet (dC (.bl false))) (dNext))
  (dDrop (dMi appP (dVar 7) (dCons (dC .non) (dNil)))))))) E ⟨[s0, some (.ow (.lst pen)), s2, some (.pu (DS' k)), s4, s5, s6, s7, s8, s9, s10, s11, s12, s13], an⟩ := by
  refine seq_o fun N hN => ?_
  simp only [dSet, dRet, dRetN, dIfS, dFor, dIt, dgName, dgNil, dgCons, dgTup, dgLst, dgTxt, dgSet, dVar, dC, dG, dOp, dUn, dCallP, dCons, dNil, dTst, dAnd, dOr, dNot, dAndV, dOrV, dNotV, dIf, dFz, dTup, dLst, dCall, dChain, dSl, dONo, dOSome, dMs, dMi, dAsg, dPar, dDrop, dLc, dLc2, dYes, dRng1, dRng2, dEnum, dZip, dLam, dNewD, dRaise, dNext, dBrk, dCnt, DS.put, DS.wipe, DS.rest, wipeL, restL, val, slD, vals, frz1, put1, out1, pures, dargs, dback, getM, setM, M.frz, start0, par, dEnds, isRes, itemsD, p2i, addP, subP, mulP, divP, modP, powP, DL.ltP, DL.leP, DL.gtP, DL.geP, eqP, inP, isNP, ixP, lenP, isiP, allP, anyP, intP, listP, tupleP, sortedSP, reprP, slP, revP, negP, findP, countP, joinP, appP, insP, tyD, lenD, dMl, lcountP, isBP, dLSet, dLRg, List.getElem?_cons_zero, List.getElem?_cons_succ, List.set_cons_zero, List.set_cons_succ, List.cons_append, List.nil_append, List.replicate_succ, List.replicate_zero, List.length_cons, List.length_nil, Option.some.injEq, exists_eq_left', exists_eq_left, Wv.pu.injEq, D.sc.injEq, V.bl.injEq, V.int.injEq, V.str.injEq, Nat.reduceSub, Nat.reduceAdd, List.cons.injEq, and_true, true_and, exists_and_left, Option.map_some, if_true, if_false, Bool.false_eq_true, exists_eq_right, ex2a, ex2b, ex2c, D.tup.injEq, D.lst.injEq, M.lst.injEq, eq_self]
  refine ⟨b, pen, 5, rfl, hp, by omega, by decide, by decide, fun v pen' v0 v5 hp' => ?_⟩
  simp only [dSet, dRet, dRetN, dIfS, dFor, dIt, dgName, dgNil, dgCons, dgTup, dgLst, dgTxt, dgSet, dVar, dC, dG, dOp, dUn, dCallP, dCons, dNil, dTst, dAnd, dOr, dNot, dAndV, dOrV, dNotV, dIf, dFz, dTup, dLst, dCall, dChain, dSl, dONo, dOSome, dMs, dMi, dAsg, dPar, dDrop, dLc, dLc2, dYes, dRng1, dRng2, dEnum, dZip, dLam, dNewD, dRaise, dNext, dBrk, dCnt, DS.put, DS.wipe, DS.rest, wipeL, restL, val, slD, vals, frz1, put1, out1, pures, dargs, dback, getM, setM, M.frz, start0, par, dEnds, isRes, itemsD, p2i, addP, subP, mulP, divP, modP, powP, DL.ltP, DL.leP, DL.gtP, DL.geP, eqP, inP, isNP, ixP, lenP, isiP, allP, anyP, intP, listP, tupleP, sortedSP, reprP, slP, revP, negP, findP, countP, joinP, appP, insP, tyD, lenD, dMl, lcountP, isBP, dLSet, dLRg, List.getElem?_cons_zero, List.getElem?_cons_succ, List.set_cons_zero, List.set_cons_succ, List.cons_append, List.nil_append, List.replicate_succ, List.replicate_zero, List.length_cons, List.length_nil, Option.some.injEq, exists_eq_left', exists_eq_left, Wv.pu.injEq, D.sc.injEq, V.bl.injEq, V.int.injEq, V.str.injEq, Nat.reduceSub, Nat.reduceAdd, List.cons.injEq, and_true, true_and, exists_and_left, Option.map_some, if_true, if_false, Bool.false_eq_true, exists_eq_right, ex2a, ex2b, ex2c, D.tup.injEq, D.lst.injEq, M.lst.injEq, eq_self]
  rw [hN]
  refine for_a fun T hT => ?_
  simp only [dSet, dRet, dRetN, dIfS, dFor, dIt, dgName, dgNil, dgCons, dgTup, dgLst, dgTxt, dgSet, dVar, dC, dG, dOp, dUn, dCallP, dCons, dNil, dTst, dAnd, dOr, dNot, dAndV, dOrV, dNotV, dIf, dFz, dTup, dLst, dCall, dChain, dSl, dONo, dOSome, dMs, dMi, dAsg, dPar, dDrop, dLc, dLc2, dYes, dRng1, dRng2, dEnum, dZip, dLam, dNewD, dRaise, dNext, dBrk, dCnt, DS.put, DS.wipe, DS.rest, wipeL, restL, val, slD, vals, frz1, put1, out1, pures, dargs, dback, getM, setM, M.frz, start0, par, dEnds, isRes, itemsD, p2i, addP, subP, mulP, divP, modP, powP, DL.ltP, DL.leP, DL.gtP, DL.geP, eqP, inP, isNP, ixP, lenP, isiP, allP, anyP, intP, listP, tupleP, sortedSP, reprP, slP, revP, negP, findP, countP, joinP, appP, insP, tyD, lenD, dMl, lcountP, isBP, dLSet, dLRg, List.getElem?_cons_zero, List.getElem?_cons_succ, List.set_cons_zero, List.set_cons_succ, List.cons_append, List.nil_append, List.replicate_succ, List.replicate_zero, List.length_cons, List.length_nil, Option.some.injEq, exists_eq_left', exists_eq_left, Wv.pu.injEq, D.sc.injEq, V.bl.injEq, V.int.injEq, V.str.injEq, Nat.reduceSub, Nat.reduceAdd, List.cons.injEq, and_true, true_and, exists_and_left, Option.map_some, if_true, if_false, Bool.false_eq_true, exists_eq_right, ex2a, ex2b, ex2c, D.tup.injEq, D.lst.injEq, M.lst.injEq, eq_self]
  refine for_i (fun j δ => ∃ s5 s6 s7, δ = ⟨[s0, some (.ow (.lst pen')), s2, some (.pu (DS' k)), some (.pu (DI' (1 + v))), s5, s6, s7, s8, s9, s10, s11, s12, s13], an⟩) ⟨s5, s6, s7, rfl⟩ (fun j d δ K' hd hI kk => ?_) (fun δ hI => ?_)
  · obtain ⟨s5, s6, s7, rfl⟩ := hI
    obtain ⟨c, hc, rfl⟩ := List.mem_map.mp (List.mem_of_getElem? hd)
    have hbit : isBit (sign c) = true := by
      have : ∀ c ∈ ("01?" : Str).cps.toList, isBit (sign c) = true := by decide +kernel
      exact this c hc
    simp only [dSet, dRet, dRetN, dIfS, dFor, dIt, dgName, dgNil, dgCons, dgTup, dgLst, dgTxt, dgSet, dVar, dC, dG, dOp, dUn, dCallP, dCons, dNil, dTst, dAnd, dOr, dNot, dAndV, dOrV, dNotV, dIf, dFz, dTup, dLst, dCall, dChain, dSl, dONo, dOSome, dMs, dMi, dAsg, dPar, dDrop, dLc, dLc2, dYes, dRng1, dRng2, dEnum, dZip, dLam, dNewD, dRaise, dNext, dBrk, dCnt, DS.put, DS.wipe, DS.rest, wipeL, restL, val, slD, vals, frz1, put1, out1, pures, dargs, dback, getM, setM, M.frz, start0, par, dEnds, isRes, itemsD, p2i, addP, subP, mulP, divP, modP, powP, DL.ltP, DL.leP, DL.gtP, DL.geP, eqP, inP, isNP, ixP, lenP, isiP, allP, anyP, intP, listP, tupleP, sortedSP, reprP, slP, revP, negP, findP, countP, joinP, appP, insP, tyD, lenD, dMl, lcountP, isBP, dLSet, dLRg, List.getElem?_cons_zero, List.getElem?_cons_succ, List.set_cons_zero, List.set_cons_succ, List.cons_append, List.nil_append, List.replicate_succ, List.replicate_zero, List.length_cons, List.length_nil, Option.some.injEq, exists_eq_left', exists_eq_left, Wv.pu.injEq, D.sc.injEq, V.bl.injEq, V.int.injEq, V.str.injEq, Nat.reduceSub, Nat.reduceAdd, List.cons.injEq, and_true, true_and, exists_and_left, Option.map_some, if_true, if_false, Bool.false_eq_true, exists_eq_right, ex2a, ex2b, ex2c, D.tup.injEq, D.lst.injEq, M.lst.injEq, eq_self]
    rw [hT]
    refine for_a fun T2 hT2 => ?_
    simp only [dSet, dRet, dRetN, dIfS, dFor, dIt, dgName, dgNil, dgCons, dgTup, dgLst, dgTxt, dgSet, dVar, dC, dG, dOp, dUn, dCallP, dCons, dNil, dTst, dAnd, dOr, dNot, dAndV, dOrV, dNotV, dIf, dFz, dTup, dLst, dCall, dChain, dSl, dONo, dOSome, dMs, dMi, dAsg, dPar, dDrop, dLc, dLc2, dYes, dRng1, dRng2, dEnum, dZip, dLam, dNewD, dRaise, dNext, dBrk, dCnt, DS.put, DS.wipe, DS.rest, wipeL, restL, val, slD, vals, frz1, put1, out1, pures, dargs, dback, getM, setM, M.frz, start0, par, dEnds, isRes, itemsD, p2i, addP, subP, mulP, divP, modP, powP, DL.ltP, DL.leP, DL.gtP, DL.geP, eqP, inP, isNP, ixP, lenP, isiP, allP, anyP, intP, listP, tupleP, sortedSP, reprP, slP, revP, negP, findP, countP, joinP, appP, insP, tyD, lenD, dMl, lcountP, isBP, dLSet, dLRg, List.getElem?_cons_zero, List.getElem?_cons_succ, List.set_cons_zero, List.set_cons_succ, List.cons_append, List.nil_append, List.replicate_succ, List.replicate_zero, List.length_cons, List.length_nil, Option.some.injEq, exists_eq_left', exists_eq_left, Wv.pu.injEq, D.sc.injEq, V.bl.injEq, V.int.injEq, V.str.injEq, Nat.reduceSub, Nat.reduceAdd, List.cons.injEq, and_true, true_and, exists_and_left, Option.map_some, if_true, if_false, Bool.false_eq_true, exists_eq_right, ex2a, ex2b, ex2c, D.tup.injEq, D.lst.injEq, M.lst.injEq, eq_self]
    refine ⟨by decide, by decide, ?_⟩
    refine for_i (fun i δ => ∃ s6 s7, δ = ⟨[s0, some (.ow (.lst pen')), s2, some (.pu (DS' k)), some (.pu (DI' (1 + v))), some (.pu (DS' (sign c))), s6, s7, s8, s9, s10, s11, s12, s13], an⟩) ⟨s6, s7, rfl⟩ (fun i d δ K2 hd2 hI2 k2 => ?_) (fun δ hI2 => ?_)
    · obtain ⟨s6, s7, rfl⟩ := hI2
      simp only [dSet, dRet, dRetN, dIfS, dFor, dIt, dgName, dgNil, dgCons, dgTup, dgLst, dgTxt, dgSet, dVar, dC, dG, dOp, dUn, dCallP, dCons, dNil, dTst, dAnd, dOr, dNot, dAndV, dOrV, dNotV, dIf, dFz, dTup, dLst, dCall, dChain, dSl, dONo, dOSome, dMs, dMi, dAsg, dPar, dDrop, dLc, dLc2, dYes, dRng1, dRng2, dEnum, dZip, dLam, dNewD, dRaise, dNext, dBrk, dCnt, DS.put, DS.wipe, DS.rest, wipeL, restL, val, slD, vals, frz1, put1, out1, pures, dargs, dback, getM, setM, M.frz, start0, par, dEnds, isRes, itemsD, p2i, addP, subP, mulP, divP, modP, powP, DL.ltP, DL.leP, DL.gtP, DL.geP, eqP, inP, isNP, ixP, lenP, isiP, allP, anyP, intP, listP, tupleP, sortedSP, reprP, slP, revP, negP, findP, countP, joinP, appP, insP, tyD, lenD, dMl, lcountP, isBP, dLSet, dLRg, List.getElem?_cons_zero, List.getElem?_cons_succ, List.set_cons_zero, List.set_cons_succ, List.cons_append, List.nil_append, List.replicate_succ, List.replicate_zero, List.length_cons, List.length_nil, Option.some.injEq, exists_eq_left', exists_eq_left, Wv.pu.injEq, D.sc.injEq, V.bl.injEq, V.int.injEq, V.str.injEq, Nat.reduceSub, Nat.reduceAdd, List.cons.injEq, and_true, true_and, exists_and_left, Option.map_some, if_true, if_false, Bool.false_eq_true, exists_eq_right, ex2a, ex2b, ex2c, D.tup.injEq, D.lst.injEq, M.lst.injEq, eq_self]
      rw [hT2]
      exact b_body hk hbit (by omega) (by omega) fun x => k2 _ ⟨_, _, rfl⟩
    · obtain ⟨s6, s7, rfl⟩ := hI2
      exact kk _ ⟨_, _, _, rfl⟩
  · obtain ⟨s5, s6, s7, rfl⟩ := hI
    exact g _ _ _ _ _ hp'
theorem t_body {ns : List Int} {b : Nat} {pen : List D} {s2 s3 s4 s5 s6 s7 s8 s9 s10 s11 s12 : Option Wv} {an : List Wv} {E : DEnds} (hp : PenOk b pen) (hb : b ≤ 100)
    (g : ∀ pen' s3 s4 s5 s6 s7 s8 s9 s10, PenOk (b + 20) pen' → E.nx ⟨[some (.pu (.scr ns)), some (.ow (.lst pen')), s2, s3, s4, s5, s6, s7, s8, s9, s10, s11, s12, none], an⟩) :
    (dSeq (dFor (dIt (dLst (dCons (dC (.str "plain")) (dCons (dC (.str "low")) (dCons (dC (.str "high")) (dNil)))))) (dgName 3) (dSeq (dSet 4 (dOp addP (dC (.int 1)) (dCall ((sp__law_take K)) (dCons (dVar 1) (dCons (dC (.int 5)) (dNil))))))
  (dFor (dIt (dC (.str "01?"))) (dgName 5) (dFor (dRng1 (dCons (dC (.int 2)) (dNil))) (dgName 6) (dSeq (dSet 7 (dCall ((sp_reads K)) (dCons (dFz (dVar 3)) (dCons (dFz (dVar 5)) (dCons (dFz (dVar 4)) (dNil))))))
  (dSeq (dIfS (dTst (dOp (eqP true) (dCallP reprP (dCons (dVar 7) (dNil))) (dCallP reprP (dCons (dCall ((sp__law_reads K)) (dCons (dFz (dVar 3)) (dCons (dFz (dVar 5)) (dCons (dFz (dVar 4)) (dNil))))) (dNil))))) (dRet (dC (.bl false))) (dNext))
  (dDrop (dMi appP (dVar 7) (dCons (dC .non) (dNil))))))))))
  (dSeq (dPar 8 4 (dCons (dFz (dOp addP (dC (.int 1)) (dCall ((sp__law_take K)) (dCons (dVar 1) (dCons (dC (.int 3)) (dNil)))))) (dCons (dFz (dOp addP (dC (.int 1)) (dCall ((sp__law_take K)) (dCons (dVar 1) (dCons (dC (.int 3)) (dNil)))))) (dNil))))
  (dSeq (dPar 9 10 (dCons (dFz (dCall ((sp__law_any_kinds K)) (dCons (dVar 1) (dCons (dFz (dVar 8)) (dNil))))) (dCons (dFz (dCall ((sp__law_any_word K)) (dCons (dVar 1) (dCons (dFz (dVar 8)) (dNil))))) (dNil))))
  (dSeq (dFor (dRng1 (dCons (dC (.int 2)) (dNil))) (dgName 6) (dSeq (dSet 7 (dCall ((sp_rows_of K)) (dCons (dFz (dVar 9)) (dCons (dFz (dVar 4)) (dCons (dFz (dVar 10)) (dNil))))))
  (dSeq (dIfS (dTst (dOp (eqP true) (dCallP reprP (dCons (dVar 7) (dNil))) (dCallP reprP (dCons (dCall ((sp__law_rows K)) (dCons (dFz (dVar 9)) (dCons (dFz (dVar 4)) (dCons (dFz (dVar 10)) (dNil))))) (dNil))))) (dRet (dC (.bl false))) (dNext))
  (dDrop (dMi appP (dVar 7) (dCons (dC .non) (dNil)))))))
  (dIfS (dNot (dTst (dCall ((sp__law_refused_right K)) (dCons (dFz (dVar 9)) (dCons (dFz (dVar 4)) (dCons (dFz (dVar 10)) (dNil))))))) (dRet (dC (.bl false))) (dNext)))))) E ⟨[some (.pu (.scr ns)), some (.ow (.lst pen)), s2, s3, s4, s5, s6, s7, s8, s9, s10, s11, s12, none], an⟩ := by
  refine seq_o fun N hN => ?_
  refine for_a fun T hT => ?_
  simp only [dSet, dRet, dRetN, dIfS, dFor, dIt, dgName, dgNil, dgCons, dgTup, dgLst, dgTxt, dgSet, dVar, dC, dG, dOp, dUn, dCallP, dCons, dNil, dTst, dAnd, dOr, dNot, dAndV, dOrV, dNotV, dIf, dFz, dTup, dLst, dCall, dChain, dSl, dONo, dOSome, dMs, dMi, dAsg, dPar, dDrop, dLc, dLc2, dYes, dRng1, dRng2, dEnum, dZip, dLam, dNewD, dRaise, dNext, dBrk, dCnt, DS.put, DS.wipe, DS.rest, wipeL, restL, val, slD, vals, frz1, put1, out1, pures, dargs, dback, getM, setM, M.frz, start0, par, dEnds, isRes, itemsD, p2i, addP, subP, mulP, divP, modP, powP, DL.ltP, DL.leP, DL.gtP, DL.geP, eqP, inP, isNP, ixP, lenP, isiP, allP, anyP, intP, listP, tupleP, sortedSP, reprP, slP, revP, negP, findP, countP, joinP, appP, insP, tyD, lenD, dMl, lcountP, isBP, dLSet, dLRg, List.getElem?_cons_zero, List.getElem?_cons_succ, List.set_cons_zero, List.set_cons_succ, List.cons_append, List.nil_append, List.replicate_succ, List.replicate_zero, List.length_cons, List.length_nil, Option.some.injEq, exists_eq_left', exists_eq_left, Wv.pu.injEq, D.sc.injEq, V.bl.injEq, V.int.injEq, V.str.injEq, Nat.reduceSub, Nat.reduceAdd, List.cons.injEq, and_true, true_and, exists_and_left, Option.map_some, if_true, if_false, Bool.false_eq_true, exists_eq_right, ex2a, ex2b, ex2c, D.tup.injEq, D.lst.injEq, M.lst.injEq, eq_self]
  refine ⟨by decide, ?_⟩
  refine for_i (fun j δ => ∃ pen' s3 s4 s5 s6 s7, PenOk (b + j) pen' ∧ δ = ⟨[some (.pu (.scr ns)), some (.ow (.lst pen')), s2, s3, s4, s5, s6, s7, s8, s9, s10, s11, s12, none], an⟩) ⟨pen, s3, s4, s5, s6, s7, hp, rfl⟩ (fun j d δ K' hd hI kk => ?_) (fun δ hI => ?_)
  · obtain ⟨pen', s3, s4, s5, s6, s7, hp', rfl⟩ := hI
    have hj : j < 3 := (List.getElem?_eq_some_iff.mp hd).1
    have hk : isKD d = true := all_at (by decide +kernel) hd
    simp only [dSet, dRet, dRetN, dIfS, dFor, dIt, dgName, dgNil, dgCons, dgTup, dgLst, dgTxt, dgSet, dVar, dC, dG, dOp, dUn, dCallP, dCons, dNil, dTst, dAnd, dOr, dNot, dAndV, dOrV, dNotV, dIf, dFz, dTup, dLst, dCall, dChain, dSl, dONo, dOSome, dMs, dMi, dAsg, dPar, dDrop, dLc, dLc2, dYes, dRng1, dRng2, dEnum, dZip, dLam, dNewD, dRaise, dNext, dBrk, dCnt, DS.put, DS.wipe, DS.rest, wipeL, restL, val, slD, vals, frz1, put1, out1, pures, dargs, dback, getM, setM, M.frz, start0, par, dEnds, isRes, itemsD, p2i, addP, subP, mulP, divP, modP, powP, DL.ltP, DL.leP, DL.gtP, DL.geP, eqP, inP, isNP, ixP, lenP, isiP, allP, anyP, intP, listP, tupleP, sortedSP, reprP, slP, revP, negP, findP, countP, joinP, appP, insP, tyD, lenD, dMl, lcountP, isBP, dLSet, dLRg, List.getElem?_cons_zero, List.getElem?_cons_succ, List.set_cons_zero, List.set_cons_succ, List.cons_append, List.nil_append, List.replicate_succ, List.replicate_zero, List.length_cons, List.length_nil, Option.some.injEq, exists_eq_left', exists_eq_left, Wv.pu.injEq, D.sc.injEq, V.bl.injEq, V.int.injEq, V.str.injEq, Nat.reduceSub, Nat.reduceAdd, List.cons.injEq, and_true, true_and, exists_and_left, Option.map_some, if_true, if_false, Bool.false_eq_true, exists_eq_right, ex2a, ex2b, ex2c, D.tup.injEq, D.lst.injEq, M.lst.injEq, eq_self]
    rw [hT]
    obtain ⟨k, rfl, hk'⟩ : ∃ k, d = DS' k ∧ isK k = true := by
      cases d with
      | sc v =>
        cases v with
        | str k => exact ⟨k, rfl, hk⟩
        | _ => cases hk
      | _ => cases hk
    exact k_body hk' hp' (by omega) fun pen' s4 s5 s6 s7 h => kk _ ⟨pen', some (.pu (DS' k)), s4, s5, s6, s7, h, rfl⟩
  obtain ⟨pen', s3, s4, s5, s6, s7, hp', rfl⟩ := hI
  clear hT T
  show N _
  rw [hN]
  clear hN N
  refine seq_o fun N hN => ?_
  simp only [dSet, dRet, dRetN, dIfS, dFor, dIt, dgName, dgNil, dgCons, dgTup, dgLst, dgTxt, dgSet, dVar, dC, dG, dOp, dUn, dCallP, dCons, dNil, dTst, dAnd, dOr, dNot, dAndV, dOrV, dNotV, dIf, dFz, dTup, dLst, dCall, dChain, dSl, dONo, dOSome, dMs, dMi, dAsg, dPar, dDrop, dLc, dLc2, dYes, dRng1, dRng2, dEnum, dZip, dLam, dNewD, dRaise, dNext, dBrk, dCnt, DS.put, DS.wipe, DS.rest, wipeL, restL, val, slD, vals, frz1, put1, out1, pures, dargs, dback, getM, setM, M.frz, start0, par, dEnds, isRes, itemsD, p2i, addP, subP, mulP, divP, modP, powP, DL.ltP, DL.leP, DL.gtP, DL.geP, eqP, inP, isNP, ixP, lenP, isiP, allP, anyP, intP, listP, tupleP, sortedSP, reprP, slP, revP, negP, findP, countP, joinP, appP, insP, tyD, lenD, dMl, lcountP, isBP, dLSet, dLRg, List.getElem?_cons_zero, List.getElem?_cons_succ, List.set_cons_zero, List.set_cons_succ, List.cons_append, List.nil_append, List.replicate_succ, List.replicate_zero, List.length_cons, List.length_nil, Option.some.injEq, exists_eq_left', exists_eq_left, Wv.pu.injEq, D.sc.injEq, V.bl.injEq, V.int.injEq, V.str.injEq, Nat.reduceSub, Nat.reduceAdd, List.cons.injEq, and_true, true_and, exists_and_left, Option.map_some, if_true, if_false, Bool.false_eq_true, exists_eq_right, ex2a, ex2b, ex2c, D.tup.injEq, D.lst.injEq, M.lst.injEq, eq_self]
  refine ⟨b + 3, pen', 3, rfl, hp', by omega, by decide, by decide, fun v1 pen1 a1 a2 hp1 => ?_⟩
  simp only [dSet, dRet, dRetN, dIfS, dFor, dIt, dgName, dgNil, dgCons, dgTup, dgLst, dgTxt, dgSet, dVar, dC, dG, dOp, dUn, dCallP, dCons, dNil, dTst, dAnd, dOr, dNot, dAndV, dOrV, dNotV, dIf, dFz, dTup, dLst, dCall, dChain, dSl, dONo, dOSome, dMs, dMi, dAsg, dPar, dDrop, dLc, dLc2, dYes, dRng1, dRng2, dEnum, dZip, dLam, dNewD, dRaise, dNext, dBrk, dCnt, DS.put, DS.wipe, DS.rest, wipeL, restL, val, slD, vals, frz1, put1, out1, pures, dargs, dback, getM, setM, M.frz, start0, par, dEnds, isRes, itemsD, p2i, addP, subP, mulP, divP, modP, powP, DL.ltP, DL.leP, DL.gtP, DL.geP, eqP, inP, isNP, ixP, lenP, isiP, allP, anyP, intP, listP, tupleP, sortedSP, reprP, slP, revP, negP, findP, countP, joinP, appP, insP, tyD, lenD, dMl, lcountP, isBP, dLSet, dLRg, List.getElem?_cons_zero, List.getElem?_cons_succ, List.set_cons_zero, List.set_cons_succ, List.cons_append, List.nil_append, List.replicate_succ, List.replicate_zero, List.length_cons, List.length_nil, Option.some.injEq, exists_eq_left', exists_eq_left, Wv.pu.injEq, D.sc.injEq, V.bl.injEq, V.int.injEq, V.str.injEq, Nat.reduceSub, Nat.reduceAdd, List.cons.injEq, and_true, true_and, exists_and_left, Option.map_some, if_true, if_false, Bool.false_eq_true, exists_eq_right, ex2a, ex2b, ex2c, D.tup.injEq, D.lst.injEq, M.lst.injEq, eq_self]
  refine ⟨b + 3 + 1, pen1, 3, rfl, hp1, by omega, by decide, by decide, fun v2 pen2 a3 a4 hp2 => ?_⟩
  simp only [dSet, dRet, dRetN, dIfS, dFor, dIt, dgName, dgNil, dgCons, dgTup, dgLst, dgTxt, dgSet, dVar, dC, dG, dOp, dUn, dCallP, dCons, dNil, dTst, dAnd, dOr, dNot, dAndV, dOrV, dNotV, dIf, dFz, dTup, dLst, dCall, dChain, dSl, dONo, dOSome, dMs, dMi, dAsg, dPar, dDrop, dLc, dLc2, dYes, dRng1, dRng2, dEnum, dZip, dLam, dNewD, dRaise, dNext, dBrk, dCnt, DS.put, DS.wipe, DS.rest, wipeL, restL, val, slD, vals, frz1, put1, out1, pures, dargs, dback, getM, setM, M.frz, start0, par, dEnds, isRes, itemsD, p2i, addP, subP, mulP, divP, modP, powP, DL.ltP, DL.leP, DL.gtP, DL.geP, eqP, inP, isNP, ixP, lenP, isiP, allP, anyP, intP, listP, tupleP, sortedSP, reprP, slP, revP, negP, findP, countP, joinP, appP, insP, tyD, lenD, dMl, lcountP, isBP, dLSet, dLRg, List.getElem?_cons_zero, List.getElem?_cons_succ, List.set_cons_zero, List.set_cons_succ, List.cons_append, List.nil_append, List.replicate_succ, List.replicate_zero, List.length_cons, List.length_nil, Option.some.injEq, exists_eq_left', exists_eq_left, Wv.pu.injEq, D.sc.injEq, V.bl.injEq, V.int.injEq, V.str.injEq, Nat.reduceSub, Nat.reduceAdd, List.cons.injEq, and_true, true_and, exists_and_left, Option.map_some, if_true, if_false, Bool.false_eq_true, exists_eq_right, ex2a, ex2b, ex2c, D.tup.injEq, D.lst.injEq, M.lst.injEq, eq_self]
  show N _
  rw [hN]
  clear hN N
  refine seq_o fun N hN => ?_
  simp only [dSet, dRet, dRetN, dIfS, dFor, dIt, dgName, dgNil, dgCons, dgTup, dgLst, dgTxt, dgSet, dVar, dC, dG, dOp, dUn, dCallP, dCons, dNil, dTst, dAnd, dOr, dNot, dAndV, dOrV, dNotV, dIf, dFz, dTup, dLst, dCall, dChain, dSl, dONo, dOSome, dMs, dMi, dAsg, dPar, dDrop, dLc, dLc2, dYes, dRng1, dRng2, dEnum, dZip, dLam, dNewD, dRaise, dNext, dBrk, dCnt, DS.put, DS.wipe, DS.rest, wipeL, restL, val, slD, vals, frz1, put1, out1, pures, dargs, dback, getM, setM, M.frz, start0, par, dEnds, isRes, itemsD, p2i, addP, subP, mulP, divP, modP, powP, DL.ltP, DL.leP, DL.gtP, DL.geP, eqP, inP, isNP, ixP, lenP, isiP, allP, anyP, intP, listP, tupleP, sortedSP, reprP, slP, revP, negP, findP, countP, joinP, appP, insP, tyD, lenD, dMl, lcountP, isBP, dLSet, dLRg, List.getElem?_cons_zero, List.getElem?_cons_succ, List.set_cons_zero, List.set_cons_succ, List.cons_append, List.nil_append, List.replicate_succ, List.replicate_zero, List.length_cons, List.length_nil, Option.some.injEq, exists_eq_left', exists_eq_left, Wv.pu.injEq, D.sc.injEq, V.bl.injEq, V.int.injEq, V.str.injEq, Nat.reduceSub, Nat.reduceAdd, List.cons.injEq, and_true, true_and, exists_and_left, Option.map_some, if_true, if_false, Bool.false_eq_true, exists_eq_right, ex2a, ex2b, ex2c, D.tup.injEq, D.lst.injEq, M.lst.injEq, eq_self]
  obtain ⟨n, hn⟩ : ∃ n : Nat, 1 + v1 = (n : Int) := ⟨(1 + v1).toNat, by omega⟩
  rw [hn]
  refine ⟨b + 5, pen2, n, rfl, hp2, by omega, by omega, fun ks pen3 kl kk hp3 => ?_⟩
  simp only [dSet, dRet, dRetN, dIfS, dFor, dIt, dgName, dgNil, dgCons, dgTup, dgLst, dgTxt, dgSet, dVar, dC, dG, dOp, dUn, dCallP, dCons, dNil, dTst, dAnd, dOr, dNot, dAndV, dOrV, dNotV, dIf, dFz, dTup, dLst, dCall, dChain, dSl, dONo, dOSome, dMs, dMi, dAsg, dPar, dDrop, dLc, dLc2, dYes, dRng1, dRng2, dEnum, dZip, dLam, dNewD, dRaise, dNext, dBrk, dCnt, DS.put, DS.wipe, DS.rest, wipeL, restL, val, slD, vals, frz1, put1, out1, pures, dargs, dback, getM, setM, M.frz, start0, par, dEnds, isRes, itemsD, p2i, addP, subP, mulP, divP, modP, powP, DL.ltP, DL.leP, DL.gtP, DL.geP, eqP, inP, isNP, ixP, lenP, isiP, allP, anyP, intP, listP, tupleP, sortedSP, reprP, slP, revP, negP, findP, countP, joinP, appP, insP, tyD, lenD, dMl, lcountP, isBP, dLSet, dLRg, List.getElem?_cons_zero, List.getElem?_cons_succ, List.set_cons_zero, List.set_cons_succ, List.cons_append, List.nil_append, List.replicate_succ, List.replicate_zero, List.length_cons, List.length_nil, Option.some.injEq, exists_eq_left', exists_eq_left, Wv.pu.injEq, D.sc.injEq, V.bl.injEq, V.int.injEq, V.str.injEq, Nat.reduceSub, Nat.reduceAdd, List.cons.injEq, and_true, true_and, exists_and_left, Option.map_some, if_true, if_false, Bool.false_eq_true, exists_eq_right, ex2a, ex2b, ex2c, D.tup.injEq, D.lst.injEq, M.lst.injEq, eq_self]
  refine ⟨b + 5 + n, pen3, n, rfl, hp3, by omega, by omega, fun z pen4 zl zb hp4 => ?_⟩
  simp only [dSet, dRet, dRetN, dIfS, dFor, dIt, dgName, dgNil, dgCons, dgTup, dgLst, dgTxt, dgSet, dVar, dC, dG, dOp, dUn, dCallP, dCons, dNil, dTst, dAnd, dOr, dNot, dAndV, dOrV, dNotV, dIf, dFz, dTup, dLst, dCall, dChain, dSl, dONo, dOSome, dMs, dMi, dAsg, dPar, dDrop, dLc, dLc2, dYes, dRng1, dRng2, dEnum, dZip, dLam, dNewD, dRaise, dNext, dBrk, dCnt, DS.put, DS.wipe, DS.rest, wipeL, restL, val, slD, vals, frz1, put1, out1, pures, dargs, dback, getM, setM, M.frz, start0, par, dEnds, isRes, itemsD, p2i, addP, subP, mulP, divP, modP, powP, DL.ltP, DL.leP, DL.gtP, DL.geP, eqP, inP, isNP, ixP, lenP, isiP, allP, anyP, intP, listP, tupleP, sortedSP, reprP, slP, revP, negP, findP, countP, joinP, appP, insP, tyD, lenD, dMl, lcountP, isBP, dLSet, dLRg, List.getElem?_cons_zero, List.getElem?_cons_succ, List.set_cons_zero, List.set_cons_succ, List.cons_append, List.nil_append, List.replicate_succ, List.replicate_zero, List.length_cons, List.length_nil, Option.some.injEq, exists_eq_left', exists_eq_left, Wv.pu.injEq, D.sc.injEq, V.bl.injEq, V.int.injEq, V.str.injEq, Nat.reduceSub, Nat.reduceAdd, List.cons.injEq, and_true, true_and, exists_and_left, Option.map_some, if_true, if_false, Bool.false_eq_true, exists_eq_right, ex2a, ex2b, ex2c, D.tup.injEq, D.lst.injEq, M.lst.injEq, eq_self]
  show N _
  rw [hN]
  clear hN N
  refine seq_o fun N hN => ?_
  refine for_a fun T hT => ?_
  simp only [dSet, dRet, dRetN, dIfS, dFor, dIt, dgName, dgNil, dgCons, dgTup, dgLst, dgTxt, dgSet, dVar, dC, dG, dOp, dUn, dCallP, dCons, dNil, dTst, dAnd, dOr, dNot, dAndV, dOrV, dNotV, dIf, dFz, dTup, dLst, dCall, dChain, dSl, dONo, dOSome, dMs, dMi, dAsg, dPar, dDrop, dLc, dLc2, dYes, dRng1, dRng2, dEnum, dZip, dLam, dNewD, dRaise, dNext, dBrk, dCnt, DS.put, DS.wipe, DS.rest, wipeL, restL, val, slD, vals, frz1, put1, out1, pures, dargs, dback, getM, setM, M.frz, start0, par, dEnds, isRes, itemsD, p2i, addP, subP, mulP, divP, modP, powP, DL.ltP, DL.leP, DL.gtP, DL.geP, eqP, inP, isNP, ixP, lenP, isiP, allP, anyP, intP, listP, tupleP, sortedSP, reprP, slP, revP, negP, findP, countP, joinP, appP, insP, tyD, lenD, dMl, lcountP, isBP, dLSet, dLRg, List.getElem?_cons_zero, List.getElem?_cons_succ, List.set_cons_zero, List.set_cons_succ, List.cons_append, List.nil_append, List.replicate_succ, List.replicate_zero, List.length_cons, List.length_nil, Option.some.injEq, exists_eq_left', exists_eq_left, Wv.pu.injEq, D.sc.injEq, V.bl.injEq, V.int.injEq, V.str.injEq, Nat.reduceSub, Nat.reduceAdd, List.cons.injEq, and_true, true_and, exists_and_left, Option.map_some, if_true, if_false, Bool.false_eq_true, exists_eq_right, ex2a, ex2b, ex2c, D.tup.injEq, D.lst.injEq, M.lst.injEq, eq_self]
  refine ⟨by decide, by decide, ?_⟩
  refine for_i (fun j δ => ∃ s6 s7, δ = ⟨[some (.pu (.scr ns)), some (.ow (.lst pen4)), s2, s3, some (.pu (DI' (1 + v2))), s5, s6, s7, some (.pu (DI' (n : Int))), some (.pu (kt ks)), some (.pu (DS' z)), s11, s12, none], an⟩) ⟨s6, s7, rfl⟩ (fun j d δ K' hd hI k2 => ?_) (fun δ hI => ?_)
  · obtain ⟨s6, s7, rfl⟩ := hI
    simp only [dSet, dRet, dRetN, dIfS, dFor, dIt, dgName, dgNil, dgCons, dgTup, dgLst, dgTxt, dgSet, dVar, dC, dG, dOp, dUn, dCallP, dCons, dNil, dTst, dAnd, dOr, dNot, dAndV, dOrV, dNotV, dIf, dFz, dTup, dLst, dCall, dChain, dSl, dONo, dOSome, dMs, dMi, dAsg, dPar, dDrop, dLc, dLc2, dYes, dRng1, dRng2, dEnum, dZip, dLam, dNewD, dRaise, dNext, dBrk, dCnt, DS.put, DS.wipe, DS.rest, wipeL, restL, val, slD, vals, frz1, put1, out1, pures, dargs, dback, getM, setM, M.frz, start0, par, dEnds, isRes, itemsD, p2i, addP, subP, mulP, divP, modP, powP, DL.ltP, DL.leP, DL.gtP, DL.geP, eqP, inP, isNP, ixP, lenP, isiP, allP, anyP, intP, listP, tupleP, sortedSP, reprP, slP, revP, negP, findP, countP, joinP, appP, insP, tyD, lenD, dMl, lcountP, isBP, dLSet, dLRg, List.getElem?_cons_zero, List.getElem?_cons_succ, List.set_cons_zero, List.set_cons_succ, List.cons_append, List.nil_append, List.replicate_succ, List.replicate_zero, List.length_cons, List.length_nil, Option.some.injEq, exists_eq_left', exists_eq_left, Wv.pu.injEq, D.sc.injEq, V.bl.injEq, V.int.injEq, V.str.injEq, Nat.reduceSub, Nat.reduceAdd, List.cons.injEq, and_true, true_and, exists_and_left, Option.map_some, if_true, if_false, Bool.false_eq_true, exists_eq_right, ex2a, ex2b, ex2c, D.tup.injEq, D.lst.injEq, M.lst.injEq, eq_self]
    rw [hT]
    exact r_body kk (by omega) (by omega) (by omega) zb (by omega) (by omega) fun x => k2 _ ⟨_, _, rfl⟩
  obtain ⟨s6, s7, rfl⟩ := hI
  show N _
  rw [hN]
  clear hN N hT T
  simp only [dSet, dRet, dRetN, dIfS, dFor, dIt, dgName, dgNil, dgCons, dgTup, dgLst, dgTxt, dgSet, dVar, dC, dG, dOp, dUn, dCallP, dCons, dNil, dTst, dAnd, dOr, dNot, dAndV, dOrV, dNotV, dIf, dFz, dTup, dLst, dCall, dChain, dSl, dONo, dOSome, dMs, dMi, dAsg, dPar, dDrop, dLc, dLc2, dYes, dRng1, dRng2, dEnum, dZip, dLam, dNewD, dRaise, dNext, dBrk, dCnt, DS.put, DS.wipe, DS.rest, wipeL, restL, val, slD, vals, frz1, put1, out1, pures, dargs, dback, getM, setM, M.frz, start0, par, dEnds, isRes, itemsD, p2i, addP, subP, mulP, divP, modP, powP, DL.ltP, DL.leP, DL.gtP, DL.geP, eqP, inP, isNP, ixP, lenP, isiP, allP, anyP, intP, listP, tupleP, sortedSP, reprP, slP, revP, negP, findP, countP, joinP, appP, insP, tyD, lenD, dMl, lcountP, isBP, dLSet, dLRg, List.getElem?_cons_zero, List.getElem?_cons_succ, List.set_cons_zero, List.set_cons_succ, List.cons_append, List.nil_append, List.replicate_succ, List.replicate_zero, List.length_cons, List.length_nil, Option.some.injEq, exists_eq_left', exists_eq_left, Wv.pu.injEq, D.sc.injEq, V.bl.injEq, V.int.injEq, V.str.injEq, Nat.reduceSub, Nat.reduceAdd, List.cons.injEq, and_true, true_and, exists_and_left, Option.map_some, if_true, if_false, Bool.false_eq_true, exists_eq_right, ex2a, ex2b, ex2c, D.tup.injEq, D.lst.injEq, M.lst.injEq, eq_self]
  refine call_ok (ds := [kt ks, DI' (1 + v2), DS' z]) rfl rfl ⟨ks, 1 + v2, z, rfl, kk, by omega, by omega, by omega, zb, by omega, by omega⟩ ?_
  simp only [dSet, dRet, dRetN, dIfS, dFor, dIt, dgName, dgNil, dgCons, dgTup, dgLst, dgTxt, dgSet, dVar, dC, dG, dOp, dUn, dCallP, dCons, dNil, dTst, dAnd, dOr, dNot, dAndV, dOrV, dNotV, dIf, dFz, dTup, dLst, dCall, dChain, dSl, dONo, dOSome, dMs, dMi, dAsg, dPar, dDrop, dLc, dLc2, dYes, dRng1, dRng2, dEnum, dZip, dLam, dNewD, dRaise, dNext, dBrk, dCnt, DS.put, DS.wipe, DS.rest, wipeL, restL, val, slD, vals, frz1, put1, out1, pures, dargs, dback, getM, setM, M.frz, start0, par, dEnds, isRes, itemsD, p2i, addP, subP, mulP, divP, modP, powP, DL.ltP, DL.leP, DL.gtP, DL.geP, eqP, inP, isNP, ixP, lenP, isiP, allP, anyP, intP, listP, tupleP, sortedSP, reprP, slP, revP, negP, findP, countP, joinP, appP, insP, tyD, lenD, dMl, lcountP, isBP, dLSet, dLRg, List.getElem?_cons_zero, List.getElem?_cons_succ, List.set_cons_zero, List.set_cons_succ, List.cons_append, List.nil_append, List.replicate_succ, List.replicate_zero, List.length_cons, List.length_nil, Option.some.injEq, exists_eq_left', exists_eq_left, Wv.pu.injEq, D.sc.injEq, V.bl.injEq, V.int.injEq, V.str.injEq, Nat.reduceSub, Nat.reduceAdd, List.cons.injEq, and_true, true_and, exists_and_left, Option.map_some, if_true, if_false, Bool.false_eq_true, exists_eq_right, ex2a, ex2b, ex2c, D.tup.injEq, D.lst.injEq, M.lst.injEq, eq_self]
  exact g _ _ _ _ _ _ _ _ _ (hp4.mono (by omega))
end
end Lw

/-! text RP -/
set_option Elab.async false
set_option linter.all false
set_option maxRecDepth 100000
set_option maxHeartbeats 4000000
namespace Lw
open PySem PySem.Spec PyProof.Rows L2 DL
section
variable {P : Program} {w : World} {base : Heap} {K : PySem.W.Frag} {ws : List Wv} {Q : Wv → List Wv → Prop} {Y : Value → List Wv → Prop} {mg : Str → Option Value}
theorem fm_len {xs ys : List Str} : (xs.flatMap fun start => ys.map (start ++ ·)).length = xs.length * ys.length := by
  rw [List.length_flatMap]
  exact sum_const _ fun w _ => by simp
theorem rows_4913 : (rawRows ["low", "low", "low"] 8 [63, 63, 63]).length = 4913 := by
  have e : (rawReads "low" (sign 63) 8).length = 17 := by decide +kernel
  show ((((([""] : List Str).flatMap fun start => (rawReads "low" (sign 63) 8).map (start ++ ·)).flatMap fun start => (rawReads "low" (sign 63) 8).map (start ++ ·)).flatMap fun start => (rawReads "low" (sign 63) 8).map (start ++ ·))).length = 4913
  rw [fm_len, fm_len, fm_len, e]
  rfl
theorem r_law (h : sp_law K ws Q Y) : t_law K (dEnds Q Y) (start0 N_law ws) := by
  obtain ⟨ns, rfl, hn, q⟩ := h
  unfold t_law
  refine seq_o fun N hN => ?_
  simp only [N_law, dSet, dRet, dRetN, dIfS, dFor, dIt, dgName, dgNil, dgCons, dgTup, dgLst, dgTxt, dgSet, dVar, dC, dG, dOp, dUn, dCallP, dCons, dNil, dTst, dAnd, dOr, dNot, dAndV, dOrV, dNotV, dIf, dFz, dTup, dLst, dCall, dChain, dSl, dONo, dOSome, dMs, dMi, dAsg, dPar, dDrop, dLc, dLc2, dYes, dRng1, dRng2, dEnum, dZip, dLam, dNewD, dRaise, dNext, dBrk, dCnt, DS.put, DS.wipe, DS.rest, wipeL, restL, val, slD, vals, frz1, put1, out1, pures, dargs, dback, getM, setM, M.frz, start0, par, dEnds, isRes, itemsD, p2i, addP, subP, mulP, divP, modP, powP, DL.ltP, DL.leP, DL.gtP, DL.geP, eqP, inP, isNP, ixP, lenP, isiP, allP, anyP, intP, listP, tupleP, sortedSP, reprP, slP, revP, negP, findP, countP, joinP, appP, insP, tyD, lenD, dMl, lcountP, isBP, dLSet, dLRg, List.getElem?_cons_zero, List.getElem?_cons_succ, List.set_cons_zero, List.set_cons_succ, List.cons_append, List.nil_append, List.replicate_succ, List.replicate_zero, List.length_cons, List.length_nil, Option.some.injEq, exists_eq_left', exists_eq_left, Wv.pu.injEq, D.sc.injEq, V.bl.injEq, V.int.injEq, V.str.injEq, Nat.reduceSub, Nat.reduceAdd, List.cons.injEq, and_true, true_and, exists_and_left, Option.map_some, if_true, if_false, Bool.false_eq_true, exists_eq_right, ex2a, ex2b, ex2c, D.tup.injEq, D.lst.injEq, M.lst.injEq, eq_self]
  refine ⟨ns, rfl, hn, fun pen hp => ?_⟩
  simp only [dSet, dRet, dRetN, dIfS, dFor, dIt, dgName, dgNil, dgCons, dgTup, dgLst, dgTxt, dgSet, dVar, dC, dG, dOp, dUn, dCallP, dCons, dNil, dTst, dAnd, dOr, dNot, dAndV, dOrV, dNotV, dIf, dFz, dTup, dLst, dCall, dChain, dSl, dONo, dOSome, dMs, dMi, dAsg, dPar, dDrop, dLc, dLc2, dYes, dRng1, dRng2, dEnum, dZip, dLam, dNewD, dRaise, dNext, dBrk, dCnt, DS.put, DS.wipe, DS.rest, wipeL, restL, val, slD, vals, frz1, put1, out1, pures, dargs, dback, getM, setM, M.frz, start0, par, dEnds, isRes, itemsD, p2i, addP, subP, mulP, divP, modP, powP, DL.ltP, DL.leP, DL.gtP, DL.geP, eqP, inP, isNP, ixP, lenP, isiP, allP, anyP, intP, listP, tupleP, sortedSP, reprP, slP, revP, negP, findP, countP, joinP, appP, insP, tyD, lenD, dMl, lcountP, isBP, dLSet, dLRg, List.getElem?_cons_zero, List.getElem?_cons_succ, List.set_cons_zero, List.set_cons_succ, List.cons_append, List.nil_append, List.replicate_succ, List.replicate_zero, List.length_cons, List.length_nil, Option.some.injEq, exists_eq_left', exists_eq_left, Wv.pu.injEq, D.sc.injEq, V.bl.injEq, V.int.injEq, V.str.injEq, Nat.reduceSub, Nat.reduceAdd, List.cons.injEq, and_true, true_and, exists_and_left, Option.map_some, if_true, if_false, Bool.false_eq_true, exists_eq_right, ex2a, ex2b, ex2c, D.tup.injEq, D.lst.injEq, M.lst.injEq, eq_self]
  show N _
  rw [hN]
  clear hN N
  refine seq_o fun N hN => ?_
  refine for_a fun T hT => ?_
  simp only [dSet, dRet, dRetN, dIfS, dFor, dIt, dgName, dgNil, dgCons, dgTup, dgLst, dgTxt, dgSet, dVar, dC, dG, dOp, dUn, dCallP, dCons, dNil, dTst, dAnd, dOr, dNot, dAndV, dOrV, dNotV, dIf, dFz, dTup, dLst, dCall, dChain, dSl, dONo, dOSome, dMs, dMi, dAsg, dPar, dDrop, dLc, dLc2, dYes, dRng1, dRng2, dEnum, dZip, dLam, dNewD, dRaise, dNext, dBrk, dCnt, DS.put, DS.wipe, DS.rest, wipeL, restL, val, slD, vals, frz1, put1, out1, pures, dargs, dback, getM, setM, M.frz, start0, par, dEnds, isRes, itemsD, p2i, addP, subP, mulP, divP, modP, powP, DL.ltP, DL.leP, DL.gtP, DL.geP, eqP, inP, isNP, ixP, lenP, isiP, allP, anyP, intP, listP, tupleP, sortedSP, reprP, slP, revP, negP, findP, countP, joinP, appP, insP, tyD, lenD, dMl, lcountP, isBP, dLSet, dLRg, List.getElem?_cons_zero, List.getElem?_cons_succ, List.set_cons_zero, List.set_cons_succ, List.cons_append, List.nil_append, List.replicate_succ, List.replicate_zero, List.length_cons, List.length_nil, Option.some.injEq, exists_eq_left', exists_eq_left, Wv.pu.injEq, D.sc.injEq, V.bl.injEq, V.int.injEq, V.str.injEq, Nat.reduceSub, Nat.reduceAdd, List.cons.injEq, and_true, true_and, exists_and_left, Option.map_some, if_true, if_false, Bool.false_eq_true, exists_eq_right, ex2a, ex2b, ex2c, D.tup.injEq, D.lst.injEq, M.lst.injEq, eq_self]
  refine ⟨by decide, by decide, ?_⟩
  refine for_i (fun j δ => ∃ pen' s2 s3 s4 s5 s6 s7 s8 s9 s10, PenOk (20 * j) pen' ∧ δ = ⟨[some (.pu (.scr ns)), some (.ow (.lst pen')), s2, s3, s4, s5, s6, s7, s8, s9, s10, none, none, none], [.pu (.scr ns)]⟩) ⟨pen, none, none, none, none, none, none, none, none, none, hp, rfl⟩ (fun j d δ K' hd hI kk => ?_) (fun δ hI => ?_)
  · obtain ⟨pen', s2, s3, s4, s5, s6, s7, s8, s9, s10, hp', rfl⟩ := hI
    have hj : j < 2 := by
      have := (List.getElem?_eq_some_iff.mp hd).1
      rw [rng_len] at this
      simpa using this
    simp only [dSet, dRet, dRetN, dIfS, dFor, dIt, dgName, dgNil, dgCons, dgTup, dgLst, dgTxt, dgSet, dVar, dC, dG, dOp, dUn, dCallP, dCons, dNil, dTst, dAnd, dOr, dNot, dAndV, dOrV, dNotV, dIf, dFz, dTup, dLst, dCall, dChain, dSl, dONo, dOSome, dMs, dMi, dAsg, dPar, dDrop, dLc, dLc2, dYes, dRng1, dRng2, dEnum, dZip, dLam, dNewD, dRaise, dNext, dBrk, dCnt, DS.put, DS.wipe, DS.rest, wipeL, restL, val, slD, vals, frz1, put1, out1, pures, dargs, dback, getM, setM, M.frz, start0, par, dEnds, isRes, itemsD, p2i, addP, subP, mulP, divP, modP, powP, DL.ltP, DL.leP, DL.gtP, DL.geP, eqP, inP, isNP, ixP, lenP, isiP, allP, anyP, intP, listP, tupleP, sortedSP, reprP, slP, revP, negP, findP, countP, joinP, appP, insP, tyD, lenD, dMl, lcountP, isBP, dLSet, dLRg, List.getElem?_cons_zero, List.getElem?_cons_succ, List.set_cons_zero, List.set_cons_succ, List.cons_append, List.nil_append, List.replicate_succ, List.replicate_zero, List.length_cons, List.length_nil, Option.some.injEq, exists_eq_left', exists_eq_left, Wv.pu.injEq, D.sc.injEq, V.bl.injEq, V.int.injEq, V.str.injEq, Nat.reduceSub, Nat.reduceAdd, List.cons.injEq, and_true, true_and, exists_and_left, Option.map_some, if_true, if_false, Bool.false_eq_true, exists_eq_right, ex2a, ex2b, ex2c, D.tup.injEq, D.lst.injEq, M.lst.injEq, eq_self]
    rw [hT]
    exact t_body hp' (by omega) fun pen' s3 s4 s5 s6 s7 s8 s9 s10 h => kk _ ⟨pen', _, s3, s4, s5, s6, s7, s8, s9, s10, h.mono (by omega), rfl⟩
  obtain ⟨pen', s2, s3, s4, s5, s6, s7, s8, s9, s10, hp', rfl⟩ := hI
  show N _
  rw [hN]
  clear hN N hT T
  refine seq_o fun N hN => ?_
  simp only [dSet, dRet, dRetN, dIfS, dFor, dIt, dgName, dgNil, dgCons, dgTup, dgLst, dgTxt, dgSet, dVar, dC, dG, dOp, dUn, dCallP, dCons, dNil, dTst, dAnd, dOr, dNot, dAndV, dOrV, dNotV, dIf, dFz, dTup, dLst, dCall, dChain, dSl, dONo, dOSome, dMs, dMi, dAsg, dPar, dDrop, dLc, dLc2, dYes, dRng1, dRng2, dEnum, dZip, dLam, dNewD, dRaise, dNext, dBrk, dCnt, DS.put, DS.wipe, DS.rest, wipeL, restL, val, slD, vals, frz1, put1, out1, pures, dargs, dback, getM, setM, M.frz, start0, par, dEnds, isRes, itemsD, p2i, addP, subP, mulP, divP, modP, powP, DL.ltP, DL.leP, DL.gtP, DL.geP, eqP, inP, isNP, ixP, lenP, isiP, allP, anyP, intP, listP, tupleP, sortedSP, reprP, slP, revP, negP, findP, countP, joinP, appP, insP, tyD, lenD, dMl, lcountP, isBP, dLSet, dLRg, List.getElem?_cons_zero, List.getElem?_cons_succ, List.set_cons_zero, List.set_cons_succ, List.cons_append, List.nil_append, List.replicate_succ, List.replicate_zero, List.length_cons, List.length_nil, Option.some.injEq, exists_eq_left', exists_eq_left, Wv.pu.injEq, D.sc.injEq, V.bl.injEq, V.int.injEq, V.str.injEq, Nat.reduceSub, Nat.reduceAdd, List.cons.injEq, and_true, true_and, exists_and_left, Option.map_some, if_true, if_false, Bool.false_eq_true, exists_eq_right, ex2a, ex2b, ex2c, D.tup.injEq, D.lst.injEq, M.lst.injEq, eq_self]
  refine c_reads_ok (by decide) (by decide) (by decide) (by decide) ?_
  simp only [dSet, dRet, dRetN, dIfS, dFor, dIt, dgName, dgNil, dgCons, dgTup, dgLst, dgTxt, dgSet, dVar, dC, dG, dOp, dUn, dCallP, dCons, dNil, dTst, dAnd, dOr, dNot, dAndV, dOrV, dNotV, dIf, dFz, dTup, dLst, dCall, dChain, dSl, dONo, dOSome, dMs, dMi, dAsg, dPar, dDrop, dLc, dLc2, dYes, dRng1, dRng2, dEnum, dZip, dLam, dNewD, dRaise, dNext, dBrk, dCnt, DS.put, DS.wipe, DS.rest, wipeL, restL, val, slD, vals, frz1, put1, out1, pures, dargs, dback, getM, setM, M.frz, start0, par, dEnds, isRes, itemsD, p2i, addP, subP, mulP, divP, modP, powP, DL.ltP, DL.leP, DL.gtP, DL.geP, eqP, inP, isNP, ixP, lenP, isiP, allP, anyP, intP, listP, tupleP, sortedSP, reprP, slP, revP, negP, findP, countP, joinP, appP, insP, tyD, lenD, dMl, lcountP, isBP, dLSet, dLRg, List.getElem?_cons_zero, List.getElem?_cons_succ, List.set_cons_zero, List.set_cons_succ, List.cons_append, List.nil_append, List.replicate_succ, List.replicate_zero, List.length_cons, List.length_nil, Option.some.injEq, exists_eq_left', exists_eq_left, Wv.pu.injEq, D.sc.injEq, V.bl.injEq, V.int.injEq, V.str.injEq, Nat.reduceSub, Nat.reduceAdd, List.cons.injEq, and_true, true_and, exists_and_left, Option.map_some, if_true, if_false, Bool.false_eq_true, exists_eq_right, ex2a, ex2b, ex2c, D.tup.injEq, D.lst.injEq, M.lst.injEq, eq_self, strsL]
  refine c_reads_ok (by decide) (by decide) (by decide) (by decide) ?_
  simp only [dSet, dRet, dRetN, dIfS, dFor, dIt, dgName, dgNil, dgCons, dgTup, dgLst, dgTxt, dgSet, dVar, dC, dG, dOp, dUn, dCallP, dCons, dNil, dTst, dAnd, dOr, dNot, dAndV, dOrV, dNotV, dIf, dFz, dTup, dLst, dCall, dChain, dSl, dONo, dOSome, dMs, dMi, dAsg, dPar, dDrop, dLc, dLc2, dYes, dRng1, dRng2, dEnum, dZip, dLam, dNewD, dRaise, dNext, dBrk, dCnt, DS.put, DS.wipe, DS.rest, wipeL, restL, val, slD, vals, frz1, put1, out1, pures, dargs, dback, getM, setM, M.frz, start0, par, dEnds, isRes, itemsD, p2i, addP, subP, mulP, divP, modP, powP, DL.ltP, DL.leP, DL.gtP, DL.geP, eqP, inP, isNP, ixP, lenP, isiP, allP, anyP, intP, listP, tupleP, sortedSP, reprP, slP, revP, negP, findP, countP, joinP, appP, insP, tyD, lenD, dMl, lcountP, isBP, dLSet, dLRg, List.getElem?_cons_zero, List.getElem?_cons_succ, List.set_cons_zero, List.set_cons_succ, List.cons_append, List.nil_append, List.replicate_succ, List.replicate_zero, List.length_cons, List.length_nil, Option.some.injEq, exists_eq_left', exists_eq_left, Wv.pu.injEq, D.sc.injEq, V.bl.injEq, V.int.injEq, V.str.injEq, Nat.reduceSub, Nat.reduceAdd, List.cons.injEq, and_true, true_and, exists_and_left, Option.map_some, if_true, if_false, Bool.false_eq_true, exists_eq_right, ex2a, ex2b, ex2c, D.tup.injEq, D.lst.injEq, M.lst.injEq, eq_self, strsL]
  show N _
  rw [hN]
  clear hN N
  generalize hL : rawReads "low" "?" (Int.toNat 8) = L
  generalize hG : rawReads "high" "?" (Int.toNat 8) = G
  refine seq_o fun N hN => ?_
  have fL : L.length = 17 := by rw [← hL]; decide +kernel
  simp only [dSet, dRet, dRetN, dIfS, dFor, dIt, dgName, dgNil, dgCons, dgTup, dgLst, dgTxt, dgSet, dVar, dC, dG, dOp, dUn, dCallP, dCons, dNil, dTst, dAnd, dOr, dNot, dAndV, dOrV, dNotV, dIf, dFz, dTup, dLst, dCall, dChain, dSl, dONo, dOSome, dMs, dMi, dAsg, dPar, dDrop, dLc, dLc2, dYes, dRng1, dRng2, dEnum, dZip, dLam, dNewD, dRaise, dNext, dBrk, dCnt, DS.put, DS.wipe, DS.rest, wipeL, restL, val, slD, vals, frz1, put1, out1, pures, dargs, dback, getM, setM, M.frz, start0, par, dEnds, isRes, itemsD, p2i, addP, subP, mulP, divP, modP, powP, DL.ltP, DL.leP, DL.gtP, DL.geP, eqP, inP, isNP, ixP, lenP, isiP, allP, anyP, intP, listP, tupleP, sortedSP, reprP, slP, revP, negP, findP, countP, joinP, appP, insP, tyD, lenD, dMl, lcountP, isBP, dLSet, dLRg, List.getElem?_cons_zero, List.getElem?_cons_succ, List.set_cons_zero, List.set_cons_succ, List.cons_append, List.nil_append, List.replicate_succ, List.replicate_zero, List.length_cons, List.length_nil, Option.some.injEq, exists_eq_left', exists_eq_left, Wv.pu.injEq, D.sc.injEq, V.bl.injEq, V.int.injEq, V.str.injEq, Nat.reduceSub, Nat.reduceAdd, List.cons.injEq, and_true, true_and, exists_and_left, Option.map_some, if_true, if_false, Bool.false_eq_true, exists_eq_right, ex2a, ex2b, ex2c, D.tup.injEq, D.lst.injEq, M.lst.injEq, eq_self, List.length_map, fL]
  have f8 : ∀ x ∈ L, x.length = 8 := by rw [← hL]; exact (raw_bound (by decide) (by decide) (by decide)).2
  have fS : sortS (L.map revS) = G := by rw [← hL, ← hG]; decide +kernel
  have fE : PyData.eqv (.list (G.map .str)) (.list (G.map .str)) = true := by rw [← hG]; decide +kernel
  have f0 : L2.atI (L.map fun z => DS' z) 0 = some (DS' "00000000") := by rw [← hL]; rfl
  have fT : sortS L = L := by rw [← hL]; decide +kernel
  have fF : PyData.eqv (.list (L.map .str)) (.list (L.map .str)) = true := by rw [← hL]; decide +kernel
  have fA : SeqAt.shaped (.list (L.map .str)) = true := by rw [← hL]; decide +kernel
  have fB : SeqAt.shaped (.list (G.map .str)) = true := by rw [← hG]; decide +kernel
  refine ⟨rfl, ?_⟩
  rw [if_neg (by decide)]
  refine comp_map (fun d => match d with
    | .sc (.str s) => DS' (revS s)
    | _ => DN') (L.map fun z => DS' z) [] _ (fun d hd K3 k3 => ?_) (by rw [List.length_map, List.length_nil, fL]; decide) ?_
  · obtain ⟨x, hx, rfl⟩ := List.mem_map.mp hd
    simp only [dSet, dRet, dRetN, dIfS, dFor, dIt, dgName, dgNil, dgCons, dgTup, dgLst, dgTxt, dgSet, dVar, dC, dG, dOp, dUn, dCallP, dCons, dNil, dTst, dAnd, dOr, dNot, dAndV, dOrV, dNotV, dIf, dFz, dTup, dLst, dCall, dChain, dSl, dONo, dOSome, dMs, dMi, dAsg, dPar, dDrop, dLc, dLc2, dYes, dRng1, dRng2, dEnum, dZip, dLam, dNewD, dRaise, dNext, dBrk, dCnt, DS.put, DS.wipe, DS.rest, wipeL, restL, val, slD, vals, frz1, put1, out1, pures, dargs, dback, getM, setM, M.frz, start0, par, dEnds, isRes, itemsD, p2i, addP, subP, mulP, divP, modP, powP, DL.ltP, DL.leP, DL.gtP, DL.geP, eqP, inP, isNP, ixP, lenP, isiP, allP, anyP, intP, listP, tupleP, sortedSP, reprP, slP, revP, negP, findP, countP, joinP, appP, insP, tyD, lenD, dMl, lcountP, isBP, dLSet, dLRg, List.getElem?_cons_zero, List.getElem?_cons_succ, List.set_cons_zero, List.set_cons_succ, List.cons_append, List.nil_append, List.replicate_succ, List.replicate_zero, List.length_cons, List.length_nil, Option.some.injEq, exists_eq_left', exists_eq_left, Wv.pu.injEq, D.sc.injEq, V.bl.injEq, V.int.injEq, V.str.injEq, Nat.reduceSub, Nat.reduceAdd, List.cons.injEq, and_true, true_and, exists_and_left, Option.map_some, if_true, if_false, Bool.false_eq_true, exists_eq_right, ex2a, ex2b, ex2c, D.tup.injEq, D.lst.injEq, M.lst.injEq, eq_self]
    exact ⟨by rw [f8 x hx]; decide, k3 _ rfl⟩
  have e1 : (L.map fun z => DS' z).map (fun d => match d with
    | .sc (.str s) => DS' (revS s)
    | _ => DN') = (L.map revS).map fun z => DS' z := by
    rw [List.map_map, List.map_map]
    rfl
  rw [e1, List.nil_append]
  simp only [dSet, dRet, dRetN, dIfS, dFor, dIt, dgName, dgNil, dgCons, dgTup, dgLst, dgTxt, dgSet, dVar, dC, dG, dOp, dUn, dCallP, dCons, dNil, dTst, dAnd, dOr, dNot, dAndV, dOrV, dNotV, dIf, dFz, dTup, dLst, dCall, dChain, dSl, dONo, dOSome, dMs, dMi, dAsg, dPar, dDrop, dLc, dLc2, dYes, dRng1, dRng2, dEnum, dZip, dLam, dNewD, dRaise, dNext, dBrk, dCnt, DS.put, DS.wipe, DS.rest, wipeL, restL, val, slD, vals, frz1, put1, out1, pures, dargs, dback, getM, setM, M.frz, start0, par, dEnds, isRes, itemsD, p2i, addP, subP, mulP, divP, modP, powP, DL.ltP, DL.leP, DL.gtP, DL.geP, eqP, inP, isNP, ixP, lenP, isiP, allP, anyP, intP, listP, tupleP, sortedSP, reprP, slP, revP, negP, findP, countP, joinP, appP, insP, tyD, lenD, dMl, lcountP, isBP, dLSet, dLRg, List.getElem?_cons_zero, List.getElem?_cons_succ, List.set_cons_zero, List.set_cons_succ, List.cons_append, List.nil_append, List.replicate_succ, List.replicate_zero, List.length_cons, List.length_nil, Option.some.injEq, exists_eq_left', exists_eq_left, Wv.pu.injEq, D.sc.injEq, V.bl.injEq, V.int.injEq, V.str.injEq, Nat.reduceSub, Nat.reduceAdd, List.cons.injEq, and_true, true_and, exists_and_left, Option.map_some, if_true, if_false, Bool.false_eq_true, exists_eq_right, ex2a, ex2b, ex2c, D.tup.injEq, D.lst.injEq, M.lst.injEq, eq_self]
  refine ⟨_, strs_mapF _, by rw [List.length_map, fL]; decide, fun ys hp' hs => ?_⟩
  have := sort_uniq hp' hs
  rw [fS] at this
  subst this
  refine ⟨_, by simp only [toPD]; rw [toPDs_strs]; rfl, _, by simp only [toPD]; rw [toPDs_strs]; rfl, ⟨fB, fB⟩, ?_⟩
  rw [if_neg (by rw [fE]; decide)]
  refine ⟨_, f0, ?_⟩
  refine ⟨rfl, ?_⟩
  rw [if_neg (by decide +kernel)]
  refine ⟨_, strs_mapF _, by rw [fL]; decide, fun ys2 hp2 hs2 => ?_⟩
  have e2 := sort_uniq hp2 hs2
  rw [fT] at e2
  subst e2
  refine ⟨_, by simp only [toPD]; rw [toPDs_strs]; rfl, _, by simp only [toPD]; rw [toPDs_strs]; rfl, ⟨fA, fA⟩, ?_⟩
  rw [if_neg (by rw [fF]; decide), hN]
  clear hN N
  simp only [dSet, dRet, dRetN, dIfS, dFor, dIt, dgName, dgNil, dgCons, dgTup, dgLst, dgTxt, dgSet, dVar, dC, dG, dOp, dUn, dCallP, dCons, dNil, dTst, dAnd, dOr, dNot, dAndV, dOrV, dNotV, dIf, dFz, dTup, dLst, dCall, dChain, dSl, dONo, dOSome, dMs, dMi, dAsg, dPar, dDrop, dLc, dLc2, dYes, dRng1, dRng2, dEnum, dZip, dLam, dNewD, dRaise, dNext, dBrk, dCnt, DS.put, DS.wipe, DS.rest, wipeL, restL, val, slD, vals, frz1, put1, out1, pures, dargs, dback, getM, setM, M.frz, start0, par, dEnds, isRes, itemsD, p2i, addP, subP, mulP, divP, modP, powP, DL.ltP, DL.leP, DL.gtP, DL.geP, eqP, inP, isNP, ixP, lenP, isiP, allP, anyP, intP, listP, tupleP, sortedSP, reprP, slP, revP, negP, findP, countP, joinP, appP, insP, tyD, lenD, dMl, lcountP, isBP, dLSet, dLRg, List.getElem?_cons_zero, List.getElem?_cons_succ, List.set_cons_zero, List.set_cons_succ, List.cons_append, List.nil_append, List.replicate_succ, List.replicate_zero, List.length_cons, List.length_nil, Option.some.injEq, exists_eq_left', exists_eq_left, Wv.pu.injEq, D.sc.injEq, V.bl.injEq, V.int.injEq, V.str.injEq, Nat.reduceSub, Nat.reduceAdd, List.cons.injEq, and_true, true_and, exists_and_left, Option.map_some, if_true, if_false, Bool.false_eq_true, exists_eq_right, ex2a, ex2b, ex2c, D.tup.injEq, D.lst.injEq, M.lst.injEq, eq_self]
  refine ⟨by decide, ⟨by simp, by decide, by decide, by decide⟩, ?_⟩
  have kl : ∀ k ∈ (["low", "low", "low"] : List Str), isK k = true := by decide
  have kp : ∀ k ∈ (["plain"] : List Str), isK k = true := by decide
  have b3 : ∀ c ∈ ("???" : Str).cps.toList, isBit (sign c) = true := by decide
  have b1 : ∀ c ∈ ("?" : Str).cps.toList, isBit (sign c) = true := by decide
  have el : (rawRows ["low", "low", "low"] (Int.toNat 8) ("???" : Str).cps.toList).length = 4913 := rows_4913
  have ep : rawRows ["plain"] (Int.toNat 8) ("?" : Str).cps.toList = (["????????"] : List Str) := by decide +kernel
  refine c_rows_ok (ks := ["low", "low", "low"]) (z := "???") kl (by decide) (by decide) (by decide) b3 (by decide) (by decide) ?_
  simp only [dSet, dRet, dRetN, dIfS, dFor, dIt, dgName, dgNil, dgCons, dgTup, dgLst, dgTxt, dgSet, dVar, dC, dG, dOp, dUn, dCallP, dCons, dNil, dTst, dAnd, dOr, dNot, dAndV, dOrV, dNotV, dIf, dFz, dTup, dLst, dCall, dChain, dSl, dONo, dOSome, dMs, dMi, dAsg, dPar, dDrop, dLc, dLc2, dYes, dRng1, dRng2, dEnum, dZip, dLam, dNewD, dRaise, dNext, dBrk, dCnt, DS.put, DS.wipe, DS.rest, wipeL, restL, val, slD, vals, frz1, put1, out1, pures, dargs, dback, getM, setM, M.frz, start0, par, dEnds, isRes, itemsD, p2i, addP, subP, mulP, divP, modP, powP, DL.ltP, DL.leP, DL.gtP, DL.geP, eqP, inP, isNP, ixP, lenP, isiP, allP, anyP, intP, listP, tupleP, sortedSP, reprP, slP, revP, negP, findP, countP, joinP, appP, insP, tyD, lenD, dMl, lcountP, isBP, dLSet, dLRg, List.getElem?_cons_zero, List.getElem?_cons_succ, List.set_cons_zero, List.set_cons_succ, List.cons_append, List.nil_append, List.replicate_succ, List.replicate_zero, List.length_cons, List.length_nil, Option.some.injEq, exists_eq_left', exists_eq_left, Wv.pu.injEq, D.sc.injEq, V.bl.injEq, V.int.injEq, V.str.injEq, Nat.reduceSub, Nat.reduceAdd, List.cons.injEq, and_true, true_and, exists_and_left, Option.map_some, if_true, if_false, Bool.false_eq_true, exists_eq_right, ex2a, ex2b, ex2c, D.tup.injEq, D.lst.injEq, M.lst.injEq, eq_self, strsL, List.length_map, el]
  refine ⟨rfl, ?_⟩
  rw [if_pos (by decide)]
  refine ⟨by decide, ?_⟩
  refine c_rows_ok (ks := ["plain"]) (z := "?") kp (by decide) (by decide) (by decide) b1 (by decide) (by decide) ?_
  simp only [dSet, dRet, dRetN, dIfS, dFor, dIt, dgName, dgNil, dgCons, dgTup, dgLst, dgTxt, dgSet, dVar, dC, dG, dOp, dUn, dCallP, dCons, dNil, dTst, dAnd, dOr, dNot, dAndV, dOrV, dNotV, dIf, dFz, dTup, dLst, dCall, dChain, dSl, dONo, dOSome, dMs, dMi, dAsg, dPar, dDrop, dLc, dLc2, dYes, dRng1, dRng2, dEnum, dZip, dLam, dNewD, dRaise, dNext, dBrk, dCnt, DS.put, DS.wipe, DS.rest, wipeL, restL, val, slD, vals, frz1, put1, out1, pures, dargs, dback, getM, setM, M.frz, start0, par, dEnds, isRes, itemsD, p2i, addP, subP, mulP, divP, modP, powP, DL.ltP, DL.leP, DL.gtP, DL.geP, eqP, inP, isNP, ixP, lenP, isiP, allP, anyP, intP, listP, tupleP, sortedSP, reprP, slP, revP, negP, findP, countP, joinP, appP, insP, tyD, lenD, dMl, lcountP, isBP, dLSet, dLRg, List.getElem?_cons_zero, List.getElem?_cons_succ, List.set_cons_zero, List.set_cons_succ, List.cons_append, List.nil_append, List.replicate_succ, List.replicate_zero, List.length_cons, List.length_nil, Option.some.injEq, exists_eq_left', exists_eq_left, Wv.pu.injEq, D.sc.injEq, V.bl.injEq, V.int.injEq, V.str.injEq, Nat.reduceSub, Nat.reduceAdd, List.cons.injEq, and_true, true_and, exists_and_left, Option.map_some, if_true, if_false, Bool.false_eq_true, exists_eq_right, ex2a, ex2b, ex2c, D.tup.injEq, D.lst.injEq, M.lst.injEq, eq_self, strsL, ep]
  refine ⟨by decide, _, rfl, _, rfl, ⟨by decide +kernel, by decide +kernel⟩, ?_⟩
  rw [show (false ^^ PyData.eqv _ _) = true by decide +kernel]
  exact q
end
end Lw

/-! text J -/
set_option Elab.async false
set_option linter.all false
set_option maxRecDepth 100000
set_option maxHeartbeats 4000000
namespace Lw
open PySem PySem.Spec PyProof.Rows L2 DL

section
variable {P : Program} {w : World} {base : Heap} {K : PySem.W.Frag} {ws : List Wv} {Q : Wv → List Wv → Prop} {Y : Value → List Wv → Prop} {mg : Str → Option Value}

theorem mono__law_open : MonoP (sp__law_open K) := fun ws Q Q' Y Y' hQ hY ⟨ns, e, h, q⟩ => ⟨ns, e, h, fun pen hp => hQ _ _ (q pen hp)⟩
theorem len__law_open {ws : List Wv} {Q : Wv → List Wv → Prop} {Y : Value → List Wv → Prop} (h : sp__law_open K ws Q Y) : ws.length = 1 := by
  obtain ⟨ns, rfl, _⟩ := h
  rfl
theorem mono__law_spread : MonoP (sp__law_spread K) := fun ws Q Q' Y Y' hQ hY ⟨c, k, e, h1, h2, q⟩ => ⟨c, k, e, h1, h2, fun v hv => hQ _ _ (q v hv)⟩
theorem len__law_spread {ws : List Wv} {Q : Wv → List Wv → Prop} {Y : Value → List Wv → Prop} (h : sp__law_spread K ws Q Y) : ws.length = 2 := by
  obtain ⟨c, k, rfl, _⟩ := h
  rfl
theorem mono__law_take : MonoP (sp__law_take K) := fun ws Q Q' Y Y' hQ hY ⟨b, pen, many, e, h1, h2, h3, h4, q⟩ => ⟨b, pen, many, e, h1, h2, h3, h4, fun v pen' x y z => hQ _ _ (q v pen' x y z)⟩
theorem len__law_take {ws : List Wv} {Q : Wv → List Wv → Prop} {Y : Value → List Wv → Prop} (h : sp__law_take K ws Q Y) : ws.length = 2 := by
  obtain ⟨b, pen, many, rfl, _⟩ := h
  rfl
theorem mono__law_one_of : MonoP (sp__law_one_of K) := fun ws Q Q' Y Y' hQ hY ⟨b, pen, d, ds, e, h1, h2, h3, h4, h5, q⟩ => ⟨b, pen, d, ds, e, h1, h2, h3, h4, h5, fun v pen' x y => hQ _ _ (q v pen' x y)⟩
theorem len__law_one_of {ws : List Wv} {Q : Wv → List Wv → Prop} {Y : Value → List Wv → Prop} (h : sp__law_one_of K ws Q Y) : ws.length = 2 := by
  obtain ⟨b, pen, d, ds, rfl, _⟩ := h
  rfl
theorem mono__law_any_word : MonoP (sp__law_any_word K) := fun ws Q Q' Y Y' hQ hY ⟨b, pen, n, e, h1, h2, h3, q⟩ => ⟨b, pen, n, e, h1, h2, h3, fun v pen' x y z => hQ _ _ (q v pen' x y z)⟩
theorem len__law_any_word {ws : List Wv} {Q : Wv → List Wv → Prop} {Y : Value → List Wv → Prop} (h : sp__law_any_word K ws Q Y) : ws.length = 2 := by
  obtain ⟨b, pen, n, rfl, _⟩ := h
  rfl
theorem mono__law_any_kinds : MonoP (sp__law_any_kinds K) := fun ws Q Q' Y Y' hQ hY ⟨b, pen, n, e, h1, h2, h3, q⟩ => ⟨b, pen, n, e, h1, h2, h3, fun v pen' x y z => hQ _ _ (q v pen' x y z)⟩
theorem len__law_any_kinds {ws : List Wv} {Q : Wv → List Wv → Prop} {Y : Value → List Wv → Prop} (h : sp__law_any_kinds K ws Q Y) : ws.length = 2 := by
  obtain ⟨b, pen, n, rfl, _⟩ := h
  rfl
theorem mono_law : MonoP (sp_law K) := fun ws Q Q' Y Y' hQ hY ⟨ns, e, h, q⟩ => ⟨ns, e, h, hQ _ _ q⟩
theorem len_law {ws : List Wv} {Q : Wv → List Wv → Prop} {Y : Value → List Wv → Prop} (h : sp_law K ws Q Y) : ws.length = 1 := by
  obtain ⟨ns, rfl, _⟩ := h
  rfl
end
section
variable {P : Program} {w : World} {K : PySem.W.Frag} {mg : Str → Option Value} {base : Heap}
theorem ok_is_within_bounds (Z : Fx K mg)  : CallOk P w K mg base (TT K) 1 "is_within_bounds" ["thing", "least", "most"] (sp_is_within_bounds K) := by
  obtain ⟨fd, F⟩ := Z.f_is_within_bounds
  exact ⟨spX_mono, Z.g_is_within_bounds, F.kp, fd, dfn (funOf F) sc_is_within_bounds (fun ws Q Y h => spX_len h) (fun cdv A outer s H vs E hr hl => ⟨_, w_is_within_bounds Z  hr, fun ws Q Y h => r_is_within_bounds h⟩), F.bindsN fun _ _ _ _ _ _ us hl => match us, hl with | [_, _, _], _ => rfl⟩
theorem ok_is_word (Z : Fx K mg)  : CallOk P w K mg base (TT K) 1 "is_word" ["thing"] (sp_is_word K) := by
  obtain ⟨fd, F⟩ := Z.f_is_word
  exact ⟨spX_mono, Z.g_is_word, F.kp, fd, dfn (funOf F) sc_is_word (fun ws Q Y h => spX_len h) (fun cdv A outer s H vs E hr hl => ⟨_, w_is_word Z  hr, fun ws Q Y h => r_is_word h⟩), F.bindsN fun _ _ _ _ _ _ us hl => match us, hl with | [_], _ => rfl⟩
theorem ok_need_word (Z : Fx K mg) (C_is_word : CallOk P w K mg base (TT K) 1 "is_word" ["thing"] (sp_is_word K)) : CallOk P w K mg base (TT K) 2 "need_word" ["thing"] (sp_need_word K) := by
  obtain ⟨fd, F⟩ := Z.f_need_word
  exact ⟨spX_mono, Z.g_need_word, F.kp, fd, dfn (funOf F) sc_need_word (fun ws Q Y h => spX_len h) (fun cdv A outer s H vs E hr hl => ⟨_, w_need_word Z C_is_word hr, fun ws Q Y h => r_need_word h⟩), F.bindsN fun _ _ _ _ _ _ us hl => match us, hl with | [_], _ => rfl⟩
theorem ok_is_kind (Z : Fx K mg)  : CallOk P w K mg base (TT K) 1 "is_kind" ["thing"] (sp_is_kind K) := by
  obtain ⟨fd, F⟩ := Z.f_is_kind
  exact ⟨spX_mono, Z.g_is_kind, F.kp, fd, dfn (funOf F) sc_is_kind (fun ws Q Y h => spX_len h) (fun cdv A outer s H vs E hr hl => ⟨_, w_is_kind Z  hr, fun ws Q Y h => r_is_kind h⟩), F.bindsN fun _ _ _ _ _ _ us hl => match us, hl with | [_], _ => rfl⟩
theorem ok_need_rounds (Z : Fx K mg) (C_is_within_bounds : CallOk P w K mg base (TT K) 1 "is_within_bounds" ["thing", "least", "most"] (sp_is_within_bounds K)) : CallOk P w K mg base (TT K) 2 "need_rounds" ["r"] (sp_need_rounds K) := by
  obtain ⟨fd, F⟩ := Z.f_need_rounds
  exact ⟨spX_mono, Z.g_need_rounds, F.kp, fd, dfn (funOf F) sc_need_rounds (fun ws Q Y h => spX_len h) (fun cdv A outer s H vs E hr hl => ⟨_, w_need_rounds Z C_is_within_bounds hr, fun ws Q Y h => r_need_rounds h⟩), F.bindsN fun _ _ _ _ _ _ us hl => match us, hl with | [_], _ => rfl⟩
theorem ok_raw_reads (Z : Fx K mg)  : CallOk P w K mg base (TT K) 1 "raw_reads" ["kind", "bit", "r"] (sp_raw_reads K) := by
  obtain ⟨fd, F⟩ := Z.f_raw_reads
  exact ⟨spX_mono, Z.g_raw_reads, F.kp, fd, dfn (funOf F) sc_raw_reads (fun ws Q Y h => spX_len h) (fun cdv A outer s H vs E hr hl => ⟨_, w_raw_reads Z  hr, fun ws Q Y h => r_raw_reads h⟩), F.bindsN fun _ _ _ _ _ _ us hl => match us, hl with | [_, _, _], _ => rfl⟩
theorem ok_reads (Z : Fx K mg) (C_is_kind : CallOk P w K mg base (TT K) 1 "is_kind" ["thing"] (sp_is_kind K)) (C_need_rounds : CallOk P w K mg base (TT K) 2 "need_rounds" ["r"] (sp_need_rounds K)) (C_raw_reads : CallOk P w K mg base (TT K) 1 "raw_reads" ["kind", "bit", "r"] (sp_raw_reads K)) : CallOk P w K mg base (TT K) 3 "reads" ["kind", "bit", "r"] (sp_reads K) := by
  obtain ⟨fd, F⟩ := Z.f_reads
  exact ⟨spX_mono, Z.g_reads, F.kp, fd, dfn (funOf F) sc_reads (fun ws Q Y h => spX_len h) (fun cdv A outer s H vs E hr hl => ⟨_, w_reads Z C_is_kind C_need_rounds C_raw_reads hr, fun ws Q Y h => r_reads h⟩), F.bindsN fun _ _ _ _ _ _ us hl => match us, hl with | [_, _, _], _ => rfl⟩
theorem ok_raw_rows (Z : Fx K mg) (C_raw_reads : CallOk P w K mg base (TT K) 1 "raw_reads" ["kind", "bit", "r"] (sp_raw_reads K)) : CallOk P w K mg base (TT K) 2 "raw_rows" ["kinds", "r", "word"] (sp_raw_rows K) := by
  obtain ⟨fd, F⟩ := Z.f_raw_rows
  exact ⟨spX_mono, Z.g_raw_rows, F.kp, fd, dfn (funOf F) sc_raw_rows (fun ws Q Y h => spX_len h) (fun cdv A outer s H vs E hr hl => ⟨_, w_raw_rows Z C_raw_reads hr, fun ws Q Y h => r_raw_rows h⟩), F.bindsN fun _ _ _ _ _ _ us hl => match us, hl with | [_, _, _], _ => rfl⟩
theorem ok_are_kinds (Z : Fx K mg) (C_is_kind : CallOk P w K mg base (TT K) 1 "is_kind" ["thing"] (sp_is_kind K)) : CallOk P w K mg base (TT K) 2 "are_kinds" ["thing"] (sp_are_kinds K) := by
  obtain ⟨fd, F⟩ := Z.f_are_kinds
  exact ⟨spX_mono, Z.g_are_kinds, F.kp, fd, dfn (funOf F) sc_are_kinds (fun ws Q Y h => spX_len h) (fun cdv A outer s H vs E hr hl => ⟨_, w_are_kinds Z C_is_kind hr, fun ws Q Y h => r_are_kinds h⟩), F.bindsN fun _ _ _ _ _ _ us hl => match us, hl with | [_], _ => rfl⟩
theorem ok_rows_of (Z : Fx K mg) (C_are_kinds : CallOk P w K mg base (TT K) 2 "are_kinds" ["thing"] (sp_are_kinds K)) (C_need_rounds : CallOk P w K mg base (TT K) 2 "need_rounds" ["r"] (sp_need_rounds K)) (C_need_word : CallOk P w K mg base (TT K) 2 "need_word" ["thing"] (sp_need_word K)) (C_raw_rows : CallOk P w K mg base (TT K) 2 "raw_rows" ["kinds", "r", "word"] (sp_raw_rows K)) : CallOk P w K mg base (TT K) 3 "rows_of" ["kinds", "r", "word"] (sp_rows_of K) := by
  obtain ⟨fd, F⟩ := Z.f_rows_of
  exact ⟨spX_mono, Z.g_rows_of, F.kp, fd, dfn (funOf F) sc_rows_of (fun ws Q Y h => spX_len h) (fun cdv A outer s H vs E hr hl => ⟨_, w_rows_of Z C_are_kinds C_need_rounds C_need_word C_raw_rows hr, fun ws Q Y h => r_rows_of h⟩), F.bindsN fun _ _ _ _ _ _ us hl => match us, hl with | [_, _, _], _ => rfl⟩
theorem ok__law_open (Z : Fx K mg)  : CallOk P w K mg base (TT K) 1 "_law_open" ["script"] (sp__law_open K) := by
  obtain ⟨fd, F⟩ := Z.f__law_open
  exact ⟨mono__law_open, Z.g__law_open, F.kp, fd, dfn (funOf F) sc__law_open (fun ws Q Y h => len__law_open h) (fun cdv A outer s H vs E hr hl => ⟨_, w__law_open Z  hr, fun ws Q Y h => r__law_open h⟩), F.bindsN fun _ _ _ _ _ _ us hl => match us, hl with | [_], _ => rfl⟩
theorem ok__law_spread (Z : Fx K mg)  : CallOk P w K mg base (TT K) 1 "_law_spread" ["cell", "k"] (sp__law_spread K) := by
  obtain ⟨fd, F⟩ := Z.f__law_spread
  exact ⟨mono__law_spread, Z.g__law_spread, F.kp, fd, dfn (funOf F) sc__law_spread (fun ws Q Y h => len__law_spread h) (fun cdv A outer s H vs E hr hl => ⟨_, w__law_spread Z  hr, fun ws Q Y h => r__law_spread h⟩), F.bindsN fun _ _ _ _ _ _ us hl => match us, hl with | [_, _], _ => rfl⟩
theorem ok__law_take (Z : Fx K mg) (C__law_spread : CallOk P w K mg base (TT K) 1 "_law_spread" ["cell", "k"] (sp__law_spread K)) : CallOk P w K mg base (TT K) 2 "_law_take" ["pen", "many"] (sp__law_take K) := by
  obtain ⟨fd, F⟩ := Z.f__law_take
  exact ⟨mono__law_take, Z.g__law_take, F.kp, fd, dfn (funOf F) sc__law_take (fun ws Q Y h => len__law_take h) (fun cdv A outer s H vs E hr hl => ⟨_, w__law_take Z C__law_spread hr, fun ws Q Y h => r__law_take h⟩), F.bindsN fun _ _ _ _ _ _ us hl => match us, hl with | [_, _], _ => rfl⟩
theorem ok__law_one_of (Z : Fx K mg) (C__law_take : CallOk P w K mg base (TT K) 2 "_law_take" ["pen", "many"] (sp__law_take K)) : CallOk P w K mg base (TT K) 3 "_law_one_of" ["pen", "some"] (sp__law_one_of K) := by
  obtain ⟨fd, F⟩ := Z.f__law_one_of
  exact ⟨mono__law_one_of, Z.g__law_one_of, F.kp, fd, dfn (funOf F) sc__law_one_of (fun ws Q Y h => len__law_one_of h) (fun cdv A outer s H vs E hr hl => ⟨_, w__law_one_of Z C__law_take hr, fun ws Q Y h => r__law_one_of h⟩), F.bindsN fun _ _ _ _ _ _ us hl => match us, hl with | [_, _], _ => rfl⟩
theorem ok__law_all (Z : Fx K mg)  : CallOk P w K mg base (TT K) 1 "_law_all" ["n", "bits"] (sp__law_all K) := by
  obtain ⟨fd, F⟩ := Z.f__law_all
  exact ⟨spX_mono, Z.g__law_all, F.kp, fd, dfn (funOf F) sc__law_all (fun ws Q Y h => spX_len h) (fun cdv A outer s H vs E hr hl => ⟨_, w__law_all Z  hr, fun ws Q Y h => r__law_all h⟩), F.bindsN fun _ _ _ _ _ _ us hl => match us, hl with | [_, _], _ => rfl⟩
theorem ok__law_any_word (Z : Fx K mg) (C__law_one_of : CallOk P w K mg base (TT K) 3 "_law_one_of" ["pen", "some"] (sp__law_one_of K)) : CallOk P w K mg base (TT K) 4 "_law_any_word" ["pen", "n"] (sp__law_any_word K) := by
  obtain ⟨fd, F⟩ := Z.f__law_any_word
  exact ⟨mono__law_any_word, Z.g__law_any_word, F.kp, fd, dfn (funOf F) sc__law_any_word (fun ws Q Y h => len__law_any_word h) (fun cdv A outer s H vs E hr hl => ⟨_, w__law_any_word Z C__law_one_of hr, fun ws Q Y h => r__law_any_word h⟩), F.bindsN fun _ _ _ _ _ _ us hl => match us, hl with | [_, _], _ => rfl⟩
theorem ok__law_reads (Z : Fx K mg) (C__law_all : CallOk P w K mg base (TT K) 1 "_law_all" ["n", "bits"] (sp__law_all K)) : CallOk P w K mg base (TT K) 2 "_law_reads" ["kind", "bit", "r"] (sp__law_reads K) := by
  obtain ⟨fd, F⟩ := Z.f__law_reads
  exact ⟨spX_mono, Z.g__law_reads, F.kp, fd, dfn (funOf F) sc__law_reads (fun ws Q Y h => spX_len h) (fun cdv A outer s H vs E hr hl => ⟨_, w__law_reads Z C__law_all hr, fun ws Q Y h => r__law_reads h⟩), F.bindsN fun _ _ _ _ _ _ us hl => match us, hl with | [_, _, _], _ => rfl⟩
theorem ok__law_rows (Z : Fx K mg) (C__law_reads : CallOk P w K mg base (TT K) 2 "_law_reads" ["kind", "bit", "r"] (sp__law_reads K)) : CallOk P w K mg base (TT K) 3 "_law_rows" ["kinds", "r", "word"] (sp__law_rows K) := by
  obtain ⟨fd, F⟩ := Z.f__law_rows
  exact ⟨spX_mono, Z.g__law_rows, F.kp, fd, dfn (funOf F) sc__law_rows (fun ws Q Y h => spX_len h) (fun cdv A outer s H vs E hr hl => ⟨_, w__law_rows Z C__law_reads hr, fun ws Q Y h => r__law_rows h⟩), F.bindsN fun _ _ _ _ _ _ us hl => match us, hl with | [_, _, _], _ => rfl⟩
theorem ok__law_any_kinds (Z : Fx K mg) (C__law_one_of : CallOk P w K mg base (TT K) 3 "_law_one_of" ["pen", "some"] (sp__law_one_of K)) : CallOk P w K mg base (TT K) 4 "_law_any_kinds" ["pen", "n"] (sp__law_any_kinds K) := by
  obtain ⟨fd, F⟩ := Z.f__law_any_kinds
  exact ⟨mono__law_any_kinds, Z.g__law_any_kinds, F.kp, fd, dfn (funOf F) sc__law_any_kinds (fun ws Q Y h => len__law_any_kinds h) (fun cdv A outer s H vs E hr hl => ⟨_, w__law_any_kinds Z C__law_one_of hr, fun ws Q Y h => r__law_any_kinds h⟩), F.bindsN fun _ _ _ _ _ _ us hl => match us, hl with | [_, _], _ => rfl⟩
theorem ok__law_refused_right (Z : Fx K mg) (C_reads : CallOk P w K mg base (TT K) 3 "reads" ["kind", "bit", "r"] (sp_reads K)) (C_rows_of : CallOk P w K mg base (TT K) 3 "rows_of" ["kinds", "r", "word"] (sp_rows_of K)) (L_me : LamAt K mg base exs.lams ("_law_refused_right", none)) : CallG P w K mg base (TT K) 6 "_law_refused_right" ["kinds", "r", "word"] (sp__law_refused_right K) := by
  obtain ⟨fd, F⟩ := Z.f__law_refused_right
  refine ⟨spX_mono, Z.g__law_refused_right, F.kp, fd, gdfn (funOf F) sc__law_refused_right (fun ws Q Y h => spX_len h) (fun cdv A outer s H vs E hgd hr hl hcode => ?_), F.bindsN fun _ _ _ _ _ _ us hl => match us, hl with | [_, _, _], _ => rfl⟩
  obtain ⟨c, rfl, hcd, oc, od, fd2, osl, lk, e⟩ := hcode
  have hc := codeAd_of lk e
  exact ⟨_, w__law_refused_right Z C_reads C_rows_of hgd L_me (by rw [hc]) hr, fun ws Q Y h => r__law_refused_right Z h⟩
theorem ok_law (Z : Fx K mg) (C__law_any_kinds : CallOk P w K mg base (TT K) 4 "_law_any_kinds" ["pen", "n"] (sp__law_any_kinds K)) (C__law_any_word : CallOk P w K mg base (TT K) 4 "_law_any_word" ["pen", "n"] (sp__law_any_word K)) (C__law_open : CallOk P w K mg base (TT K) 1 "_law_open" ["script"] (sp__law_open K)) (C__law_reads : CallOk P w K mg base (TT K) 2 "_law_reads" ["kind", "bit", "r"] (sp__law_reads K)) (C__law_refused_right : CallG P w K mg base (TT K) 6 "_law_refused_right" ["kinds", "r", "word"] (sp__law_refused_right K)) (C__law_rows : CallOk P w K mg base (TT K) 3 "_law_rows" ["kinds", "r", "word"] (sp__law_rows K)) (C__law_take : CallOk P w K mg base (TT K) 2 "_law_take" ["pen", "many"] (sp__law_take K)) (C_reads : CallOk P w K mg base (TT K) 3 "reads" ["kind", "bit", "r"] (sp_reads K)) (C_rows_of : CallOk P w K mg base (TT K) 3 "rows_of" ["kinds", "r", "word"] (sp_rows_of K)) : CallG P w K mg base (TT K) 7 "law" ["script"] (sp_law K) := by
  obtain ⟨fd, F⟩ := Z.f_law
  refine ⟨mono_law, Z.g_law, F.kp, fd, gdfn (funOf F) sc_law (fun ws Q Y h => len_law h) (fun cdv A outer s H vs E hgd hr hl hcode => ?_), F.bindsN fun _ _ _ _ _ _ us hl => match us, hl with | [_], _ => rfl⟩
  exact ⟨_, w_law Z C__law_any_kinds C__law_any_word C__law_open C__law_reads C__law_refused_right C__law_rows C__law_take C_reads C_rows_of hgd hr, fun ws Q Y h => r_law h⟩
theorem law_ok (Z : Fx K mg) (L : ∀ p ∈ exs.lams, LamAt K mg base exs.lams p) {fd : FuncData} (F : FunD K "law" "law" (defArgs st_law) (defBody st_law) (defScope st_law) [] [] (He.ga K "law") fd) : GFn P w K mg base (L2.CX P w) 7 (He.ga K "law") fd ["script"] (lift K (TT K) (sp_law K)) := by
  have C__law_spread := ok__law_spread (P := P) (w := w) (base := base) Z 
  have C__law_take := ok__law_take (P := P) (w := w) (base := base) Z C__law_spread
  have C__law_one_of := ok__law_one_of (P := P) (w := w) (base := base) Z C__law_take
  have C__law_any_kinds := ok__law_any_kinds (P := P) (w := w) (base := base) Z C__law_one_of
  have C__law_any_word := ok__law_any_word (P := P) (w := w) (base := base) Z C__law_one_of
  have C__law_open := ok__law_open (P := P) (w := w) (base := base) Z 
  have C__law_all := ok__law_all (P := P) (w := w) (base := base) Z 
  have C__law_reads := ok__law_reads (P := P) (w := w) (base := base) Z C__law_all
  have C_is_kind := ok_is_kind (P := P) (w := w) (base := base) Z 
  have C_is_within_bounds := ok_is_within_bounds (P := P) (w := w) (base := base) Z 
  have C_need_rounds := ok_need_rounds (P := P) (w := w) (base := base) Z C_is_within_bounds
  have C_raw_reads := ok_raw_reads (P := P) (w := w) (base := base) Z 
  have C_reads := ok_reads (P := P) (w := w) (base := base) Z C_is_kind C_need_rounds C_raw_reads
  have C_are_kinds := ok_are_kinds (P := P) (w := w) (base := base) Z C_is_kind
  have C_is_word := ok_is_word (P := P) (w := w) (base := base) Z 
  have C_need_word := ok_need_word (P := P) (w := w) (base := base) Z C_is_word
  have C_raw_rows := ok_raw_rows (P := P) (w := w) (base := base) Z C_raw_reads
  have C_rows_of := ok_rows_of (P := P) (w := w) (base := base) Z C_are_kinds C_need_rounds C_need_word C_raw_rows
  have C__law_refused_right := ok__law_refused_right (P := P) (w := w) (base := base) Z C_reads C_rows_of (L ("_law_refused_right", none) (by simp [exs]))
  have C__law_rows := ok__law_rows (P := P) (w := w) (base := base) Z C__law_reads
  refine gdfn (funOf F) sc_law (fun ws Q Y h => len_law h) (fun cdv A outer s H vs E hgd hr hl hcode => ?_)
  exact ⟨_, w_law Z C__law_any_kinds C__law_any_word C__law_open C__law_reads C__law_refused_right C__law_rows C__law_take C_reads C_rows_of hgd hr, fun ws Q Y h => r_law h⟩
end
end Lw

/-! text E -/
set_option Elab.async false
set_option linter.all false
set_option maxRecDepth 100000
set_option maxHeartbeats 0
open PySem PySem.W PySem.Calls PyProof.Rows
theorem PySem.Challenge.cw_halfbits_k42_reads_of_stores_holds : PySem.Challenge.rw_halfbits_k42_reads_of_stores.Holds := by
  w_on; o_law
  refine HandSHeadRun.head_any (r := Lw.R) (q := view Lw.R.prog [37]) (H := Lw.hk) (ob := Lw.ob) (M := 4000) (loose := Lw.names) (d := HandSHeadRun.topDef Lw.R.prog 37) (kwd := []) Lw.ob_eq
    (by kernel_rfl) (fun s => by kernel_rfl) Lw.run (by kernel_rfl) (by kernel_rfl) (by kernel_rfl) (by rfl) (by first | assumption | decide +kernel) (by decide +kernel) ⟨rfl, rfl, rfl, rfl, rfl, by decide +kernel⟩ ?hw ?hc
  case hw => w_witness2
  case hc =>
    refine DL.gend (l := PySem.Challenge.rw_halfbits_k42_reads_of_stores) (n := 63) (k := 7) (x := "script") (CX := fun w => L2.CX Lw.R.prog w) ⟨rfl, by decide, by decide⟩ rfl (by kernel_rfl) (by decide) (fun _ _ _ _ _ z => by
      obtain ⟨_, _, _, _, _, _, _, _, _, _, _, _, z⟩ := z
      exact z) ?F
    intro w mg fa h Y G hmg0
    obtain ⟨K, hK⟩ := Y
    have hmg : mg ("law" : PySem.Str) = some (.ref fa) := by
      have e : (HandSHeadRun.topDef Lw.R.prog 37).name = ("law" : PySem.Str) := by kernel_rfl
      rw [← e]
      exact hmg0
    have Z := Lw.fx hK.1 G hK.2.1 hK.2.2.1
    have e := hmg.symm.trans Z.g_law
    cases e
    obtain ⟨fd, F⟩ := Z.f_law
    have b := L2.FunD.bindsA (ps := ["script"]) F fun _ _ _ _ _ _ us hl => match us, hl with | [_], _ => rfl
    exact ⟨K, hK.1, fd, _, _, DL.glaw hK (fun s v => b s [v] rfl) (fun ns hn => ⟨ns, rfl, hn, rfl⟩) (fun base hKb hNs L => Lw.law_ok Z L F) Lw.mono_law⟩

