import PyProof.Rows.All
import Wide.All
import OpenK.AllK
import Wide.FinOn
import HandS.ForMost
import HandS.ForExc
import HandS.Lambda
import HandS.EndTab
import HandS.TryMany
import HandS.IsInst
import HandS.Zip
import HandS.Strs
import HandS.SortKw
import HandS.Wide
import HandS.Conv
import HandS.NoneIn
import HandS.TupAny
import HandS.TupMul
import HandS.StrMore
import PyProof.StrOps2
import KE.GoesEnum
import KE.GoesEnumKw
import HandS.HeadHook2
import HandS.HeadEnd
import HandS.Head2
import HandS.NestedK
import HandS.More
import PyProof.ReprRoads
import KE.KRevSl
import HandS.SetFor
import HandS.TupLe
import HandS.CallLocal
import PyProof.ReprLen
import PyProof.ListStr
import KE.KStrOpen
import KE.KIntText
import PySem.Challenge.RW_halfbits_k32_nets_and_runs
/-! text DLA -/
set_option Elab.async false
set_option linter.all false
set_option maxRecDepth 100000
namespace DL
open PySem PySem.Spec L2

/-! ### data, contents of changing objects, values of expressions -/
inductive D where
  | sc (v : V) | tup (xs : List D) | lst (xs : List D) | dic (kvs : List (Key × D))
  /-- the script -/
  | scr (ns : List Int)
inductive M where
  | lst (xs : List D) | dic (kvs : List (Key × D))
def M.frz : M → D
  | .lst xs => .lst xs
  | .dic kvs => .dic kvs
inductive Wv where
  | pu (d : D) | ow (m : M) | pl (i : Nat) | io (k : Nat)
structure DS where
  sl : List (Option Wv)
  an : List Wv
/-- what stays as it is through a def -/
structure Gd where
  K : PySem.W.Frag
  T : List (Addr × Str)
  A : List V
abbrev Owner := Sum Nat Nat
abbrev Own := Addr → Option Owner

mutual
inductive Rep (K : PySem.W.Frag) (F : Hp) : V → D → Prop
  | sc (v : V) : Rep K F v (.sc v)
  | tup {a : Addr} {vs : List V} {ds : List D} : SqT K F a vs → Reps K F vs ds → Rep K F (.ref a) (.tup ds)
  | lst {a : Addr} {vs : List V} {ds : List D} : F a = some (.lst vs) → Reps K F vs ds → Rep K F (.ref a) (.lst ds)
  | scr {a : Addr} {ns : List Int} : SqL K F a (ns.map V.int) → Rep K F (.ref a) (.scr ns)
  | dic {a : Addr} {vs : List (Key × V)} {ds : List (Key × D)} : Rd F a (.dK vs) → RepK K F vs ds → Rep K F (.ref a) (.dic ds)
inductive Reps (K : PySem.W.Frag) (F : Hp) : List V → List D → Prop
  | nil : Reps K F [] []
  | cons {v : V} {d : D} {vs : List V} {ds : List D} : Rep K F v d → Reps K F vs ds → Reps K F (v :: vs) (d :: ds)
inductive RepK (K : PySem.W.Frag) (F : Hp) : List (Key × V) → List (Key × D) → Prop
  | nil : RepK K F [] []
  | cons {k : Key} {v : V} {d : D} {vs : List (Key × V)} {ds : List (Key × D)} : Rep K F v d → RepK K F vs ds → RepK K F ((k, v) :: vs) ((k, d) :: ds)
end
/-- one heap within another -/
def Sub (F H : Hp) : Prop := ∀ a o, F a = some o → H a = some o
theorem Sub.refl (F : Hp) : Sub F F := fun _ _ h => h
theorem Sub.trans {F G H : Hp} (a : Sub F G) (b : Sub G H) : Sub F H := fun c o h => b c o (a c o h)
theorem Sub.rd {F H : Hp} (s : Sub F H) {a : Addr} {u : HO} (h : Rd F a u) : Rd H a u := by
  rcases h with h | ⟨o, h⟩
  · exact .inl (s _ _ h)
  · exact .inr ⟨o, s _ _ h⟩
theorem Sub.sqL {F H : Hp} (s : Sub F H) {K : PySem.W.Frag} {a : Addr} {xs : List V} (h : SqL K F a xs) : SqL K H a xs := h.imp s.rd id
theorem Sub.sqT {F H : Hp} (s : Sub F H) {K : PySem.W.Frag} {a : Addr} {xs : List V} (h : SqT K F a xs) : SqT K H a xs := h.imp s.rd id
mutual
theorem Rep.sub {K : PySem.W.Frag} {F H : Hp} (s : Sub F H) : ∀ {v : V} {d : D}, Rep K F v d → Rep K H v d
  | _, _, .sc v => .sc v
  | _, _, .tup h r => .tup (s.sqT h) (Reps.sub s r)
  | _, _, .lst h r => .lst (s _ _ h) (Reps.sub s r)
  | _, _, .scr h => .scr (s.sqL h)
  | _, _, .dic h r => .dic (s.rd h) (RepK.sub s r)
theorem Reps.sub {K : PySem.W.Frag} {F H : Hp} (s : Sub F H) : ∀ {v : List V} {d : List D}, Reps K F v d → Reps K H v d
  | _, _, .nil => .nil
  | _, _, .cons h r => .cons (Rep.sub s h) (Reps.sub s r)
theorem RepK.sub {K : PySem.W.Frag} {F H : Hp} (s : Sub F H) : ∀ {v : List (Key × V)} {d : List (Key × D)}, RepK K F v d → RepK K H v d
  | _, _, .nil => .nil
  | _, _, .cons h r => .cons (Rep.sub s h) (RepK.sub s r)
end
theorem Reps.length {K : PySem.W.Frag} {F : Hp} : ∀ {vs : List V} {ds : List D}, Reps K F vs ds → vs.length = ds.length
  | _, _, .nil => rfl
  | _, _, .cons _ r => by simp [Reps.length r]
theorem Reps.get {K : PySem.W.Frag} {F : Hp} : ∀ {vs : List V} {ds : List D} {i : Nat} {d : D}, Reps K F vs ds → ds[i]? = some d → ∃ v, vs[i]? = some v ∧ Rep K F v d
  | _, _, _, _, .nil, h => by simp at h
  | _, _, 0, _, .cons h r, e => by
    simp only [List.getElem?_cons_zero, Option.some.injEq] at e
    subst e
    exact ⟨_, rfl, h⟩
  | _, _, i + 1, _, .cons h r, e => by
    simp only [List.getElem?_cons_succ] at e ⊢
    exact Reps.get r e
theorem Reps.getV {K : PySem.W.Frag} {F : Hp} : ∀ {vs : List V} {ds : List D} {i : Nat} {v : V}, Reps K F vs ds → vs[i]? = some v → ∃ d, ds[i]? = some d ∧ Rep K F v d
  | _, _, _, _, .nil, h => by simp at h
  | _, _, 0, _, .cons h r, e => by
    simp only [List.getElem?_cons_zero, Option.some.injEq] at e
    subst e
    exact ⟨_, rfl, h⟩
  | _, _, i + 1, _, .cons h r, e => by
    simp only [List.getElem?_cons_succ] at e ⊢
    exact Reps.getV r e
theorem Reps.append {K : PySem.W.Frag} {F : Hp} : ∀ {vs ws : List V} {ds es : List D}, Reps K F vs ds → Reps K F ws es → Reps K F (vs ++ ws) (ds ++ es)
  | _, _, _, _, .nil, s => s
  | _, _, _, _, .cons h r, s => .cons h (Reps.append r s)
theorem Reps.one {K : PySem.W.Frag} {F : Hp} {v : V} {d : D} (h : Rep K F v d) : Reps K F [v] [d] := .cons h .nil
theorem Reps.set {K : PySem.W.Frag} {F : Hp} {v : V} {d : D} (h : Rep K F v d) : ∀ {vs : List V} {ds : List D} (i : Nat), Reps K F vs ds → Reps K F (vs.set i v) (ds.set i d)
  | _, _, _, .nil => .nil
  | _, _, 0, .cons _ r => .cons h r
  | _, _, i + 1, .cons g r => .cons g (Reps.set h i r)
theorem Reps.take {K : PySem.W.Frag} {F : Hp} : ∀ {vs : List V} {ds : List D} (i : Nat), Reps K F vs ds → Reps K F (vs.take i) (ds.take i)
  | _, _, 0, _ => .nil
  | _, _, _ + 1, .nil => .nil
  | _, _, i + 1, .cons g r => .cons g (Reps.take i r)
theorem Reps.drop {K : PySem.W.Frag} {F : Hp} : ∀ {vs : List V} {ds : List D} (i : Nat), Reps K F vs ds → Reps K F (vs.drop i) (ds.drop i)
  | _, _, 0, r => r
  | _, _, _ + 1, .nil => .nil
  | _, _, i + 1, .cons g r => Reps.drop i r
theorem Reps.reverse {K : PySem.W.Frag} {F : Hp} : ∀ {vs : List V} {ds : List D}, Reps K F vs ds → Reps K F vs.reverse ds.reverse
  | _, _, .nil => .nil
  | _, _, .cons h r => by
    rw [List.reverse_cons, List.reverse_cons]
    exact (Reps.reverse r).append (.one h)
theorem Reps.scs {K : PySem.W.Frag} {F : Hp} : ∀ vs : List V, Reps K F vs (vs.map D.sc)
  | [] => .nil
  | v :: vs => .cons (.sc v) (Reps.scs vs)

/-- the content of a changing object at a -/
def OwnM (K : PySem.W.Frag) (F H : Hp) (a : Addr) : M → Prop
  | .lst xs => ∃ vs, H a = some (.lst vs) ∧ Reps K F vs xs
  | .dic kvs => ∃ vs, H a = some (.dK vs) ∧ RepK K F vs kvs
theorem OwnM.sub {K : PySem.W.Frag} {F F' H H' : Hp} {a : Addr} {m : M} (x : OwnM K F H a m) (s : Sub F F') (e : ∀ o, H a = some o → (∀ ps, o ≠ .tbl ps) → H' a = some o) : OwnM K F' H' a m := by
  cases m with
  | lst xs => obtain ⟨vs, h, r⟩ := x; exact ⟨vs, e _ h (fun _ z => by cases z), r.sub s⟩
  | dic xs => obtain ⟨vs, h, r⟩ := x; exact ⟨vs, e _ h (fun _ z => by cases z), r.sub s⟩
theorem OwnM.there {K : PySem.W.Frag} {F H : Hp} {a : Addr} {m : M} (x : OwnM K F H a m) : ∃ o, H a = some o ∧ ∀ ps, o ≠ .tbl ps := by
  cases m with
  | lst xs => obtain ⟨vs, h, r⟩ := x; exact ⟨_, h, (fun _ z => by cases z)⟩
  | dic xs => obtain ⟨vs, h, r⟩ := x; exact ⟨_, h, (fun _ z => by cases z)⟩
def Hold (K : PySem.W.Frag) (F H : Hp) (O : Own) (p : Owner) (v : V) (m : M) : Prop := ∃ a, v = .ref a ∧ O a = some p ∧ OwnM K F H a m

def SlOk (g : Gd) (F H : Hp) (O : Own) (i : Nat) (v : V) : Wv → Prop
  | .pu d => Rep g.K F v d
  | .ow m => Hold g.K F H O (.inl i) v m
  | .io k => g.A[k]? = some v
  | .pl _ => False
def AnOk (g : Gd) (F H : Hp) (O : Own) (k : Nat) (v : V) : Wv → Prop
  | .pu d => Rep g.K F v d
  | .ow m => Hold g.K F H O (.inr k) v m
  | _ => False
/-- an object is known there, no table -/
def Live (H : Hp) (a : Addr) : Prop := ∃ o, H a = some o ∧ ∀ ps, o ≠ .tbl ps
theorem Live.not {H : Hp} {a : Addr} (h : H a = none) : ¬ Live H a := fun ⟨_, e, _⟩ => nomatch h.symm.trans e
theorem Live.ne {H : Hp} {a : Addr} : Live H a → H a ≠ none := fun x h => Live.not h x
theorem Live.upd {H : Hp} {a b : Addr} {o : HO} (t : ∀ ps, o ≠ .tbl ps) (x : Live H b) : Live (upd H a o) b := by
  by_cases z : b = a
  · subst z; exact ⟨o, upd_same, t⟩
  · obtain ⟨u, e, t'⟩ := x; exact ⟨u, by rw [upd_ne z]; exact e, t'⟩
structure R (g : Gd) (F H : Hp) (O : Own) (σ : L2.St) (δ : DS) : Prop where
  sub : Sub F H
  sl : ∀ i w, δ.sl[i]? = some (some w) → ∃ v, σ[i]? = some (some v) ∧ SlOk g F H O i v w
  an : ∀ k w, δ.an[k]? = some w → ∃ v, g.A[k]? = some v ∧ AnOk g F H O k v w
  inh : ∀ a, O a ≠ none → Live H a ∧ F a = none
  ntb : ∀ a ps, F a ≠ some (.tbl ps)
  tab : LamX.Tabs g.T H
  len : σ.length = δ.sl.length
/-- an address that is one's own, or new -/
def New (H : Hp) (O : Own) (a : Addr) : Prop := O a ≠ none ∨ ¬ Live H a
structure Step (F H : Hp) (O : Own) (F' H' : Hp) (O' : Own) : Prop where
  ff : Sub F F'
  fr : ∀ a o, H a = some o → O a = none → (∀ ps, o ≠ .tbl ps) → H' a = some o
  th : ∀ a, Live H a → Live H' a
  nf : ∀ a, F' a ≠ none → F a ≠ none ∨ New H O a
  no : ∀ a, O' a ≠ none → New H O a
theorem Step.refl (F H : Hp) (O : Own) : Step F H O F H O := ⟨Sub.refl _, fun _ _ h _ _ => h, fun _ h => h, fun _ h => .inl h, fun _ h => .inl h⟩
theorem Step.new {F H F' H' : Hp} {O O' : Own} (s : Step F H O F' H' O') {a : Addr} (n : New H' O' a) : New H O a := by
  rcases n with n | n
  · exact s.no a n
  · refine Classical.byContradiction fun h => ?_
    exact n (s.th a (Classical.byContradiction fun z => h (.inr z)))
theorem Step.trans {F H F1 H1 F2 H2 : Hp} {O O1 O2 : Own} (s : Step F H O F1 H1 O1) (t : Step F1 H1 O1 F2 H2 O2) : Step F H O F2 H2 O2 where
  ff := s.ff.trans t.ff
  fr := fun a o h n tb => t.fr a o (s.fr a o h n tb) (by
    refine Classical.byContradiction fun z => ?_
    rcases s.no a z with q | q
    · exact q n
    · exact q ⟨_, h, tb⟩) tb
  th := fun a h => t.th a (s.th a h)
  nf := fun a h => by
    rcases t.nf a h with q | q
    · exact s.nf a q
    · exact .inr (s.new q)
  no := fun a h => s.new (t.no a h)
/-- another owner's map, another frozen heap: of new addresses -/
theorem Step.own {F H F1 H1 : Hp} {O O1 O2 : Own} (s : Step F H O F1 H1 O1) (h : ∀ a, O2 a ≠ none → New H O a) : Step F H O F1 H1 O2 := ⟨s.ff, s.fr, s.th, s.nf, h⟩
theorem Step.frz {F H F1 F2 H1 : Hp} {O O1 : Own} (s : Step F H O F1 H1 O1) (k : Sub F1 F2) (h : ∀ a, F2 a ≠ none → F1 a ≠ none ∨ New H O a) : Step F H O F2 H1 O1 :=
  ⟨s.ff.trans k, s.fr, s.th, fun a q => (h a q).elim (s.nf a) .inr, s.no⟩

/-- a value of an expression; H0, O0: where it began -/
def VR (g : Gd) (F H : Hp) (O : Own) (H0 : Hp) (O0 : Own) (σ : L2.St) (v : V) : Wv → Prop
  | .pu d => Rep g.K F v d
  | .ow m => ∃ a, v = .ref a ∧ F a = none ∧ O a = none ∧ New H0 O0 a ∧ OwnM g.K F H a m
  | .pl i => σ[i]? = some (some v)
  | .io k => g.A[k]? = some v
theorem VR.step {g : Gd} {F H F' H' H0 : Hp} {O O' O0 : Own} {σ : L2.St} {v : V} {w : Wv} (x : VR g F H O H0 O0 σ v w) (s : Step F H O F' H' O') : VR g F' H' O' H0 O0 σ v w := by
  cases w with
  | pu d => exact Rep.sub s.ff x
  | ow m =>
    obtain ⟨a, e, f, o, n, x⟩ := x
    obtain ⟨u, hu, nt⟩ := x.there
    refine ⟨a, e, ?_, ?_, n, x.sub s.ff fun o' h nt => s.fr a o' h o nt⟩
    · refine Classical.byContradiction fun z => ?_
      rcases s.nf a z with q | q | q
      · exact q f
      · exact q o
      · exact q ⟨_, hu, nt⟩
    · refine Classical.byContradiction fun z => ?_
      rcases s.no a z with q | q
      · exact q o
      · exact q ⟨_, hu, nt⟩
  | pl i => exact x
  | io k => exact x
theorem VR.back {g : Gd} {F H F0 H0 F1 H1 : Hp} {O O0 O1 : Own} {σ : L2.St} {v : V} {w : Wv} (x : VR g F H O H1 O1 σ v w) (s : Step F0 H0 O0 F1 H1 O1) : VR g F H O H0 O0 σ v w := by
  cases w with
  | pu d => exact x
  | ow m => obtain ⟨a, e, f, o, n, x⟩ := x; exact ⟨a, e, f, o, s.new n, x⟩
  | pl i => exact x
  | io k => exact x

/-! ### readings over data -/
abbrev DQ := Wv → DS → Prop
abbrev DX := Value → DS → Prop
abbrev DTE := DS → DQ → DX → Prop
abbrev DTT := DS → (Bool → DS → Prop) → DX → Prop
abbrev DTA := DS → (List Wv → DS → Prop) → DX → Prop
structure DEnds where
  nx : DS → Prop
  rt : Wv → DS → Prop
  bk : DS → Prop := fun _ => False
  ct : DS → Prop := fun _ => False
  ex : DX := fun _ _ => False
abbrev DTS := DEnds → DS → Prop
def MonoE (t : DTE) : Prop := ∀ δ Q Q' X X', (∀ w δ', Q w δ' → Q' w δ') → (∀ c δ', X c δ' → X' c δ') → t δ Q X → t δ Q' X'
def MonoT (t : DTT) : Prop := ∀ δ Q Q' X X', (∀ w δ', Q w δ' → Q' w δ') → (∀ c δ', X c δ' → X' c δ') → t δ Q X → t δ Q' X'
def MonoA (t : DTA) : Prop := ∀ δ Q Q' X X', (∀ w δ', Q w δ' → Q' w δ') → (∀ c δ', X c δ' → X' c δ') → t δ Q X → t δ Q' X'
structure DEnds.le (D D' : DEnds) : Prop where
  nx : ∀ δ, D.nx δ → D'.nx δ
  rt : ∀ w δ, D.rt w δ → D'.rt w δ
  bk : ∀ δ, D.bk δ → D'.bk δ
  ct : ∀ δ, D.ct δ → D'.ct δ
  ex : ∀ c δ, D.ex c δ → D'.ex c δ
def MonoS (t : DTS) : Prop := ∀ D D' δ, DEnds.le D D' → t D δ → t D' δ

/-- what an exception finds -/
def canX (g : Gd) (Wx : WX) (F H : Hp) (O : Own) (σ : L2.St) : DX := fun c δ' => ∀ F' H' O', Step F H O F' H' O' → R g F' H' O' σ δ' → Wx c none σ H'
/-- the reading over the heap that a reading over data stands for -/
def canE (g : Gd) (Wx : WX) (t : DTE) : TE := fun σ H Q => ∃ F O δ, R g F H O σ δ ∧
  t δ (fun w δ' => ∀ v F' H' O', Step F H O F' H' O' → R g F' H' O' σ δ' → VR g F' H' O' H O σ v w → Q v H') (canX g Wx F H O σ)
def canT (g : Gd) (Wx : WX) (t : DTT) : TT := fun σ H Q => ∃ F O δ, R g F H O σ δ ∧
  t δ (fun b δ' => ∀ F' H' O', Step F H O F' H' O' → R g F' H' O' σ δ' → Q b H') (canX g Wx F H O σ)
def VRs (g : Gd) (F H : Hp) (O : Own) (H0 : Hp) (O0 : Own) (σ : L2.St) (vs : List V) (ws : List Wv) : Prop := Paired (fun v w => VR g F H O H0 O0 σ v w) vs ws
def canA (g : Gd) (Wx : WX) (t : DTA) : TA := fun σ H Q => ∃ F O δ, R g F H O σ δ ∧
  t δ (fun ws δ' => ∀ vs F' H' O', Step F H O F' H' O' → R g F' H' O' σ δ' → VRs g F' H' O' H O σ vs ws → Q vs H') (canX g Wx F H O σ)
structure EndsOk (g : Gd) (Wx : WX) (F H : Hp) (O : Own) (D : L2.Ends) (D' : DEnds) : Prop where
  nx : ∀ δ' F' H' O' σ', Step F H O F' H' O' → R g F' H' O' σ' δ' → D'.nx δ' → D.nx σ' H'
  rt : ∀ w δ' v F' H' O' σ', Step F H O F' H' O' → R g F' H' O' σ' δ' → VR g F' H' O' H O σ' v w → D'.rt w δ' → D.rt v H'
  bk : ∀ δ' F' H' O' σ', Step F H O F' H' O' → R g F' H' O' σ' δ' → D'.bk δ' → D.bk σ' H'
  ct : ∀ δ' F' H' O' σ', Step F H O F' H' O' → R g F' H' O' σ' δ' → D'.ct δ' → D.ct σ' H'
  ex : ∀ c δ' F' H' O' σ', Step F H O F' H' O' → R g F' H' O' σ' δ' → D'.ex c δ' → Wx c none σ' H'
def canS (g : Gd) (Wx : WX) (t : DTS) : TS := fun D σ H => ∃ F O δ D', R g F H O σ δ ∧ EndsOk g Wx F H O D D' ∧ t D' δ

structure DE (X : Cx) (g : Gd) (Wx : WX) (e : Expr) (t : DTE) : Prop where
  mono : MonoE t
  pe : PE X e (canE g Wx t)
structure DT (X : Cx) (g : Gd) (Wx : WX) (e : Expr) (t : DTT) : Prop where
  mono : MonoT t
  pt : PT X e (canT g Wx t)
structure DA (X : Cx) (g : Gd) (Wx : WX) (es : List Expr) (t : DTA) : Prop where
  mono : MonoA t
  pa : PA X es (canA g Wx t)
structure DSt (X : Cx) (g : Gd) (Wx : WX) (s : Stmt) (t : DTS) : Prop where
  mono : MonoS t
  ps : PS X s (canS g Wx t)
structure DSs (X : Cx) (g : Gd) (Wx : WX) (s : List Stmt) (t : DTS) : Prop where
  mono : MonoS t
  ps : PSs X s (canS g Wx t)
/-- a stronger reading -/
theorem peMono {X : Cx} {e : Expr} {t t' : TE} (h : PE X e t) (i : ∀ σ H Q, t' σ H Q → t σ H Q) : PE X e t' := ⟨fun pins s σ H Q I q => h.run pins s σ H Q I (i σ H Q q)⟩
theorem ptMono {X : Cx} {e : Expr} {t t' : TT} (h : PT X e t) (i : ∀ σ H Q, t' σ H Q → t σ H Q) : PT X e t' := ⟨fun pins s σ H Q I q => h.run pins s σ H Q I (i σ H Q q)⟩
theorem paMono {X : Cx} {e : List Expr} {t t' : TA} (h : PA X e t) (i : ∀ σ H Q, t' σ H Q → t σ H Q) : PA X e t' := ⟨fun pos pins s σ H Q I q => h.run pos pins s σ H Q I (i σ H Q q)⟩
theorem psMono {X : Cx} {e : Stmt} {t t' : TS} (h : PS X e t) (i : ∀ D σ H, t' D σ H → t D σ H) : PS X e t' := ⟨fun pins s σ H D I q => h.run pins s σ H D I (i D σ H q)⟩
theorem pssMono {X : Cx} {e : List Stmt} {t t' : TS} (h : PSs X e t) (i : ∀ D σ H, t' D σ H → t D σ H) : PSs X e t' := ⟨fun pins s σ H D I q => h.run pins s σ H D I (i D σ H q)⟩
end DL

/-! text DLB -/
set_option Elab.async false
set_option linter.all false
set_option maxRecDepth 100000
namespace DL
open PySem PySem.Spec L2

/-! ### what a value holds -/
def slD (δ : DS) (k : Nat) : Option D := match δ.an[k]? with
  | some (.pu d) => some d
  | some (.ow m) => some m.frz
  | _ => none
def val (δ : DS) : Wv → Option D
  | .pu d => some d
  | .ow m => some m.frz
  | .pl i => match δ.sl[i]? with
    | some (some (.pu d)) => some d
    | some (some (.ow m)) => some m.frz
    | some (some (.io k)) => slD δ k
    | _ => none
  | .io k => slD δ k
/-- the content at v: its own object in H, what it holds in F -/
def Cont (K : PySem.W.Frag) (F H : Hp) : V → D → Prop
  | v, .sc u => v = u
  | v, .tup ds => ∃ a vs, v = .ref a ∧ SqT K F a vs ∧ Reps K F vs ds
  | v, .lst ds => ∃ a vs, v = .ref a ∧ H a = some (.lst vs) ∧ Reps K F vs ds
  | v, .scr ns => ∃ a, v = .ref a ∧ SqL K H a (ns.map V.int)
  | v, .dic ds => ∃ a vs, v = .ref a ∧ Rd H a (.dK vs) ∧ RepK K F vs ds
theorem Rep.cont {K : PySem.W.Frag} {F H : Hp} (s : Sub F H) {v : V} {d : D} (r : Rep K F v d) : Cont K F H v d := by
  cases r with
  | sc => rfl
  | tup h r => exact ⟨_, _, rfl, h, r⟩
  | lst h r => exact ⟨_, _, rfl, s _ _ h, r⟩
  | scr h => exact ⟨_, rfl, s.sqL h⟩
  | dic h r => exact ⟨_, _, rfl, s.rd h, r⟩
theorem Cont.rep {K : PySem.W.Frag} {F H : Hp} (s : Sub F H) {v : V} {d : D} (r : Cont K F H v d) : Rep K H v d := by
  cases d with
  | sc => subst r; exact .sc _
  | tup ds => obtain ⟨a, vs, rfl, h, r⟩ := r; exact .tup (s.sqT h) (r.sub s)
  | lst ds => obtain ⟨a, vs, rfl, h, r⟩ := r; exact .lst h (r.sub s)
  | scr ns => obtain ⟨a, rfl, h⟩ := r; exact .scr h
  | dic ds => obtain ⟨a, vs, rfl, h, r⟩ := r; exact .dic h (r.sub s)
theorem OwnM.cont {K : PySem.W.Frag} {F H : Hp} {a : Addr} {m : M} (x : OwnM K F H a m) : Cont K F H (.ref a) m.frz := by
  cases m with
  | lst xs => obtain ⟨vs, h, r⟩ := x; exact ⟨a, vs, rfl, h, r⟩
  | dic xs => obtain ⟨vs, h, r⟩ := x; exact ⟨a, vs, rfl, .inl h, r⟩
section
variable {g : Gd} {F H H0 : Hp} {O O0 : Own} {σ : L2.St} {δ : DS} {v : V} {w : Wv} {d : D}
theorem R.anD (r : R g F H O σ δ) {k : Nat} (hk : g.A[k]? = some v) (e : slD δ k = some d) : Cont g.K F H v d := by
  unfold slD at e
  cases h : δ.an[k]? with
  | none => rw [h] at e; cases e
  | some w =>
    rw [h] at e
    obtain ⟨v', hv, x⟩ := r.an k w h
    rw [hk] at hv
    cases hv
    cases w with
    | pu d' => cases e; exact Rep.cont r.sub x
    | ow m => cases e; obtain ⟨a, rfl, _, x⟩ := x; exact x.cont
    | pl i => exact x.elim
    | io k => exact x.elim
theorem R.cont (r : R g F H O σ δ) (x : VR g F H O H0 O0 σ v w) (e : val δ w = some d) : Cont g.K F H v d := by
  cases w with
  | pu d' => cases e; exact Rep.cont r.sub x
  | ow m => cases e; obtain ⟨a, rfl, _, _, _, x⟩ := x; exact x.cont
  | io k => exact r.anD x e
  | pl i =>
    have x : σ[i]? = some (some v) := x
    unfold val at e
    cases h : δ.sl[i]? with
    | none => simp only [h] at e; cases e
    | some o =>
      cases o with
      | none => simp only [h] at e; cases e
      | some w =>
        obtain ⟨v', hv, y⟩ := r.sl i w h
        rw [x] at hv
        cases hv
        simp only [h] at e
        cases w with
        | pu d' => cases e; exact Rep.cont r.sub y
        | ow m => cases e; obtain ⟨a, rfl, _, y⟩ := y; exact y.cont
        | io k => exact r.anD y e
        | pl i => exact y.elim
/-- a new object is laid, the frozen heap stays -/
theorem R.laid (r : R g F H O σ δ) {p : Addr} {o : HO} (n : H p = none) : R g F (upd H p o) O σ δ ∧ Step F H O F (upd H p o) O := by
  have k : Sub H (upd H p o) := fun a u e => by rw [upd_ne (ne_of_none e n)]; exact e
  have hl : ∀ {q : Owner} {v : V} {m : M}, Hold g.K F H O q v m → Hold g.K F (upd H p o) O q v m := fun ⟨a, e, h, x⟩ => ⟨a, e, h, x.sub (Sub.refl _) fun o h _ => k _ _ h⟩
  refine ⟨⟨r.sub.trans k, fun i w h => ?_, fun i w h => ?_, fun a h => ?_, r.ntb, r.tab.ext k, r.len⟩, ⟨Sub.refl _, fun a u h _ _ => k a u h, fun a h => ?_, fun a h => .inl h, fun a h => .inl h⟩⟩
  · obtain ⟨v, h1, h2⟩ := r.sl i w h
    refine ⟨v, h1, ?_⟩
    cases w with
    | ow m => exact hl h2
    | _ => exact h2
  · obtain ⟨v, h1, h2⟩ := r.an i w h
    refine ⟨v, h1, ?_⟩
    cases w with
    | ow m => exact hl h2
    | _ => exact h2
  · obtain ⟨h1, h2⟩ := r.inh a h
    refine ⟨?_, h2⟩
    obtain ⟨u, q, t⟩ := h1
    exact ⟨u, k _ _ q, t⟩
  · obtain ⟨u, q, t⟩ := h
    exact ⟨u, k _ _ q, t⟩
theorem R.dead (r : R g F H O σ δ) {p : Addr} (n : ¬ Live H p) : F p = none ∧ O p = none := by
  refine ⟨?_, Classical.byContradiction fun z => n (r.inh p z).1⟩
  cases q : F p with
  | none => rfl
  | some u => exact absurd ⟨u, r.sub p u q, fun ps z => r.ntb p ps (by rw [q, z])⟩ n
theorem R.free (r : R g F H O σ δ) {p : Addr} (n : H p = none) : F p = none ∧ O p = none := by
  constructor
  · cases q : F p with
    | none => rfl
    | some u => rw [r.sub _ _ q] at n; cases n
  · refine Classical.byContradiction fun z => ?_
    exact (r.inh p z).1.ne n
/-- an object is frozen -/
theorem R.froze (r : R g F H O σ δ) {p : Addr} {o : HO} (h : H p = some o) (n : O p = none) (nt : ∀ ps, o ≠ .tbl ps) : R g (upd F p o) H O σ δ ∧ Sub F (upd F p o) := by
  have k : Sub F (upd F p o) := fun a u e => by
    by_cases z : a = p
    · subst z; rw [r.sub _ _ e] at h; cases h; exact upd_same
    · rw [upd_ne z]; exact e
  have hl : ∀ {q : Owner} {v : V} {m : M}, Hold g.K F H O q v m → Hold g.K (upd F p o) H O q v m := fun ⟨a, e, h, x⟩ => ⟨a, e, h, x.sub k fun o h _ => h⟩
  refine ⟨⟨fun a u e => ?_, fun i w h => ?_, fun i w h => ?_, fun a h => ?_, fun a ps => ?_, r.tab, r.len⟩, k⟩
  · by_cases z : a = p
    · subst z; rw [upd_same] at e; cases e; exact h
    · rw [upd_ne z] at e; exact r.sub _ _ e
  · obtain ⟨v, h1, h2⟩ := r.sl i w h
    refine ⟨v, h1, ?_⟩
    cases w with
    | ow m => exact hl h2
    | pu d => exact Rep.sub k h2
    | _ => exact h2
  · obtain ⟨v, h1, h2⟩ := r.an i w h
    refine ⟨v, h1, ?_⟩
    cases w with
    | ow m => exact hl h2
    | pu d => exact Rep.sub k h2
    | _ => exact h2
  · obtain ⟨h1, h2⟩ := r.inh a h
    refine ⟨h1, ?_⟩
    rw [upd_ne (fun z => h (by rw [z]; exact n))]
    exact h2
  · by_cases z : a = p
    · subst z; rw [upd_same]; intro q; cases q; exact nt _ rfl
    · rw [upd_ne z]; exact r.ntb a ps
end
theorem canX.step {g : Gd} {Wx : WX} {F H F1 H1 : Hp} {O O1 : Own} {σ : L2.St} {c : Value} {δ : DS} (x : canX g Wx F H O σ c δ) (s : Step F H O F1 H1 O1) : canX g Wx F1 H1 O1 σ c δ :=
  fun F' H' O' s' r' => x F' H' O' (s.trans s') r'

/-! ### names, constants -/
def dVar (i : Nat) : DTE := fun δ Q _ => match δ.sl[i]? with
  | some (some (.pu d)) => Q (.pu d) δ
  | some (some (.ow _)) => Q (.pl i) δ
  | some (some (.io k)) => Q (.io k) δ
  | _ => False
def dC (v : V) : DTE := fun δ Q _ => Q (.pu (.sc v)) δ
section
variable {X : Cx} {g : Gd} {Wx : WX} {e a b c : Expr} {es : List Expr} {ta tb tc : DTE} {tA : DTA} {pos : Pos}
theorem de_var (i : Nat) (hp : PE X e (tVar i)) : DE X g Wx e (dVar i) := by
  refine ⟨fun δ Q Q' Y Y' hQ hY h => ?_, peMono hp ?_⟩
  · unfold dVar at h ⊢
    split at h
    · exact hQ _ _ h
    · exact hQ _ _ h
    · exact hQ _ _ h
    · exact h
  · rintro σ H Q ⟨F, O, δ, r, h⟩
    unfold dVar at h
    cases hs : δ.sl[i]? with
    | none => rw [hs] at h; exact h.elim
    | some o =>
      cases o with
      | none => rw [hs] at h; exact h.elim
      | some w =>
        obtain ⟨v, hv, x⟩ := r.sl i w hs
        rw [hs] at h
        refine ⟨v, hv, ?_⟩
        cases w with
        | pu d => exact h v F H O (Step.refl _ _ _) r x
        | ow m => exact h v F H O (Step.refl _ _ _) r hv
        | io k => exact h v F H O (Step.refl _ _ _) r x
        | pl i => exact h.elim
theorem de_tc {v : V} (hp : PE X e (tC v)) : DE X g Wx e (dC v) := by
  refine ⟨fun δ Q Q' Y Y' hQ hY h => hQ _ _ h, peMono hp ?_⟩
  rintro σ H Q ⟨F, O, δ, r, h⟩
  exact h v F H O (Step.refl _ _ _) r (.sc v)

/-! ### operators on values -/
abbrev P1 := D → (Wv → Prop) → Prop
abbrev P2 := D → D → (Wv → Prop) → Prop
abbrev PN := List D → (Wv → Prop) → Prop
def Mo1 (p : P1) : Prop := ∀ d Q Q', (∀ w, Q w → Q' w) → p d Q → p d Q'
def Mo2 (p : P2) : Prop := ∀ d d' Q Q', (∀ w, Q w → Q' w) → p d d' Q → p d d' Q'
def MoN (p : PN) : Prop := ∀ d Q Q', (∀ w, Q w → Q' w) → p d Q → p d Q'
/-- what is wanted of the values' rule r, that it does what p says of data -/
structure Pr2 (g : Gd) (r : R2) (p : P2) : Prop where
  mono : Mo2 p
  ok : ∀ {F H O σ δ x y dx dy} {Q : VK} {Qd : Wv → Prop}, R g F H O σ δ → Cont g.K F H x dx → Cont g.K F H y dy → p dx dy Qd →
    (∀ z H' F' w, Step F H O F' H' O → R g F' H' O σ δ → VR g F' H' O H O σ z w → Qd w → Q z H') → r x y H Q
structure Pr1 (g : Gd) (r : V → Hp → VK → Prop) (p : P1) : Prop where
  mono : Mo1 p
  ok : ∀ {F H O σ δ x dx} {Q : VK} {Qd : Wv → Prop}, R g F H O σ δ → Cont g.K F H x dx → p dx Qd →
    (∀ z H' F' w, Step F H O F' H' O → R g F' H' O σ δ → VR g F' H' O H O σ z w → Qd w → Q z H') → r x H Q
structure PrN (g : Gd) (r : List V → Hp → VK → Prop) (p : PN) : Prop where
  mono : MoN p
  ok : ∀ {F H O σ δ xs ds} {Q : VK} {Qd : Wv → Prop}, R g F H O σ δ → Paired (Cont g.K F H) xs ds → p ds Qd →
    (∀ z H' F' w, Step F H O F' H' O → R g F' H' O σ δ → VR g F' H' O H O σ z w → Qd w → Q z H') → r xs H Q
def dOp (p : P2) (ta tb : DTE) : DTE := fun δ Q Y => ta δ (fun x δ1 => tb δ1 (fun y δ2 => ∃ dx, val δ2 x = some dx ∧ ∃ dy, val δ2 y = some dy ∧ p dx dy fun w => Q w δ2) Y) Y
theorem dOp_mono {p : P2} (hp : Mo2 p) (ha : MonoE ta) (hb : MonoE tb) : MonoE (dOp p ta tb) := fun δ Q Q' Y Y' hQ hY h =>
  ha _ _ _ _ _ (fun x δ1 h => hb _ _ _ _ _ (fun y δ2 ⟨dx, e1, dy, e2, h⟩ => ⟨dx, e1, dy, e2, hp _ _ _ _ (fun w => hQ w δ2) h⟩) hY h) hY h
theorem opCan {r : R2} {p : P2} (pr : Pr2 g r p) (ha : MonoE ta) (hb : MonoE tb) (σ : L2.St) (H : Hp) (Q : VK) : canE g Wx (dOp p ta tb) σ H Q → tOp r (canE g Wx ta) (canE g Wx tb) σ H Q := by
  rintro ⟨F, O, δ, r0, h⟩
  refine ⟨F, O, δ, r0, ha _ _ _ _ _ (fun x δ1 h v1 F1 H1 O1 s1 r1 x1 => ?_) (fun _ _ z => z) h⟩
  refine ⟨F1, O1, δ1, r1, hb _ _ _ _ _ (fun y δ2 h v2 F2 H2 O2 s2 r2 x2 => ?_) (fun c δ z => z.step s1) h⟩
  obtain ⟨dx, e1, dy, e2, h⟩ := h
  exact pr.ok r2 (r2.cont (x1.step s2) e1) (r2.cont x2 e2) h fun z H3 F3 w s3 r3 x3 q => q z F3 H3 O2 ((s1.trans s2).trans s3) r3 (x3.back (s1.trans s2))
theorem de_op {op : Operator} {r : R2} {p : P2} (ho : OpR X (binaryOp op) r) (pr : Pr2 g r p) (ha : DE X g Wx a ta) (hb : DE X g Wx b tb) : DE X g Wx (.BinOp a op b pos) (dOp p ta tb) :=
  ⟨dOp_mono pr.mono ha.mono hb.mono, peMono (pe_op ho ha.pe hb.pe) (opCan pr ha.mono hb.mono)⟩
theorem de_cmp {op : CmpOp} {r : R2} {p : P2} (ho : OpR X (compareOp op) r) (pr : Pr2 g r p) (ha : DE X g Wx a ta) (hb : DE X g Wx b tb) (hm : behindInMarks op b = false) : DE X g Wx (.Compare a [op] [b] pos) (dOp p ta tb) :=
  ⟨dOp_mono pr.mono ha.mono hb.mono, peMono (pe_cmpR ho ha.pe hb.pe hm) (opCan pr ha.mono hb.mono)⟩
theorem de_ix {r : R2} {p : P2} (ho : IxR X r) (pr : Pr2 g r p) (ha : DE X g Wx a ta) (hb : DE X g Wx b tb) (hs : PlainIx b) : DE X g Wx (.Subscript a b pos) (dOp p ta tb) :=
  ⟨dOp_mono pr.mono ha.mono hb.mono, peMono (pe_ix ho ha.pe hb.pe hs) (opCan pr ha.mono hb.mono)⟩
def dUn (p : P1) (ta : DTE) : DTE := fun δ Q Y => ta δ (fun x δ1 => ∃ dx, val δ1 x = some dx ∧ p dx fun w => Q w δ1) Y
theorem dUn_mono {p : P1} (hp : Mo1 p) (ha : MonoE ta) : MonoE (dUn p ta) := fun δ Q Q' Y Y' hQ hY h =>
  ha _ _ _ _ _ (fun x δ1 ⟨dx, e1, h⟩ => ⟨dx, e1, hp _ _ _ (fun w => hQ w δ1) h⟩) hY h
theorem unCan {r : V → Hp → VK → Prop} {p : P1} (pr : Pr1 g r p) (ha : MonoE ta) (σ : L2.St) (H : Hp) (Q : VK) : canE g Wx (dUn p ta) σ H Q → canE g Wx ta σ H fun x H1 => r x H1 Q := by
  rintro ⟨F, O, δ, r0, h⟩
  refine ⟨F, O, δ, r0, ha _ _ _ _ _ (fun x δ1 h v1 F1 H1 O1 s1 r1 x1 => ?_) (fun _ _ z => z) h⟩
  obtain ⟨dx, e1, h⟩ := h
  exact pr.ok r1 (r1.cont x1 e1) h fun z H3 F3 w s3 r3 x3 q => q z F3 H3 O1 (s1.trans s3) r3 (x3.back s1)
theorem de_un {op : UnaryOp} {r : V → Hp → VK → Prop} {p : P1} (ho : UnR X (unaryOp op) r) (pr : Pr1 g r p) (ha : DE X g Wx a ta) : DE X g Wx (.UnaryOp op a pos) (dUn p ta) :=
  ⟨dUn_mono pr.mono ha.mono, peMono (pe_un ho ha.pe) (unCan pr ha.mono)⟩

/-! ### arguments -/
def dNil : DTA := fun δ Q _ => Q [] δ
def dCons (ta : DTE) (tA : DTA) : DTA := fun δ Q Y => ta δ (fun x δ1 => tA δ1 (fun xs δ2 => Q (x :: xs) δ2) Y) Y
theorem da_nil : DA X g Wx [] dNil := by
  refine ⟨fun δ Q Q' Y Y' hQ hY h => hQ _ _ h, paMono pa_nil ?_⟩
  rintro σ H Q ⟨F, O, δ, r, h⟩
  exact h [] F H O (Step.refl _ _ _) r .nil
theorem da_cons (ha : DE X g Wx a ta) (hr : DA X g Wx es tA) (hs : starEach (a :: es) X.env = (false, eval a X.env) :: starEach es X.env := by rfl) : DA X g Wx (a :: es) (dCons ta tA) := by
  refine ⟨fun δ Q Q' Y Y' hQ hY h => ha.mono _ _ _ _ _ (fun x δ1 h => hr.mono _ _ _ _ _ (fun xs δ2 h => hQ _ _ h) hY h) hY h, paMono (pa_cons ha.pe hr.pa hs) ?_⟩
  rintro σ H Q ⟨F, O, δ, r0, h⟩
  refine ⟨F, O, δ, r0, ha.mono _ _ _ _ _ (fun x δ1 h v1 F1 H1 O1 s1 r1 x1 => ?_) (fun _ _ z => z) h⟩
  refine ⟨F1, O1, δ1, r1, hr.mono _ _ _ _ _ (fun ys δ2 h vs F2 H2 O2 s2 r2 x2 => ?_) (fun c δ z => z.step s1) h⟩
  exact h (v1 :: vs) F2 H2 O2 (s1.trans s2) r2 (.cons (x1.step s2) (L2.Paired.mapP x2 fun _ _ z => z.back s1))
def vals (δ : DS) : List Wv → Option (List D)
  | [] => some []
  | w :: ws => match val δ w, vals δ ws with
    | some d, some ds => some (d :: ds)
    | _, _ => none
theorem R.conts {F H H0 : Hp} {O O0 : Own} {σ : L2.St} {δ : DS} (r : R g F H O σ δ) : ∀ {vs : List V} {ws : List Wv} {ds : List D}, VRs g F H O H0 O0 σ vs ws → vals δ ws = some ds → Paired (Cont g.K F H) vs ds
  | _, _, _, .nil, e => by
    cases e
    exact .nil
  | _, _, ds, .cons (b := w) (l₂ := ws) x xs, e => by
    simp only [vals] at e
    cases h1 : val δ w with
    | none => simp only [h1] at e; cases e
    | some d =>
      cases h2 : vals δ ws with
      | none => simp only [h1, h2] at e; cases e
      | some ds' =>
        simp only [h1, h2] at e
        cases e
        exact .cons (r.cont x h1) (R.conts r xs h2)
def dCallP (p : PN) (tA : DTA) : DTE := fun δ Q Y => tA δ (fun ws δ1 => ∃ ds, vals δ1 ws = some ds ∧ p ds fun w => Q w δ1) Y
theorem dCallP_mono {p : PN} (hp : MoN p) (ha : MonoA tA) : MonoE (dCallP p tA) := fun δ Q Q' Y Y' hQ hY h =>
  ha _ _ _ _ _ (fun x δ1 ⟨dx, e1, h⟩ => ⟨dx, e1, hp _ _ _ (fun w => hQ w δ1) h⟩) hY h
theorem callCan {r : List V → Hp → VK → Prop} {p : PN} (pr : PrN g r p) (ha : MonoA tA) (σ : L2.St) (H : Hp) (Q : VK) : canE g Wx (dCallP p tA) σ H Q → tCB r (canA g Wx tA) σ H Q := by
  rintro ⟨F, O, δ, r0, h⟩
  refine ⟨F, O, δ, r0, ha _ _ _ _ _ (fun x δ1 h v1 F1 H1 O1 s1 r1 x1 => ?_) (fun _ _ z => z) h⟩
  obtain ⟨dx, e1, h⟩ := h
  exact pr.ok r1 (r1.conts x1 e1) h fun z H3 F3 w s3 r3 x3 q => q z F3 H3 O1 (s1.trans s3) r3 (x3.back s1)
theorem de_callP {r : List V → Hp → VK → Prop} {p : PN} (hp : PE X e (tCB r (canA g Wx tA))) (pr : PrN g r p) (ha : DA X g Wx es tA) : DE X g Wx e (dCallP p tA) :=
  ⟨dCallP_mono pr.mono ha.mono, peMono hp (callCan pr ha.mono)⟩
end
end DL

/-! text DLC -/
set_option Elab.async false
set_option linter.all false
set_option maxRecDepth 100000
namespace DL
open PySem PySem.Spec L2
section
variable {X : Cx} {g : Gd} {Wx : WX} {e a b c : Expr} {es rest : List Expr} {ta tb tc : DTE} {tA : DTA} {t u : DTT} {pos : Pos}

/-! ### tests -/
def dTst (ta : DTE) : DTT := fun δ Q Y => ta δ (fun x δ1 => ∃ k, val δ1 x = some (.sc (.bl k)) ∧ Q k δ1) Y
theorem dTst_mono (ha : MonoE ta) : MonoT (dTst ta) := fun δ Q Q' Y Y' hQ hY h => ha _ _ _ _ _ (fun x δ1 ⟨k, e, h⟩ => ⟨k, e, hQ _ _ h⟩) hY h
theorem tstCan (ha : MonoE ta) (σ : L2.St) (H : Hp) (Q : Bool → Hp → Prop) : canT g Wx (dTst ta) σ H Q → canE g Wx ta σ H fun x H' => ∃ k, x = .bl k ∧ Q k H' := by
  rintro ⟨F, O, δ, r0, h⟩
  refine ⟨F, O, δ, r0, ha _ _ _ _ _ (fun x δ1 h v1 F1 H1 O1 s1 r1 x1 => ?_) (fun _ _ z => z) h⟩
  obtain ⟨k, e1, h⟩ := h
  have := r1.cont x1 e1
  exact ⟨k, this, h F1 H1 O1 s1 r1⟩
theorem dt_val (h : DE X g Wx e ta) (he : ∀ whole, isTrue e X.env whole = (do let v ← whole; standAt e.pos; holding [v] (truthy v)) := by intro _; rfl) : DT X g Wx e (dTst ta) :=
  ⟨dTst_mono h.mono, ptMono (pt_val h.pe he) (tstCan h.mono)⟩
theorem dt_cmp {op : CmpOp} {r : R2} {p : P2} (ho : OpR X (compareOp op) r) (pr : Pr2 g r p) (ha : DE X g Wx a ta) (hb : DE X g Wx b tb) (hm : behindInMarks op b = false) : DT X g Wx (.Compare a [op] [b] pos) (dTst (dOp p ta tb)) := by
  have hd := dOp_mono pr.mono ha.mono hb.mono
  refine ⟨dTst_mono hd, ptMono (pt_cmpR ho ha.pe hb.pe hm) fun σ H Q h => ?_⟩
  exact opCan pr ha.mono hb.mono σ H _ (tstCan hd σ H Q h)
/-- a value's own reading as a test's, whatever its syntax -/
theorem dt_of {te : TE} (hm : MonoE ta) (hp : PT X e (tTest te)) (i : ∀ σ H Q, canE g Wx ta σ H Q → te σ H Q) : DT X g Wx e (dTst ta) :=
  ⟨dTst_mono hm, ptMono hp fun σ H Q h => i σ H _ (tstCan hm σ H Q h)⟩
def dAnd (t u : DTT) : DTT := fun δ Q Y => t δ (fun k δ1 => if k = true then u δ1 Q Y else Q false δ1) Y
def dOr (t u : DTT) : DTT := fun δ Q Y => t δ (fun k δ1 => if k = true then Q true δ1 else u δ1 Q Y) Y
def dNot (t : DTT) : DTT := fun δ Q Y => t δ (fun k δ1 => Q (!k) δ1) Y
theorem dAnd_mono (h : MonoT t) (h' : MonoT u) : MonoT (dAnd t u) := fun δ Q Q' Y Y' hQ hY q => h _ _ _ _ _ (fun k δ1 q => by
  cases k with
  | true => exact h' _ _ _ _ _ hQ hY q
  | false => exact hQ _ _ q) hY q
theorem dOr_mono (h : MonoT t) (h' : MonoT u) : MonoT (dOr t u) := fun δ Q Q' Y Y' hQ hY q => h _ _ _ _ _ (fun k δ1 q => by
  cases k with
  | false => exact h' _ _ _ _ _ hQ hY q
  | true => exact hQ _ _ q) hY q
theorem dNot_mono (h : MonoT t) : MonoT (dNot t) := fun δ Q Q' Y Y' hQ hY q => h _ _ _ _ _ (fun k δ1 q => hQ _ _ q) hY q
structure DW (X : Cx) (g : Gd) (Wx : WX) (e : Expr) (t : DTT) : Prop where
  mono : MonoT t
  pw : PW X e (canT g Wx t)
theorem pwMono {e : Expr} {t t' : TT} (h : PW X e t) (i : ∀ σ H Q, t' σ H Q → t σ H Q) : PW X e t' := ⟨fun wh pins s σ H Q I q => h.run wh pins s σ H Q I (i σ H Q q)⟩
theorem DW.dt (h : DW X g Wx e t) : DT X g Wx e t := ⟨h.mono, h.pw.pt⟩
theorem dw_and1 (h : DT X g Wx a t) : DW X g Wx (.BoolOp .And [a] pos) t := ⟨h.mono, pw_and1 h.pt⟩
theorem dw_or1 (h : DT X g Wx a t) : DW X g Wx (.BoolOp .Or [a] pos) t := ⟨h.mono, pw_or1 h.pt⟩
theorem dw_and (h : DT X g Wx a t) (h' : DW X g Wx (.BoolOp .And (b :: rest) pos) u) : DW X g Wx (.BoolOp .And (a :: b :: rest) pos) (dAnd t u) := by
  refine ⟨dAnd_mono h.mono h'.mono, pwMono (pw_and h.pt h'.pw) ?_⟩
  rintro σ H Q ⟨F, O, δ, r0, q⟩
  refine ⟨F, O, δ, r0, h.mono _ _ _ _ _ (fun k δ1 q F1 H1 O1 s1 r1 => ?_) (fun _ _ z => z) q⟩
  cases k with
  | true => exact ⟨F1, O1, δ1, r1, h'.mono _ _ _ _ _ (fun k δ2 q F2 H2 O2 s2 r2 => q F2 H2 O2 (s1.trans s2) r2) (fun c δ z => z.step s1) q⟩
  | false => exact q F1 H1 O1 s1 r1
theorem dw_or (h : DT X g Wx a t) (h' : DW X g Wx (.BoolOp .Or (b :: rest) pos) u) : DW X g Wx (.BoolOp .Or (a :: b :: rest) pos) (dOr t u) := by
  refine ⟨dOr_mono h.mono h'.mono, pwMono (pw_or h.pt h'.pw) ?_⟩
  rintro σ H Q ⟨F, O, δ, r0, q⟩
  refine ⟨F, O, δ, r0, h.mono _ _ _ _ _ (fun k δ1 q F1 H1 O1 s1 r1 => ?_) (fun _ _ z => z) q⟩
  cases k with
  | false => exact ⟨F1, O1, δ1, r1, h'.mono _ _ _ _ _ (fun k δ2 q F2 H2 O2 s2 r2 => q F2 H2 O2 (s1.trans s2) r2) (fun c δ z => z.step s1) q⟩
  | true => exact q F1 H1 O1 s1 r1
theorem dt_not (h : DT X g Wx a t) : DT X g Wx (.UnaryOp .Not a pos) (dNot t) := by
  refine ⟨dNot_mono h.mono, ptMono (pt_not h.pt) ?_⟩
  rintro σ H Q ⟨F, O, δ, r0, q⟩
  exact ⟨F, O, δ, r0, h.mono _ _ _ _ _ (fun k δ1 q F1 H1 O1 s1 r1 => q F1 H1 O1 s1 r1) (fun _ _ z => z) q⟩
/-! ### .. as values (bools) -/
def dAndV (ta tb : DTE) : DTE := fun δ Q Y => ta δ (fun x δ1 => ∃ k, val δ1 x = some (.sc (.bl k)) ∧ if k = true then tb δ1 Q Y else Q (.pu (.sc (.bl false))) δ1) Y
def dOrV (ta tb : DTE) : DTE := fun δ Q Y => ta δ (fun x δ1 => ∃ k, val δ1 x = some (.sc (.bl k)) ∧ if k = true then Q (.pu (.sc (.bl true))) δ1 else tb δ1 Q Y) Y
def dNotV (ta : DTE) : DTE := fun δ Q Y => ta δ (fun x δ1 => ∃ k, val δ1 x = some (.sc (.bl k)) ∧ Q (.pu (.sc (.bl (!k)))) δ1) Y
theorem de_one {op} (h : DE X g Wx a ta) : DE X g Wx (.BoolOp op [a] pos) ta := ⟨h.mono, pe_one h.pe⟩
theorem de_and (ha : DE X g Wx a ta) (hb : DE X g Wx (.BoolOp .And (b :: rest) pos) tb) : DE X g Wx (.BoolOp .And (a :: b :: rest) pos) (dAndV ta tb) := by
  refine ⟨fun δ Q Q' Y Y' hQ hY q => ha.mono _ _ _ _ _ (fun x δ1 ⟨k, e, q⟩ => ⟨k, e, (by
    cases k with
    | true => exact hb.mono _ _ _ _ _ hQ hY q
    | false => exact hQ _ _ q)⟩) hY q, peMono (pe_and ha.pe hb.pe) ?_⟩
  rintro σ H Q ⟨F, O, δ, r0, q⟩
  refine ⟨F, O, δ, r0, ha.mono _ _ _ _ _ (fun x δ1 q v1 F1 H1 O1 s1 r1 x1 => ?_) (fun _ _ z => z) q⟩
  obtain ⟨k, e, q⟩ := q
  have ev := r1.cont x1 e
  refine ⟨k, ev, ?_⟩
  cases k with
  | true => exact ⟨F1, O1, δ1, r1, hb.mono _ _ _ _ _ (fun w δ2 q v F2 H2 O2 s2 r2 x2 => q v F2 H2 O2 (s1.trans s2) r2 (x2.back s1)) (fun c δ z => z.step s1) q⟩
  | false => exact q _ F1 H1 O1 s1 r1 (.sc _)
theorem de_or (ha : DE X g Wx a ta) (hb : DE X g Wx (.BoolOp .Or (b :: rest) pos) tb) : DE X g Wx (.BoolOp .Or (a :: b :: rest) pos) (dOrV ta tb) := by
  refine ⟨fun δ Q Q' Y Y' hQ hY q => ha.mono _ _ _ _ _ (fun x δ1 ⟨k, e, q⟩ => ⟨k, e, (by
    cases k with
    | false => exact hb.mono _ _ _ _ _ hQ hY q
    | true => exact hQ _ _ q)⟩) hY q, peMono (pe_or ha.pe hb.pe) ?_⟩
  rintro σ H Q ⟨F, O, δ, r0, q⟩
  refine ⟨F, O, δ, r0, ha.mono _ _ _ _ _ (fun x δ1 q v1 F1 H1 O1 s1 r1 x1 => ?_) (fun _ _ z => z) q⟩
  obtain ⟨k, e, q⟩ := q
  have ev := r1.cont x1 e
  refine ⟨k, ev, ?_⟩
  cases k with
  | false => exact ⟨F1, O1, δ1, r1, hb.mono _ _ _ _ _ (fun w δ2 q v F2 H2 O2 s2 r2 x2 => q v F2 H2 O2 (s1.trans s2) r2 (x2.back s1)) (fun c δ z => z.step s1) q⟩
  | true => exact q _ F1 H1 O1 s1 r1 (.sc _)
theorem de_not (ha : DE X g Wx a ta) : DE X g Wx (.UnaryOp .Not a pos) (dNotV ta) := by
  refine ⟨fun δ Q Q' Y Y' hQ hY q => ha.mono _ _ _ _ _ (fun x δ1 ⟨k, e, q⟩ => ⟨k, e, hQ _ _ q⟩) hY q, peMono (pe_not ha.pe) ?_⟩
  rintro σ H Q ⟨F, O, δ, r0, q⟩
  refine ⟨F, O, δ, r0, ha.mono _ _ _ _ _ (fun x δ1 q v1 F1 H1 O1 s1 r1 x1 => ?_) (fun _ _ z => z) q⟩
  obtain ⟨k, e, q⟩ := q
  have ev := r1.cont x1 e
  exact ⟨k, ev, q _ F1 H1 O1 s1 r1 (.sc _)⟩
def dIf (t : DTT) (ta tb : DTE) : DTE := fun δ Q Y => t δ (fun k δ1 => if k = true then ta δ1 Q Y else tb δ1 Q Y) Y
theorem de_if (h : DT X g Wx c t) (ha : DE X g Wx a ta) (hb : DE X g Wx b tb) : DE X g Wx (.IfExp c a b pos) (dIf t ta tb) := by
  refine ⟨fun δ Q Q' Y Y' hQ hY q => h.mono _ _ _ _ _ (fun k δ1 q => by
    cases k with
    | false => exact hb.mono _ _ _ _ _ hQ hY q
    | true => exact ha.mono _ _ _ _ _ hQ hY q) hY q, peMono (pe_ifExp h.pt ha.pe hb.pe) ?_⟩
  rintro σ H Q ⟨F, O, δ, r0, q⟩
  refine ⟨F, O, δ, r0, h.mono _ _ _ _ _ (fun k δ1 q F1 H1 O1 s1 r1 => ?_) (fun _ _ z => z) q⟩
  cases k with
  | true => exact ⟨F1, O1, δ1, r1, ha.mono _ _ _ _ _ (fun w δ2 q v F2 H2 O2 s2 r2 x2 => q v F2 H2 O2 (s1.trans s2) r2 (x2.back s1)) (fun c δ z => z.step s1) q⟩
  | false => exact ⟨F1, O1, δ1, r1, hb.mono _ _ _ _ _ (fun w δ2 q v F2 H2 O2 s2 r2 x2 => q v F2 H2 O2 (s1.trans s2) r2 (x2.back s1)) (fun c δ z => z.step s1) q⟩

/-! ### freezing -/
def DS.put (δ : DS) (i : Nat) (w : Option Wv) : DS := ⟨δ.sl.set i w, δ.an⟩
def frz1 (δ : DS) : Wv → Option (D × DS)
  | .pu d => some (d, δ)
  | .ow m => some (m.frz, δ)
  | .pl i => match δ.sl[i]? with
    | some (some (.pu d)) => some (d, δ)
    | some (some (.ow m)) => some (m.frz, δ.put i (some (.pu m.frz)))
    | _ => none
  | .io _ => none
theorem froze {F H F0 H0 : Hp} {O O0 : Own} {σ : L2.St} {δ δ' : DS} {v : V} {w : Wv} {d : D} (s : Step F0 H0 O0 F H O) (r : R g F H O σ δ) (x : VR g F H O H0 O0 σ v w) (e : frz1 δ w = some (d, δ')) :
    ∃ F' O', Step F0 H0 O0 F' H O' ∧ R g F' H O' σ δ' ∧ Rep g.K F' v d := by
  cases w with
  | pu d' => cases e; exact ⟨F, O, s, r, x⟩
  | ow m =>
    cases e
    obtain ⟨p, rfl, hF, hO, n, y⟩ := x
    obtain ⟨u, hu, nt⟩ := y.there
    obtain ⟨r', k⟩ := r.froze hu hO nt
    refine ⟨_, O, s.frz k (fun a h => ?_), r', ?_⟩
    · by_cases z : a = p
      · exact .inr (by rw [z]; exact n)
      · rw [upd_ne z] at h; exact .inl h
    · cases m with
      | lst xs => obtain ⟨vs, h, q⟩ := y; rw [hu] at h; cases h; exact .lst upd_same (q.sub k)
      | dic xs => obtain ⟨vs, h, q⟩ := y; rw [hu] at h; cases h; exact .dic (.inl upd_same) (q.sub k)
  | io k => cases e
  | pl i =>
    have x : σ[i]? = some (some v) := x
    unfold frz1 at e
    cases h : δ.sl[i]? with
    | none => simp only [h] at e; cases e
    | some o =>
      cases o with
      | none => simp only [h] at e; cases e
      | some w =>
        obtain ⟨v', hv, y⟩ := r.sl i w h
        rw [x] at hv
        cases hv
        simp only [h] at e
        cases w with
        | pu d' => cases e; exact ⟨F, O, s, r, y⟩
        | io k => cases e
        | pl i => exact y.elim
        | ow m =>
          cases e
          obtain ⟨p, rfl, ho, y⟩ := y
          obtain ⟨u, hu, nt⟩ := y.there
          -- the slot is given up, then its object is frozen
          have r1 : R g F H (fun q => if q = p then none else O q) σ (δ.put i none) := by
            refine ⟨r.sub, fun j w h => ?_, fun j w h => ?_, fun q h => ?_, r.ntb, r.tab, by simp [DS.put, r.len]⟩
            · have hji : j ≠ i := fun z => by
                subst z
                simp only [DS.put] at h
                rw [List.getElem?_set_self (by rw [← r.len]; exact (List.getElem?_eq_some_iff.mp x).1)] at h
                cases h
              simp only [DS.put] at h
              rw [List.getElem?_set_ne (Ne.symm hji)] at h
              obtain ⟨v2, h1, h2⟩ := r.sl j w h
              refine ⟨v2, h1, ?_⟩
              cases w with
              | ow m2 =>
                obtain ⟨q, e1, e2, e3⟩ := h2
                refine ⟨q, e1, ?_, e3⟩
                show (if q = p then none else O q) = _
                rw [if_neg (fun z => by rw [z, ho] at e2; cases e2; exact hji rfl)]
                exact e2
              | _ => exact h2
            · obtain ⟨v2, h1, h2⟩ := r.an j w h
              refine ⟨v2, h1, ?_⟩
              cases w with
              | ow m2 =>
                obtain ⟨q, e1, e2, e3⟩ := h2
                refine ⟨q, e1, ?_, e3⟩
                show (if q = p then none else O q) = _
                rw [if_neg (fun z => by rw [z, ho] at e2; cases e2)]
                exact e2
              | _ => exact h2
            · by_cases z : q = p
              · rw [if_pos z] at h; exact absurd rfl h
              · rw [if_neg z] at h; exact r.inh q h
          obtain ⟨r2, k⟩ := r1.froze hu (if_pos rfl) nt
          have np : New H0 O0 p := s.no p (by rw [ho]; intro z; cases z)
          have s2 : Step F0 H0 O0 (upd F p u) H (fun q => if q = p then none else O q) := (s.own fun q h => s.no q (by
            by_cases z : q = p
            · rw [if_pos z] at h; exact absurd rfl h
            · rw [if_neg z] at h; exact h)).frz k fun q h => by
              by_cases z : q = p
              · exact .inr (by rw [z]; exact np)
              · rw [upd_ne z] at h; exact .inl h
          have rp : Rep g.K (upd F p u) (.ref p) m.frz := by
            cases m with
            | lst xs => obtain ⟨vs, h, q⟩ := y; rw [hu] at h; cases h; exact .lst upd_same (q.sub k)
            | dic xs => obtain ⟨vs, h, q⟩ := y; rw [hu] at h; cases h; exact .dic (.inl upd_same) (q.sub k)
          refine ⟨_, _, s2, ⟨r2.sub, fun j w h => ?_, r2.an, r2.inh, r2.ntb, r2.tab, by simp [DS.put, r.len]⟩, rp⟩
          by_cases hji : j = i
          · subst hji
            simp only [DS.put] at h
            rw [List.getElem?_set_self (by rw [← r.len]; exact (List.getElem?_eq_some_iff.mp x).1)] at h
            cases h
            exact ⟨_, x, rp⟩
          · refine r2.sl j w ?_
            simp only [DS.put] at h ⊢
            rw [List.getElem?_set_ne (Ne.symm hji)] at h ⊢
            exact h
def dFz (ta : DTE) : DTE := fun δ Q Y => ta δ (fun w δ1 => ∃ d δ2, frz1 δ1 w = some (d, δ2) ∧ Q (.pu d) δ2) Y
theorem de_fz (h : DE X g Wx e ta) : DE X g Wx e (dFz ta) := by
  refine ⟨fun δ Q Q' Y Y' hQ hY q => h.mono _ _ _ _ _ (fun w δ1 ⟨d, δ2, e, q⟩ => ⟨d, δ2, e, hQ _ _ q⟩) hY q, peMono h.pe ?_⟩
  rintro σ H Q ⟨F, O, δ, r0, q⟩
  refine ⟨F, O, δ, r0, h.mono _ _ _ _ _ (fun w δ1 q v1 F1 H1 O1 s1 r1 x1 => ?_) (fun _ _ z => z) q⟩
  obtain ⟨d, δ2, e, q⟩ := q
  obtain ⟨F2, O2, s2, r2, rp⟩ := froze s1 r1 x1 e
  exact q v1 F2 H1 O2 s2 r2 rp
/-- what a value holds, all of it frozen data -/
def pures : List Wv → Option (List D)
  | [] => some []
  | .pu d :: ws => (pures ws).map (d :: ·)
  | _ :: _ => none
theorem pures_reps {F H H0 : Hp} {O O0 : Own} {σ : L2.St} : ∀ {vs : List V} {ws : List Wv} {ds : List D}, VRs g F H O H0 O0 σ vs ws → pures ws = some ds → Reps g.K F vs ds
  | _, _, _, .nil, e => by cases e; exact .nil
  | _, _, ds, .cons (b := w) (l₂ := ws) x xs, e => by
    cases w with
    | pu d =>
      simp only [pures] at e
      cases h2 : pures ws with
      | none => rw [h2] at e; cases e
      | some ds' =>
        rw [h2] at e
        cases e
        exact .cons x (pures_reps xs h2)
    | _ => cases e
def dTup (tA : DTA) : DTE := fun δ Q Y => tA δ (fun ws δ1 => ∃ ds, pures ws = some ds ∧ ds.length ≤ sizeLine ∧ Q (.pu (.tup ds)) δ1) Y
def dLst (tA : DTA) : DTE := fun δ Q Y => tA δ (fun ws δ1 => ∃ ds, pures ws = some ds ∧ ds.length ≤ sizeLine ∧ Q (.ow (.lst ds)) δ1) Y
/-- a new list, a new tuple -/
theorem R.newL {F H : Hp} {O : Own} {σ : L2.St} {δ : DS} (r : R g F H O σ δ) {p : Addr} (n : H p = none) {vs : List V} {ds : List D} (q : Reps g.K F vs ds) :
    Step F H O F (upd H p (.lst vs)) O ∧ R g F (upd H p (.lst vs)) O σ δ ∧ VR g F (upd H p (.lst vs)) O H O σ (.ref p) (.ow (.lst ds)) := by
  obtain ⟨r1, s1⟩ := r.laid (o := .lst vs) n
  obtain ⟨f1, f2⟩ := r.free n
  exact ⟨s1, r1, p, rfl, f1, f2, .inr (Live.not n), vs, upd_same, q⟩
theorem R.newT {F H : Hp} {O : Own} {σ : L2.St} {δ : DS} (r : R g F H O σ δ) {p : Addr} (n : H p = none) {vs : List V} {ds : List D} (q : Reps g.K F vs ds) :
    ∃ F', Step F H O F' (upd H p (.tup vs)) O ∧ R g F' (upd H p (.tup vs)) O σ δ ∧ Rep g.K F' (.ref p) (.tup ds) := by
  obtain ⟨r1, s1⟩ := r.laid (o := .tup vs) n
  obtain ⟨f1, f2⟩ := r.free n
  obtain ⟨r2, k⟩ := r1.froze (p := p) (o := .tup vs) upd_same f2 (fun ps z => by cases z)
  refine ⟨_, s1.frz k (fun a h => ?_), r2, .tup (.of upd_same) (q.sub k)⟩
  by_cases z : a = p
  · exact .inr (by rw [z]; exact .inr (Live.not n))
  · rw [upd_ne z] at h; exact .inl h
theorem de_tup {x1} (h : DA X g Wx es tA) : DE X g Wx (.Tuple es x1 pos) (dTup tA) := by
  refine ⟨fun δ Q Q' Y Y' hQ hY q => h.mono _ _ _ _ _ (fun w δ1 ⟨d, e, z, q⟩ => ⟨d, e, z, hQ _ _ q⟩) hY q, peMono (pe_tup h.pa) ?_⟩
  rintro σ H Q ⟨F, O, δ, r0, q⟩
  refine ⟨F, O, δ, r0, h.mono _ _ _ _ _ (fun w δ1 q v1 F1 H1 O1 s1 r1 x1 => ?_) (fun _ _ z => z) q⟩
  obtain ⟨d, e, z, q⟩ := q
  have rp := pures_reps x1 e
  refine ⟨by rw [rp.length]; exact z, fun p n => ?_⟩
  obtain ⟨F2, s2, r2, x2⟩ := r1.newT n rp
  exact q _ F2 _ O1 (s1.trans s2) r2 x2
theorem de_lst (h : DA X g Wx es tA) : DE X g Wx (.List es pos) (dLst tA) := by
  refine ⟨fun δ Q Q' Y Y' hQ hY q => h.mono _ _ _ _ _ (fun w δ1 ⟨d, e, z, q⟩ => ⟨d, e, z, hQ _ _ q⟩) hY q, peMono (pe_lst h.pa) ?_⟩
  rintro σ H Q ⟨F, O, δ, r0, q⟩
  refine ⟨F, O, δ, r0, h.mono _ _ _ _ _ (fun w δ1 q v1 F1 H1 O1 s1 r1 x1 => ?_) (fun _ _ z => z) q⟩
  obtain ⟨d, e, z, q⟩ := q
  have rp := pures_reps x1 e
  refine ⟨by rw [rp.length]; exact z, fun p n => ?_⟩
  obtain ⟨s2, r2, x2⟩ := r1.newL n rp
  exact q _ F1 _ O1 (s1.trans s2) r2 (x2.back s1)
end
end DL

/-! text DLD -/
set_option Elab.async false
set_option linter.all false
set_option maxRecDepth 100000
namespace DL
open PySem PySem.Spec L2

/-! ### what a def promises, over data -/
abbrev DSp := List Wv → (Wv → List Wv → Prop) → (Value → List Wv → Prop) → Prop
def MonoP (sp : DSp) : Prop := ∀ ws Q Q' Y Y', (∀ w as, Q w as → Q' w as) → (∀ c as, Y c as → Y' c as) → sp ws Q Y → sp ws Q' Y'
/-- a result: frozen data, or a new object of one's own -/
def ResOk (g : Gd) (F H : Hp) (O : Own) (H0 : Hp) (O0 : Own) (v : V) : Wv → Prop
  | .pu d => Rep g.K F v d
  | .ow m => ∃ a, v = .ref a ∧ F a = none ∧ O a = none ∧ New H0 O0 a ∧ OwnM g.K F H a m
  | _ => False
theorem ResOk.vr {g : Gd} {F H H0 : Hp} {O O0 : Own} {v : V} {w : Wv} (x : ResOk g F H O H0 O0 v w) (σ : L2.St) : VR g F H O H0 O0 σ v w := by
  cases w with
  | pu d => exact x
  | ow m => exact x
  | _ => exact x.elim
def lift (K : PySem.W.Frag) (T : List (Addr × Str)) (sp : DSp) : Sp := fun vs H Q E => ∃ F O ws, R ⟨K, T, vs⟩ F H O [] ⟨[], ws⟩ ∧ ws.length = vs.length ∧ sp ws
  (fun w ws' => ∀ v F' H' O', Step F H O F' H' O' → R ⟨K, T, vs⟩ F' H' O' [] ⟨[], ws'⟩ → ResOk ⟨K, T, vs⟩ F' H' O' H O v w → Q v H')
  (fun c ws' => ∀ F' H' O', Step F H O F' H' O' → R ⟨K, T, vs⟩ F' H' O' [] ⟨[], ws'⟩ → E c none H')
theorem R.bare {g : Gd} {F H : Hp} {O : Own} {σ : L2.St} {δ : DS} (r : R g F H O σ δ) : R g F H O [] ⟨[], δ.an⟩ :=
  ⟨r.sub, fun i w h => by simp at h, r.an, r.inh, r.ntb, r.tab, rfl⟩

/-! ### the call of a def -/
def dargs (δ : DS) : List Wv → Option (List Wv)
  | .pl i :: ws => match δ.sl[i]?, pures ws with
    | some (some (.ow m)), some _ => some (.ow m :: ws)
    | _, _ => none
  | .io k :: ws => match δ.an[k]?, pures ws with
    | some (.ow m), some _ => some (.ow m :: ws)
    | _, _ => none
  | ws => match pures ws with
    | some _ => some ws
    | none => none
def dback (δ : DS) : List Wv → List Wv → Option DS
  | .pl i :: _, .ow m :: _ => some (δ.put i (some (.ow m)))
  | .io k :: _, .ow m :: _ => some ⟨δ.sl, δ.an.set k (.ow m)⟩
  | .pu _ :: _, _ => some δ
  | [], _ => some δ
  | _, _ => none
def dCall (sp : DSp) (tA : DTA) : DTE := fun δ Q Y => tA δ (fun ws δ1 => ∃ as, dargs δ1 ws = some as ∧
  sp as (fun r as' => ∃ δ2, dback δ1 ws as' = some δ2 ∧ Q r δ2) (fun c as' => ∃ δ2, dback δ1 ws as' = some δ2 ∧ Y c δ2)) Y
theorem dCall_mono {sp : DSp} {tA : DTA} (hp : MonoP sp) (ha : MonoA tA) : MonoE (dCall sp tA) := fun δ Q Q' Y Y' hQ hY q =>
  ha _ _ _ _ _ (fun ws δ1 ⟨as, e, q⟩ => ⟨as, e, hp _ _ _ _ _ (fun r as' ⟨δ2, e2, q⟩ => ⟨δ2, e2, hQ _ _ q⟩) (fun c as' ⟨δ2, e2, q⟩ => ⟨δ2, e2, hY _ _ q⟩) q⟩) hY q
section
variable {g : Gd} {F H F2 H2 : Hp} {O O' O2 : Own} {σ : L2.St} {δ : DS}
theorem R.after (r : R g F H O σ δ) (s : Step F H O' F2 H2 O2) (hO : ∀ a, O' a ≠ none → O a ≠ none) (own : ∀ a, O' a ≠ none → F2 a = none) :
    Step F H O F2 H2 O ∧ (∀ a, O a ≠ none → Live H2 a ∧ F2 a = none) ∧ (∀ a m, O' a = none → OwnM g.K F H a m → OwnM g.K F2 H2 a m) := by
  have nw : ∀ a, New H O' a → New H O a := fun a h => h.imp (hO a) id
  refine ⟨⟨s.ff, fun a o h n t => s.fr a o h (Classical.byContradiction fun z => hO a z n) t, s.th, fun a h => (s.nf a h).imp id (nw a), fun a h => .inl h⟩, fun a h => ?_, fun a m n x => x.sub s.ff fun o h t => s.fr a o h n t⟩
  obtain ⟨h1, h2⟩ := r.inh a h
  refine ⟨s.th a h1, ?_⟩
  by_cases z : O' a = none
  · refine Classical.byContradiction fun q => ?_
    rcases s.nf a q with q | q | q
    · exact q h2
    · exact q z
    · exact q h1
  · exact own a z
theorem pures_len : ∀ {ws : List Wv} {ds : List D}, pures ws = some ds → ws = ds.map .pu
  | [], ds, e => by cases e; rfl
  | .pu d :: ws, ds, e => by
    simp only [pures] at e
    cases h2 : pures ws with
    | none => rw [h2] at e; cases e
    | some ds' =>
      rw [h2] at e
      cases e
      rw [pures_len h2]
      rfl
  | .ow _ :: _, _, e => by cases e
  | .pl _ :: _, _, e => by cases e
  | .io _ :: _, _, e => by cases e
theorem Reps.anOk {K : PySem.W.Frag} {F : Hp} {vs : List V} {ds : List D} (r : Reps K F vs ds) {k : Nat} {w : Wv} (h : (ds.map Wv.pu)[k]? = some w) : ∃ v d, vs[k]? = some v ∧ w = .pu d ∧ Rep K F v d := by
  rw [List.getElem?_map] at h
  cases e : ds[k]? with
  | none => rw [e] at h; cases h
  | some d =>
    rw [e] at h
    cases h
    obtain ⟨v, h1, h2⟩ := r.get e
    exact ⟨v, d, h1, rfl, h2⟩
/-- the callee's state, where all arguments are frozen data -/
theorem R.forCall (r : R g F H O σ δ) {vs : List V} {ds : List D} (q : Reps g.K F vs ds) : R ⟨g.K, g.T, vs⟩ F H (fun _ => none) [] ⟨[], ds.map .pu⟩ :=
  ⟨r.sub, fun i w h => by simp at h, fun k w h => by
    obtain ⟨v, d, h1, rfl, h2⟩ := q.anOk h
    exact ⟨v, h1, h2⟩, fun a h => absurd rfl h, r.ntb, r.tab, rfl⟩
theorem R.keep (r : R g F H O σ δ) (s : Step F H (fun _ => none) F2 H2 O2) (sub : Sub F2 H2) (ntb : ∀ a ps, F2 a ≠ some (.tbl ps)) (tab : LamX.Tabs g.T H2) : Step F H O F2 H2 O ∧ R g F2 H2 O σ δ := by
  obtain ⟨s1, inh, ow⟩ := r.after s (fun a h => absurd rfl h) (fun a h => absurd rfl h)
  refine ⟨s1, sub, fun i w h => ?_, fun i w h => ?_, inh, ntb, tab, r.len⟩
  · obtain ⟨v, h1, h2⟩ := r.sl i w h
    refine ⟨v, h1, ?_⟩
    cases w with
    | pu d => exact Rep.sub s.ff h2
    | ow m => obtain ⟨a, e1, e2, e3⟩ := h2; exact ⟨a, e1, e2, ow a m rfl e3⟩
    | _ => exact h2
  · obtain ⟨v, h1, h2⟩ := r.an i w h
    refine ⟨v, h1, ?_⟩
    cases w with
    | pu d => exact Rep.sub s.ff h2
    | ow m => obtain ⟨a, e1, e2, e3⟩ := h2; exact ⟨a, e1, e2, ow a m rfl e3⟩
    | _ => exact h2
/-- the callee's state, where the first argument is an object of one's own at a -/
theorem R.forCall1 (r : R g F H O σ δ) {a : Addr} {p : Owner} {m : M} (ha : O a = some p) (hm : OwnM g.K F H a m) {vs : List V} {ds : List D} (q : Reps g.K F vs ds) :
    R ⟨g.K, g.T, .ref a :: vs⟩ F H (fun b => if b = a then some (.inr 0) else none) [] ⟨[], .ow m :: ds.map .pu⟩ := by
  refine ⟨r.sub, fun i w h => by simp at h, fun k w h => ?_, fun b h => ?_, r.ntb, r.tab, rfl⟩
  · cases k with
    | zero =>
      cases h
      exact ⟨.ref a, rfl, a, rfl, if_pos rfl, hm⟩
    | succ k =>
      obtain ⟨v, d, h1, rfl, h2⟩ := q.anOk (k := k) h
      exact ⟨v, h1, h2⟩
  · by_cases z : b = a
    · subst z; exact r.inh b (by rw [ha]; intro z; cases z)
    · exact absurd (if_neg z) h
/-- behind it: all but the one at a is as it was -/
theorem R.keep1 (r : R g F H O σ δ) {a : Addr} {p : Owner} (ha : O a = some p) {m2 : M} (s : Step F H (fun b => if b = a then some (.inr 0) else none) F2 H2 O2) (sub : Sub F2 H2) (ntb : ∀ a ps, F2 a ≠ some (.tbl ps)) (tab : LamX.Tabs g.T H2)
    (fa : F2 a = none) (hm : OwnM g.K F2 H2 a m2) : Step F H O F2 H2 O ∧ (∀ δ2 : DS, δ2.sl.length = δ.sl.length →
      (∀ i w, δ2.sl[i]? = some (some w) → δ.sl[i]? = some (some w) ∧ p ≠ .inl i ∨ (p = .inl i ∧ w = .ow m2 ∧ σ[i]? = some (some (.ref a)))) →
      (∀ i w, δ2.an[i]? = some w → δ.an[i]? = some w ∧ p ≠ .inr i ∨ (p = .inr i ∧ w = .ow m2 ∧ g.A[i]? = some (.ref a))) → R g F2 H2 O σ δ2) := by
  obtain ⟨s1, inh, ow⟩ := r.after s (fun b h => by
    by_cases z : b = a
    · rw [z, ha]; intro q; cases q
    · exact absurd (if_neg z) h) (fun b h => by
    by_cases z : b = a
    · rw [z]; exact fa
    · exact absurd (if_neg z) h)
  have hold : ∀ {q : Owner} {v : V} {m : M}, Hold g.K F H O q v m → q ≠ p → Hold g.K F2 H2 O q v m := fun {q v m} ⟨b, e1, e2, e3⟩ n => ⟨b, e1, e2, ow b m (if_neg fun z => by rw [z, ha] at e2; cases e2; exact n rfl) e3⟩
  refine ⟨s1, fun δ2 hl h1 h2 => ⟨sub, fun i w h => ?_, fun i w h => ?_, inh, ntb, tab, r.len.trans hl.symm⟩⟩
  · rcases h1 i w h with ⟨h, n⟩ | ⟨rfl, rfl, hv⟩
    · obtain ⟨v, h1, h2⟩ := r.sl i w h
      refine ⟨v, h1, ?_⟩
      cases w with
      | pu d => exact Rep.sub s.ff h2
      | ow m => exact hold h2 n.symm
      | _ => exact h2
    · exact ⟨.ref a, hv, a, rfl, ha, hm⟩
  · rcases h2 i w h with ⟨h, n⟩ | ⟨rfl, rfl, hv⟩
    · obtain ⟨v, h1, h2⟩ := r.an i w h
      refine ⟨v, h1, ?_⟩
      cases w with
      | pu d => exact Rep.sub s.ff h2
      | ow m => exact hold h2 n.symm
      | _ => exact h2
    · exact ⟨.ref a, hv, a, rfl, ha, hm⟩
end
section
variable {X : Cx} {g : Gd} {Wx : WX} {e a b c : Expr} {es rest : List Expr} {ta tb tc : DTE} {tA : DTA} {t u : DTT} {pos : Pos}
theorem callCanS {sp : DSp} (mp : MonoP sp) (ha : MonoA tA) (σ : L2.St) (H : Hp) (Q : VK) : canE g Wx (dCall sp tA) σ H Q → canA g Wx tA σ H fun vs H1 => lift g.K g.T sp vs H1 Q (WE Wx σ) := by
  rintro ⟨F, O, δ, r0, q⟩
  refine ⟨F, O, δ, r0, ha _ _ _ _ _ (fun ws δ1 q vs F1 H1 O1 s1 r1 x1 => ?_) (fun _ _ z => z) q⟩
  obtain ⟨as, e, q⟩ := q
  have hlen : vs.length = ws.length := Paired.length x1
  -- all frozen
  have pureCase : ∀ ds, pures ws = some ds → as = ws → (∀ as', dback δ1 ws as' = some δ1) → lift g.K g.T sp vs H1 Q (WE Wx σ) := fun ds e1 e2 e3 => by
    have rp := pures_reps x1 e1
    have ew := pures_len e1
    subst e2
    refine ⟨F1, fun _ => none, as, by rw [ew]; exact r1.forCall rp, hlen.symm, mp _ _ _ _ _ (fun w as' q v F2 H2 O2 s2 r2 x2 => ?_) (fun c as' q F2 H2 O2 s2 r2 => ?_) q⟩
    · obtain ⟨δ2, e4, q⟩ := q
      rw [e3] at e4
      cases e4
      obtain ⟨s3, r3⟩ := r1.keep s2 r2.sub r2.ntb r2.tab
      refine q v F2 H2 O1 (s1.trans s3) r3 ?_
      cases w with
      | pu d => exact x2
      | ow m =>
        obtain ⟨p, e5, f, o, n, y⟩ := x2
        have np : ¬ Live H1 p := n.resolve_left fun z => z rfl
        exact ⟨p, e5, f, (r1.dead np).2, s1.new (.inr np), y⟩
      | _ => exact x2.elim
    · obtain ⟨δ2, e4, q⟩ := q
      rw [e3] at e4
      cases e4
      obtain ⟨s3, r3⟩ := r1.keep s2 r2.sub r2.ntb r2.tab
      exact q F2 H2 O1 (s1.trans s3) r3
  -- the first one an object of one's own
  have ownCase : ∀ (p : Addr) (w0 : Owner) (m : M) (v0 : V) (vr : List V) (wr : List Wv) (wp : Wv), vs = v0 :: vr → ws = wp :: wr → v0 = .ref p → O1 p = some w0 → OwnM g.K F1 H1 p m → as = .ow m :: wr → (∃ ds, pures wr = some ds) →
      (∀ as', dback δ1 ws as' = none ∨ ∃ m2 r2, as' = .ow m2 :: r2 ∧ ∃ δ2, dback δ1 ws as' = some δ2 ∧ δ2.sl.length = δ1.sl.length ∧
        (∀ i w, δ2.sl[i]? = some (some w) → δ1.sl[i]? = some (some w) ∧ w0 ≠ .inl i ∨ (w0 = .inl i ∧ w = .ow m2 ∧ σ[i]? = some (some (.ref p)))) ∧
        (∀ i w, δ2.an[i]? = some w → δ1.an[i]? = some w ∧ w0 ≠ .inr i ∨ (w0 = .inr i ∧ w = .ow m2 ∧ g.A[i]? = some (.ref p)))) → lift g.K g.T sp vs H1 Q (WE Wx σ) := by
    rintro p w0 m v0 vr wr wp rfl rfl rfl ho hm rfl ⟨ds, e1⟩ hb
    have rp : Reps g.K F1 vr ds := by
      cases x1 with
      | cons y ys => exact pures_reps ys e1
    have ew := pures_len e1
    have fin : ∀ {as' : List Wv} {δ2 : DS} {F2 H2 : Hp} {O2 : Own}, dback δ1 (wp :: wr) as' = some δ2 → Step F1 H1 (fun b => if b = p then some (.inr 0) else none) F2 H2 O2 → R ⟨g.K, g.T, .ref p :: vr⟩ F2 H2 O2 [] ⟨[], as'⟩ → Step F1 H1 O1 F2 H2 O1 ∧ R g F2 H2 O1 σ δ2 ∧ O2 p ≠ none := by
      intro as' δ2 F2 H2 O2 e4 s2 r2
      rcases hb as' with z | ⟨m2, rr, rfl, δ3, e5, hl, h1, h2⟩
      · rw [z] at e4; cases e4
      · rw [e5] at e4
        cases e4
        obtain ⟨v, hv, hh⟩ := r2.an 0 (.ow m2) rfl
        cases hv
        obtain ⟨p', ep, hO, hm2⟩ := hh
        cases ep
        have nO : O2 p ≠ none := by rw [hO]; intro z; cases z
        obtain ⟨s3, k⟩ := r1.keep1 ho s2 r2.sub r2.ntb r2.tab (r2.inh p nO).2 hm2
        exact ⟨s3, k δ2 hl h1 h2, nO⟩
    refine ⟨F1, _, _, by rw [ew]; exact r1.forCall1 ho hm rp, by simpa using hlen.symm, mp _ _ _ _ _ (fun w as' q v F2 H2 O2 s2 r2 x2 => ?_) (fun c as' q F2 H2 O2 s2 r2 => ?_) q⟩
    · obtain ⟨δ2, e4, q⟩ := q
      obtain ⟨s3, r3, nO⟩ := fin e4 s2 r2
      refine q v F2 H2 O1 (s1.trans s3) r3 ?_
      cases w with
      | pu d => exact x2
      | ow m =>
        obtain ⟨p2, e5, f, o, n, y⟩ := x2
        have np : ¬ Live H1 p2 := n.resolve_left fun z => by
          by_cases zz : p2 = p
          · rw [zz] at o; exact nO o
          · exact z (if_neg zz)
        exact ⟨p2, e5, f, (r1.dead np).2, s1.new (.inr np), y⟩
      | _ => exact x2.elim
    · obtain ⟨δ2, e4, q⟩ := q
      obtain ⟨s3, r3, _⟩ := fin e4 s2 r2
      exact q F2 H2 O1 (s1.trans s3) r3
  cases ws with
  | nil =>
    cases e
    exact pureCase [] rfl rfl fun _ => rfl
  | cons w wr =>
    cases w with
    | pu d =>
      cases h2 : pures (.pu d :: wr) with
      | none => simp only [dargs, h2] at e; cases e
      | some ds =>
        simp only [dargs, h2] at e
        cases e
        exact pureCase ds h2 rfl fun _ => rfl
    | ow m => simp only [dargs, pures] at e; cases e
    | pl i =>
      cases vs with
      | nil => cases hlen
      | cons v0 vr =>
      have hv : σ[i]? = some (some v0) := by
        cases x1 with
        | cons y ys => exact y
      simp only [dargs] at e
      cases hs : δ1.sl[i]? with
      | none => simp only [hs] at e; cases e
      | some o =>
      cases o with
      | none => simp only [hs] at e; cases e
      | some w =>
      cases w with
      | ow m =>
        cases h2 : pures wr with
        | none => simp only [hs, h2] at e; cases e
        | some ds =>
          simp only [hs, h2] at e
          cases e
          obtain ⟨v', hv', p, e1, e2, e3⟩ := r1.sl i _ hs
          rw [hv] at hv'
          cases hv'
          refine ownCase p (.inl i) m _ _ _ _ rfl rfl e1 e2 e3 rfl ⟨ds, h2⟩ fun as' => ?_
          cases as' with
          | nil => exact .inl rfl
          | cons w r2 =>
            cases w with
            | ow m2 =>
              refine .inr ⟨m2, r2, rfl, _, rfl, by simp [DS.put], fun j w h => ?_, fun j w h => .inl ⟨h, fun z => by cases z⟩⟩
              have hi : i < δ1.sl.length := (List.getElem?_eq_some_iff.mp hs).1
              by_cases hj : j = i
              · subst hj
                simp only [DS.put] at h
                rw [List.getElem?_set_self hi] at h
                cases h
                exact .inr ⟨rfl, rfl, by rw [hv, e1]⟩
              · simp only [DS.put] at h
                rw [List.getElem?_set_ne (Ne.symm hj)] at h
                exact .inl ⟨h, fun z => hj (Sum.inl.inj z).symm⟩
            | _ => exact .inl rfl
      | _ => simp only [hs] at e; cases e
    | io k =>
      cases vs with
      | nil => cases hlen
      | cons v0 vr =>
      have hv : g.A[k]? = some v0 := by
        cases x1 with
        | cons y ys => exact y
      simp only [dargs] at e
      cases hs : δ1.an[k]? with
      | none => simp only [hs] at e; cases e
      | some w =>
      cases w with
      | ow m =>
        cases h2 : pures wr with
        | none => simp only [hs, h2] at e; cases e
        | some ds =>
          simp only [hs, h2] at e
          cases e
          obtain ⟨v', hv', p, e1, e2, e3⟩ := r1.an k _ hs
          rw [hv] at hv'
          cases hv'
          refine ownCase p (.inr k) m _ _ _ _ rfl rfl e1 e2 e3 rfl ⟨ds, h2⟩ fun as' => ?_
          cases as' with
          | nil => exact .inl rfl
          | cons w r2 =>
            cases w with
            | ow m2 =>
              refine .inr ⟨m2, r2, rfl, _, rfl, rfl, fun j w h => .inl ⟨h, fun z => by cases z⟩, fun j w h => ?_⟩
              have hi : k < δ1.an.length := (List.getElem?_eq_some_iff.mp hs).1
              by_cases hj : j = k
              · subst hj
                rw [List.getElem?_set_self hi] at h
                cases h
                exact .inr ⟨rfl, rfl, by rw [hv, e1]⟩
              · rw [List.getElem?_set_ne (Ne.symm hj)] at h
                exact .inl ⟨h, fun z => hj (Sum.inr.inj z).symm⟩
            | _ => exact .inl rfl
      | _ => simp only [hs] at e; cases e
theorem de_call {sp : DSp} {k : Nat} {f : Addr} {fd : FuncData} {ps : List Str} {x : Str} {p : Pos} (mp : MonoP sp) (F : FnOk X.prog X.w X.K X.mg X.base (L2.CX X.prog X.w) k f fd ps (lift g.K g.T sp)) (hr : Room k X.A) (hg : Gl X x) (hm : X.mg x = some (.ref f))
    (hk : PySem.W.keepIn X.K (.ref f) = true) (hb : Binds X.K fd ps []) (tk : Takes X Wx) (ha : DA X g Wx (a :: es) tA) (hdb : (x == ("__debug__" : Str)) = false := by decide) (he : starEach (a :: es) X.env = (false, eval a X.env) :: starEach es X.env := by rfl)
    (hpl : (backTo pos (starEach es X.env)).any (·.1) = false := by rfl) : DE X g Wx (.Call (.Name x p) (a :: es) [] pos) (dCall sp tA) :=
  ⟨dCall_mono mp ha.mono, peMono (pe_callS F hr hg hm hk hb (fun σ => passAt tk σ) ha.pa hdb he hpl) (callCanS mp ha.mono)⟩
end
end DL

/-! text DLE -/
set_option Elab.async false
set_option linter.all false
set_option maxRecDepth 100000
namespace DL
open PySem PySem.Spec L2
section
variable {g : Gd} {Wx : WX} {F H F0 H0 F1 H1 : Hp} {O O0 O1 : Own} {σ : L2.St} {δ δ' : DS} {v : V} {w : Wv}
theorem EndsOk.step {D : L2.Ends} {D' : DEnds} (e : EndsOk g Wx F H O D D') (s : Step F H O F1 H1 O1) : EndsOk g Wx F1 H1 O1 D D' :=
  ⟨fun δ' F' H' O' σ' s' => e.nx δ' F' H' O' σ' (s.trans s'), fun w δ' v F' H' O' σ' s' r x => e.rt w δ' v F' H' O' σ' (s.trans s') r (x.back s), fun δ' F' H' O' σ' s' => e.bk δ' F' H' O' σ' (s.trans s'),
    fun δ' F' H' O' σ' s' => e.ct δ' F' H' O' σ' (s.trans s'), fun c δ' F' H' O' σ' s' => e.ex c δ' F' H' O' σ' (s.trans s')⟩
theorem EndsOk.x {D : L2.Ends} {D' : DEnds} (e : EndsOk g Wx F H O D D') (c : Value) (δ : DS) (h : D'.ex c δ) : canX g Wx F H O σ c δ := fun F' H' O' s r => e.ex c δ F' H' O' σ s r h
theorem DEnds.le.nx1 {D D' : DEnds} (l : DEnds.le D D') {n n' : DS → Prop} (h : ∀ δ, n δ → n' δ) : DEnds.le { D with nx := n } { D' with nx := n' } := ⟨h, l.rt, l.bk, l.ct, l.ex⟩

/-! ### a name is stored -/
def put1 (δ : DS) (i : Nat) : Wv → Option DS
  | .pl j => if j = i then some δ else match δ.sl[j]? with
    | some (some (.ow m)) => some ((δ.put j none).put i (some (.ow m)))
    | some (some (.pu d)) => some (δ.put i (some (.pu d)))
    | _ => none
  | w => some (δ.put i (some w))
/-- slot i gets v -/
theorem R.put {O' : Own} (r : R g F H O σ δ) (i : Nat) (sl : List (Option Wv)) (hl : sl.length = δ.sl.length) {wo : Option Wv} (hO : ∀ a, O' a ≠ none → O a ≠ none ∨ (Live H a ∧ F a = none))
    (h1 : ∀ j w, j ≠ i → sl[j]? = some (some w) → δ.sl[j]? = some (some w) ∧ ∀ a, O a = some (.inl j) → O' a = some (.inl j))
    (h2 : ∀ k a, O a = some (.inr k) → O' a = some (.inr k)) (h3 : sl[i]? = some wo ∨ sl[i]? = none) (h4 : ∀ w, wo = some w → SlOk g F H O' i v w) : R g F H O' (σ.set i (some v)) ⟨sl, δ.an⟩ := by
  refine ⟨r.sub, fun j w h => ?_, fun j w h => ?_, fun a h => ?_, r.ntb, r.tab, by simp [hl, r.len]⟩
  · by_cases hj : j = i
    · subst hj
      have h : sl[j]? = some (some w) := h
      rcases h3 with h3 | h3
      · rw [h3] at h
        have hi : j < σ.length := by rw [r.len, ← hl]; exact (List.getElem?_eq_some_iff.mp h3).1
        exact ⟨v, by rw [List.getElem?_set_self hi], h4 w (Option.some.inj h)⟩
      · rw [h3] at h; cases h
    · obtain ⟨e, k⟩ := h1 j w hj h
      obtain ⟨v2, e1, e2⟩ := r.sl j w e
      refine ⟨v2, by rw [List.getElem?_set_ne (Ne.symm hj)]; exact e1, ?_⟩
      cases w with
      | ow m => obtain ⟨a, q1, q2, q3⟩ := e2; exact ⟨a, q1, k a q2, q3⟩
      | _ => exact e2
  · obtain ⟨v2, e1, e2⟩ := r.an j w h
    refine ⟨v2, e1, ?_⟩
    cases w with
    | ow m => obtain ⟨a, q1, q2, q3⟩ := e2; exact ⟨a, q1, h2 j a q2, q3⟩
    | _ => exact e2
  · rcases hO a h with q | q
    · exact r.inh a q
    · exact q
theorem set_at {α : Type} (l : List (Option α)) (i : Nat) (o : Option α) : (l.set i o)[i]? = some o ∨ (l.set i o)[i]? = none := by
  by_cases h : i < l.length
  · exact .inl (List.getElem?_set_self h)
  · exact .inr (List.getElem?_eq_none (by simpa using h))
theorem store1 (s : Step F0 H0 O0 F H O) (r : R g F H O σ δ) (x : VR g F H O H0 O0 σ v w) {i : Nat} (e : put1 δ i w = some δ') : ∃ O', Step F0 H0 O0 F H O' ∧ R g F H O' (σ.set i (some v)) δ' := by
  have other : ∀ {o : Option Wv} {j : Nat} {w : Wv}, j ≠ i → (δ.sl.set i o)[j]? = some (some w) → δ.sl[j]? = some (some w) := fun hj h => by rw [List.getElem?_set_ne (Ne.symm hj)] at h; exact h
  cases w with
  | pu d =>
    cases e
    exact ⟨O, s, r.put i (δ.sl.set i _) (by simp) (fun a h => .inl h) (fun j w hj h => ⟨other hj h, fun a h => h⟩) (fun k a h => h) (set_at _ _ _) (fun w h => by cases h; exact x)⟩
  | io k =>
    cases e
    exact ⟨O, s, r.put i (δ.sl.set i _) (by simp) (fun a h => .inl h) (fun j w hj h => ⟨other hj h, fun a h => h⟩) (fun k a h => h) (set_at _ _ _) (fun w h => by cases h; exact x)⟩
  | ow m =>
    cases e
    obtain ⟨a, rfl, hF, hO, n, y⟩ := x
    obtain ⟨u, hu, nt⟩ := y.there
    have na : ∀ {b : Addr} {q : Owner}, O b = some q → b ≠ a := fun h z => by rw [z, hO] at h; cases h
    refine ⟨fun b => if b = a then some (.inl i) else O b, s.own fun b h => ?_, r.put i (δ.sl.set i _) (by simp) (fun b h => ?_) (fun j w hj h => ⟨other hj h, fun b h => (if_neg (na h)).trans h⟩) (fun k b h => (if_neg (na h)).trans h) (set_at _ _ _) (fun w h => ?_)⟩
    · by_cases z : b = a
      · rw [z]; exact n
      · rw [if_neg z] at h; exact s.no b h
    · by_cases z : b = a
      · rw [z]; exact .inr ⟨⟨u, hu, nt⟩, hF⟩
      · rw [if_neg z] at h; exact .inl h
    · cases h; exact ⟨a, rfl, if_pos rfl, y⟩
  | pl j =>
    have x : σ[j]? = some (some v) := x
    dsimp only [put1] at e
    by_cases hji : j = i
    · rw [if_pos hji] at e
      cases e
      subst hji
      have es : σ.set j (some v) = σ := by
        refine List.ext_getElem? fun k => ?_
        by_cases hk : k = j
        · subst hk
          rw [List.getElem?_set_self (List.getElem?_eq_some_iff.mp x).1, x]
        · rw [List.getElem?_set_ne (Ne.symm hk)]
      rw [es]
      exact ⟨O, s, r⟩
    · rw [if_neg hji] at e
      cases h : δ.sl[j]? with
      | none => simp only [h] at e; cases e
      | some o =>
      cases o with
      | none => simp only [h] at e; cases e
      | some w =>
      obtain ⟨v2, q1, q2⟩ := r.sl j w h
      rw [x] at q1
      cases q1
      simp only [h] at e
      cases w with
      | pu d =>
        cases e
        exact ⟨O, s, r.put i (δ.sl.set i _) (by simp) (fun a h => .inl h) (fun j w hj h => ⟨other hj h, fun a h => h⟩) (fun k a h => h) (set_at _ _ _) (fun w h => by cases h; exact q2)⟩
      | ow m =>
        cases e
        obtain ⟨a, rfl, ho, y⟩ := q2
        obtain ⟨u, hu, nt⟩ := y.there
        refine ⟨fun b => if b = a then some (.inl i) else O b, s.own fun b h => ?_, r.put i ((δ.sl.set j none).set i _) (by simp) (fun b h => ?_) (fun j2 w hj h => ?_) (fun k b h => (if_neg fun z => ?_).trans h) (set_at _ _ _) (fun w h => ?_)⟩
        · by_cases z : b = a
          · rw [z]; exact s.no a (by rw [ho]; intro q; cases q)
          · rw [if_neg z] at h; exact s.no b h
        · by_cases z : b = a
          · rw [z]; exact .inl (by rw [ho]; intro q; cases q)
          · rw [if_neg z] at h; exact .inl h
        · rw [List.getElem?_set_ne (Ne.symm hj)] at h
          by_cases hj2 : j2 = j
          · subst hj2
            rcases set_at δ.sl j2 none with z | z
            · rw [z] at h; cases h
            · rw [z] at h; cases h
          · rw [List.getElem?_set_ne (Ne.symm hj2)] at h
            exact ⟨h, fun b hb => (if_neg fun z => by rw [z, ho] at hb; cases hb; exact hj2 rfl).trans hb⟩
        · rw [z, ho] at h; cases h
        · cases h; exact ⟨a, rfl, if_pos rfl, y⟩
      | io k => cases e
      | pl i => exact q2.elim
/-- a value handed back -/
def out1 (δ : DS) : Wv → Option (Wv × DS)
  | .pl i => match δ.sl[i]? with
    | some (some (.pu d)) => some (.pu d, δ)
    | some (some (.ow m)) => some (.ow m, δ.put i none)
    | _ => none
  | .io _ => none
  | w => some (w, δ)
theorem outs1 {w' : Wv} (s : Step F0 H0 O0 F H O) (r : R g F H O σ δ) (x : VR g F H O H0 O0 σ v w) (e : out1 δ w = some (w', δ')) : ∃ O', Step F0 H0 O0 F H O' ∧ R g F H O' σ δ' ∧ VR g F H O' H0 O0 σ v w' := by
  cases w with
  | pu d => cases e; exact ⟨O, s, r, x⟩
  | ow m => cases e; exact ⟨O, s, r, x⟩
  | io k => cases e
  | pl i =>
    have x : σ[i]? = some (some v) := x
    dsimp only [out1] at e
    cases h : δ.sl[i]? with
    | none => simp only [h] at e; cases e
    | some o =>
    cases o with
    | none => simp only [h] at e; cases e
    | some w =>
    obtain ⟨v2, q1, q2⟩ := r.sl i w h
    rw [x] at q1
    cases q1
    simp only [h] at e
    cases w with
    | pu d => cases e; exact ⟨O, s, r, q2⟩
    | io k => cases e
    | pl i => exact q2.elim
    | ow m =>
      cases e
      obtain ⟨a, rfl, ho, y⟩ := q2
      obtain ⟨u, hu, nt⟩ := y.there
      have hF : F a = none := (r.inh a (by rw [ho]; intro q; cases q)).2
      refine ⟨fun b => if b = a then none else O b, s.own fun b h => ?_, ⟨r.sub, fun j w h => ?_, fun j w h => ?_, fun b h => ?_, r.ntb, r.tab, by simp [DS.put, r.len]⟩, ⟨a, rfl, hF, if_pos rfl, s.no a (by rw [ho]; intro q; cases q), y⟩⟩
      · by_cases z : b = a
        · rw [if_pos z] at h; exact absurd rfl h
        · rw [if_neg z] at h; exact s.no b h
      · have hji : j ≠ i := fun z => by
          subst z
          rcases set_at δ.sl j none with z | z
          · have h : (δ.sl.set j none)[j]? = some (some w) := h
            rw [z] at h; cases h
          · have h : (δ.sl.set j none)[j]? = some (some w) := h
            rw [z] at h; cases h
        have h : (δ.sl.set i none)[j]? = some (some w) := h
        rw [List.getElem?_set_ne (Ne.symm hji)] at h
        obtain ⟨v2, e1, e2⟩ := r.sl j w h
        refine ⟨v2, e1, ?_⟩
        cases w with
        | ow m2 => obtain ⟨b, q1, q2, q3⟩ := e2; exact ⟨b, q1, (if_neg fun z => by rw [z, ho] at q2; cases q2; exact hji rfl).trans q2, q3⟩
        | _ => exact e2
      · obtain ⟨v2, e1, e2⟩ := r.an j w h
        refine ⟨v2, e1, ?_⟩
        cases w with
        | ow m2 => obtain ⟨b, q1, q2, q3⟩ := e2; exact ⟨b, q1, (if_neg fun z => by rw [z, ho] at q2; cases q2).trans q2, q3⟩
        | _ => exact e2
      · by_cases z : b = a
        · rw [if_pos z] at h; exact absurd rfl h
        · rw [if_neg z] at h; exact r.inh b h
end
section
variable {X : Cx} {g : Gd} {Wx : WX} {e a b c : Expr} {es rest : List Expr} {ta tb tc : DTE} {tA : DTA} {t u : DTT} {pos : Pos} {st : Stmt} {sts : List Stmt} {ts us : DTS}

/-! ### blocks -/
def dNext : DTS := fun D δ => D.nx δ
def dNever : DTS := fun _ _ => False
def dSeq (ts us : DTS) : DTS := fun D δ => ts { D with nx := us D } δ
theorem dss_nil : DSs X g Wx [] dNext := by
  refine ⟨fun D D' δ l h => l.nx _ h, pssMono pss_nil ?_⟩
  rintro D σ H ⟨F, O, δ, D', r, e, q⟩
  exact e.nx δ F H O σ (Step.refl _ _ _) r q
theorem dss_one (h : DSt X g Wx st ts) : DSs X g Wx [st] ts := ⟨h.mono, pss_one h.ps⟩
theorem dss_cons (h : DSt X g Wx st ts) (h' : DSs X g Wx sts us) : DSs X g Wx (st :: sts) (dSeq ts us) := by
  refine ⟨fun D D' δ l q => h.mono _ _ _ (l.nx1 fun δ => h'.mono _ _ _ l) q, pssMono (pss_cons h.ps h'.ps) ?_⟩
  rintro D σ H ⟨F, O, δ, D', r, e, q⟩
  exact ⟨F, O, δ, { D' with nx := us D' }, r, ⟨fun δ' F' H' O' σ' s r' q' => ⟨F', O', δ', D', r', e.step s, q'⟩, e.rt, e.bk, e.ct, e.ex⟩, q⟩
theorem ds_never : DSt X g Wx st dNever := ⟨fun D D' δ l q => q, psMono ps_never fun D σ H ⟨F, O, δ, D', r, e, q⟩ => q⟩
theorem dss_never : DSs X g Wx sts dNever := ⟨fun D D' δ l q => q, pssMono pss_never fun D σ H ⟨F, O, δ, D', r, e, q⟩ => q⟩
theorem ds_pass : DSt X g Wx (.Pass pos) dNext := ⟨fun D D' δ l h => l.nx _ h, psMono ps_pass fun D σ H ⟨F, O, δ, D', r, e, q⟩ => e.nx δ F H O σ (Step.refl _ _ _) r q⟩
def dBrk : DTS := fun D δ => D.bk δ
def dCnt : DTS := fun D δ => D.ct δ
theorem ds_break : DSt X g Wx (.Break pos) dBrk := ⟨fun D D' δ l h => l.bk _ h, psMono ps_break fun D σ H ⟨F, O, δ, D', r, e, q⟩ => e.bk δ F H O σ (Step.refl _ _ _) r q⟩
theorem ds_continue : DSt X g Wx (.Continue pos) dCnt := ⟨fun D D' δ l h => l.ct _ h, psMono ps_continue fun D σ H ⟨F, O, δ, D', r, e, q⟩ => e.ct δ F H O σ (Step.refl _ _ _) r q⟩
def dDrop (ta : DTE) : DTS := fun D δ => ta δ (fun _ δ1 => D.nx δ1) D.ex
theorem ds_expr (ha : DE X g Wx e ta) (hs : swapsWith e none pos.line X.env = pure false := by rfl) : DSt X g Wx (.Expr e pos) (dDrop ta) := by
  refine ⟨fun D D' δ l q => ha.mono _ _ _ _ _ (fun _ δ1 q => l.nx _ q) l.ex q, psMono (ps_expr ha.pe hs) ?_⟩
  rintro D σ H ⟨F, O, δ, D', r, e, q⟩
  exact ⟨F, O, δ, r, ha.mono _ _ _ _ _ (fun _ δ1 q v F1 H1 O1 s1 r1 x1 => e.nx δ1 F1 H1 O1 σ s1 r1 q) (fun c δ q => e.x c δ q) q⟩
def dRet (ta : DTE) : DTS := fun D δ => ta δ (fun w δ1 => ∃ w' δ2, out1 δ1 w = some (w', δ2) ∧ D.rt w' δ2) D.ex
theorem ds_ret (ha : DE X g Wx e ta) : DSt X g Wx (.Return (some e) pos) (dRet ta) := by
  refine ⟨fun D D' δ l q => ha.mono _ _ _ _ _ (fun _ δ1 ⟨w', δ2, e, q⟩ => ⟨w', δ2, e, l.rt _ _ q⟩) l.ex q, psMono (ps_ret ha.pe) ?_⟩
  rintro D σ H ⟨F, O, δ, D', r, e, q⟩
  refine ⟨F, O, δ, r, ha.mono _ _ _ _ _ (fun w δ1 q v F1 H1 O1 s1 r1 x1 => ?_) (fun c δ q => e.x c δ q) q⟩
  obtain ⟨w', δ2, eo, q⟩ := q
  obtain ⟨O2, s2, r2, x2⟩ := outs1 s1 r1 x1 eo
  exact e.rt w' δ2 v F1 H1 O2 σ s2 r2 x2 q
def dRetN : DTS := fun D δ => D.rt (.pu (.sc .non)) δ
theorem ds_retN : DSt X g Wx (.Return none pos) dRetN := ⟨fun D D' δ l h => l.rt _ _ h, psMono ps_retN fun D σ H ⟨F, O, δ, D', r, e, q⟩ => e.rt (.pu (.sc .non)) δ .non F H O σ (Step.refl _ _ _) r (Rep.sc _) q⟩
def dIfS (t : DTT) (ts us : DTS) : DTS := fun D δ => t δ (fun k δ1 => if k = true then ts D δ1 else us D δ1) D.ex
theorem ds_if {A B : List Stmt} (h : DT X g Wx c t) (ha : DSs X g Wx A ts) (hb : DSs X g Wx B us) : DSt X g Wx (.If c A B pos) (dIfS t ts us) := by
  refine ⟨fun D D' δ l q => h.mono _ _ _ _ _ (fun k δ1 q => ?_) l.ex q, psMono (ps_if h.pt ha.ps hb.ps) ?_⟩
  · cases k with
    | true => exact ha.mono _ _ _ l q
    | false => exact hb.mono _ _ _ l q
  · rintro D σ H ⟨F, O, δ, D', r, e, q⟩
    refine ⟨F, O, δ, r, h.mono _ _ _ _ _ (fun k δ1 q F1 H1 O1 s1 r1 => ?_) (fun c δ q => e.x c δ q) q⟩
    cases k with
    | true => exact ⟨F1, O1, δ1, D', r1, e.step s1, q⟩
    | false => exact ⟨F1, O1, δ1, D', r1, e.step s1, q⟩
def dSet (i : Nat) (ta : DTE) : DTS := fun D δ => ta δ (fun w δ1 => ∃ δ2, put1 δ1 i w = some δ2 ∧ D.nx δ2) D.ex
theorem setCan {i : Nat} (ha : MonoE ta) (D : L2.Ends) (σ : L2.St) (H : Hp) : canS g Wx (dSet i ta) D σ H → tAsg (canE g Wx ta) (gName i) D σ H := by
  rintro ⟨F, O, δ, D', r, e, q⟩
  refine ⟨F, O, δ, r, ha _ _ _ _ _ (fun w δ1 q v F1 H1 O1 s1 r1 x1 => ?_) (fun c δ q => e.x c δ q) q⟩
  obtain ⟨δ2, eo, q⟩ := q
  obtain ⟨O2, s2, r2⟩ := store1 s1 r1 x1 eo
  exact e.nx δ2 F1 H1 O2 _ s2 r2 q
theorem dSet_mono {i : Nat} (ha : MonoE ta) : MonoS (dSet i ta) := fun D D' δ l q => ha _ _ _ _ _ (fun _ δ1 ⟨δ2, e, q⟩ => ⟨δ2, e, l.nx _ q⟩) l.ex q
theorem ds_set {i : Nat} {x : Str} {pos' : Pos} (hN : X.N.Nodup) (hi : X.N[i]? = some x) (hx : Loc X.env.scope x) (ha : DE X g Wx e ta) (hs : swapsWith e (some (.Name x pos')) pos.line X.env = pure false := by rfl)
    (hf : X.fn x = true ∨ X.env.scope.names.lookup x = some .local := by first | exact .inl rfl | exact .inr rfl | assumption) : DSt X g Wx (.Assign [.Name x pos'] e pos) (dSet i ta) :=
  ⟨dSet_mono ha.mono, psMono (ps_set hN hi hx ha.pe hs hf) (setCan ha.mono)⟩

/-! ### targets -/
abbrev DTG := D → DS → (DS → Prop) → Prop
abbrev DTGs := List D → DS → (DS → Prop) → Prop
def canG (g : Gd) (gt : DTG) (is : List Nat) : TG := fun v σ H Q => ∃ F O δ d, R g F H O σ δ ∧ Rep g.K F v d ∧
  gt d δ (fun δ' => ∀ F' H' O' σ', Step F H O F' H' O' → R g F' H' O' σ' δ' → σ'.length = σ.length → (∀ i, i ∉ is → σ'[i]? = σ[i]?) → Q σ' H')
def canGs (g : Gd) (gt : DTGs) (is : List Nat) : TGs := fun vs σ H Q => ∃ F O δ ds, R g F H O σ δ ∧ Reps g.K F vs ds ∧
  gt ds δ (fun δ' => ∀ F' H' O' σ', Step F H O F' H' O' → R g F' H' O' σ' δ' → σ'.length = σ.length → (∀ i, i ∉ is → σ'[i]? = σ[i]?) → Q σ' H')
structure DG (X : Cx) (g : Gd) (e : Expr) (gt : DTG) (is : List Nat) : Prop where
  mono : ∀ d δ Q Q', (∀ δ', Q δ' → Q' δ') → gt d δ Q → gt d δ Q'
  pg : PG X e (canG g gt is)
structure DGs (X : Cx) (g : Gd) (es : List Expr) (gt : DTGs) (is : List Nat) : Prop where
  mono : ∀ d δ Q Q', (∀ δ', Q δ' → Q' δ') → gt d δ Q → gt d δ Q'
  pg : PGs X es (canGs g gt is)
theorem pgMono {t t' : TG} (h : PG X e t) (i : ∀ v σ H Q, t' v σ H Q → t v σ H Q) : PG X e t' := ⟨fun pins s σ H v u Q I r q => h.run pins s σ H v u Q I r (i v σ H Q q)⟩
theorem pgsMono {t t' : TGs} (h : PGs X es t) (i : ∀ v σ H Q, t' v σ H Q → t v σ H Q) : PGs X es t' := ⟨fun pins s σ H v u Q I r q => h.run pins s σ H v u Q I r (i v σ H Q q)⟩
def dgName (i : Nat) : DTG := fun d δ Q => Q (δ.put i (some (.pu d)))
theorem dg_name {i : Nat} {x : Str} (hN : X.N.Nodup) (hi : X.N[i]? = some x) (hx : Loc X.env.scope x) (hf : X.fn x = true ∨ X.env.scope.names.lookup x = some .local := by first | exact .inl rfl | exact .inr rfl | assumption) : DG X g (.Name x pos) (dgName i) [i] := by
  refine ⟨fun d δ Q Q' h q => h _ q, pgMono (pg_name hN hi hx hf) ?_⟩
  rintro v σ H Q ⟨F, O, δ, d, r, rp, q⟩
  obtain ⟨O2, s2, r2⟩ := store1 (Step.refl F H O) r (w := .pu d) rp (i := i) rfl
  exact q F H O2 _ s2 r2 (by simp) (fun j hj => List.getElem?_set_ne (by intro z; exact hj (by simp [z])))
def dgNil : DTGs := fun ds δ Q => ds = [] ∧ Q δ
def dgCons (gt : DTG) (gs : DTGs) : DTGs := fun ds δ Q => ∃ d r, ds = d :: r ∧ gt d δ fun δ' => gs r δ' Q
theorem dgs_nil : DGs X g [] dgNil [] := by
  refine ⟨fun d δ Q Q' h q => ⟨q.1, h _ q.2⟩, pgsMono pgs_nil ?_⟩
  rintro v σ H Q ⟨F, O, δ, ds, r, rp, e, q⟩
  subst e
  cases rp
  exact ⟨rfl, q F H O σ (Step.refl _ _ _) r rfl fun _ _ => rfl⟩
theorem dgs_cons {gt : DTG} {gs : DTGs} {is js : List Nat} (h : DG X g e gt is) (h' : DGs X g es gs js) (hs : (assignEach (e :: es) X.env).map (·.2) = assign e X.env :: (assignEach es X.env).map (·.2) := by rfl) : DGs X g (e :: es) (dgCons gt gs) (is ++ js) := by
  refine ⟨fun d δ Q Q' i ⟨d0, r, e, q⟩ => ⟨d0, r, e, h.mono _ _ _ _ (fun δ' q => h'.mono _ _ _ _ i q) q⟩, pgsMono (pgs_cons h.pg h'.pg hs) ?_⟩
  rintro v σ H Q ⟨F, O, δ, ds, r, rp, d, rest, e, q⟩
  subst e
  cases rp with
  | cons rp rps =>
    rename_i v0 vs0
    refine ⟨v0, vs0, rfl, F, O, δ, d, r, rp, h.mono _ _ _ _ (fun δ1 q F1 H1 O1 σ1 s1 r1 l1 k1 => ?_) q⟩
    refine ⟨F1, O1, δ1, rest, r1, rps.sub s1.ff, h'.mono _ _ _ _ (fun δ2 q F2 H2 O2 σ2 s2 r2 l2 k2 => ?_) q⟩
    exact q F2 H2 O2 σ2 (s1.trans s2) r2 (l2.trans l1) fun i hi => by
      rw [List.mem_append, not_or] at hi
      rw [k2 i hi.2, k1 i hi.1]
def dgTup (gs : DTGs) : DTG := fun d δ Q => ∃ ds, d = .tup ds ∧ gs ds δ Q
theorem dg_tup {k : Nat} {gs : DTGs} {is : List Nat} {n : Nat} (gK : g.K = X.K) (hc : X.calm = true) (h : DGs X g es gs is) (hl : ∀ ds δ Q, gs ds δ Q → ds.length = n) (hn : (assignEach es X.env).length = n := by rfl) (hst : (assignEach es X.env).findIdx? (·.1) = none := by rfl) :
    DG X g (.Tuple es k pos) (dgTup gs) is := by
  refine ⟨fun d δ Q Q' i ⟨ds, e, q⟩ => ⟨ds, e, h.mono _ _ _ _ i q⟩, pgMono (pg_tup hc h.pg hn hst) ?_⟩
  rintro v σ H Q ⟨F, O, δ, d, r, rp, ds, e, q⟩
  subst e
  cases rp with
  | tup hq rps => exact ⟨_, _, rfl, by rw [← gK]; exact r.sub.sqT hq, by rw [rps.length]; exact hl _ _ _ q, F, O, δ, ds, r, rps, q⟩
def dgLst (gs : DTGs) : DTG := fun d δ Q => ∃ ds, d = .lst ds ∧ gs ds δ Q
theorem dg_lst {k : Nat} {gs : DTGs} {is : List Nat} {n : Nat} (gK : g.K = X.K) (hc : X.calm = true) (h : DGs X g es gs is) (hl : ∀ ds δ Q, gs ds δ Q → ds.length = n) (hn : (assignEach es X.env).length = n := by rfl) (hst : (assignEach es X.env).findIdx? (·.1) = none := by rfl) :
    DG X g (.Tuple es k pos) (dgLst gs) is := by
  refine ⟨fun d δ Q Q' i ⟨ds, e, q⟩ => ⟨ds, e, h.mono _ _ _ _ i q⟩, pgMono (pg_lst hc h.pg hn hst) ?_⟩
  rintro v σ H Q ⟨F, O, δ, d, r, rp, ds, e, q⟩
  subst e
  cases rp with
  | lst hq rps => exact ⟨_, _, rfl, by rw [← gK]; exact .of (r.sub _ _ hq), by rw [rps.length]; exact hl _ _ _ q, F, O, δ, ds, r, rps, q⟩
/-- target = value: the value is frozen -/
def dAsg (ta : DTE) (gt : DTG) : DTS := fun D δ => ta δ (fun w δ1 => ∃ d δ2, frz1 δ1 w = some (d, δ2) ∧ gt d δ2 D.nx) D.ex
theorem ds_asg {tg : Expr} {gt : DTG} {is : List Nat} (ha : DE X g Wx e ta) (hg : DG X g tg gt is) (hs : swapsWithSole [tg] e pos.line X.env = pure false := by rfl) (hw : swappedStores [tg] e X.env = pure none := by rfl)
    (h1 : (assignEach [tg] X.env).map (·.2) = [assign tg X.env] := by rfl) : DSt X g Wx (.Assign [tg] e pos) (dAsg ta gt) := by
  refine ⟨fun D D' δ l q => ha.mono _ _ _ _ _ (fun _ δ1 ⟨d, δ2, e, q⟩ => ⟨d, δ2, e, hg.mono _ _ _ _ (fun δ' => l.nx δ') q⟩) l.ex q, psMono (ps_asg ha.pe hg.pg hs hw h1) ?_⟩
  rintro D σ H ⟨F, O, δ, D', r, e, q⟩
  refine ⟨F, O, δ, r, ha.mono _ _ _ _ _ (fun w δ1 q v F1 H1 O1 s1 r1 x1 => ?_) (fun c δ q => e.x c δ q) q⟩
  obtain ⟨d, δ2, eo, q⟩ := q
  obtain ⟨F2, O2, s2, r2, rp⟩ := froze s1 r1 x1 eo
  exact ⟨F2, O2, δ2, d, r2, rp, hg.mono _ _ _ _ (fun δ3 q F3 H3 O3 σ3 s3 r3 _ _ => e.nx δ3 F3 H3 O3 σ3 (s2.trans s3) r3 q) q⟩
end
end DL

/-! text DLF -/
set_option Elab.async false
set_option linter.all false
set_option maxRecDepth 100000
namespace DL
open PySem PySem.Spec L2

/-! ### what is walked -/
abbrev DTI := DS → (List D → DS → Prop) → DX → Prop
/-- from F0 on the iterator yields ds -/
def Yields (g : Gd) (J : It) (ds : List D) (F0 : Hp) : Prop := ∀ F H, Sub F0 F → Sub F H → ∀ i, (i < ds.length → J.go i H) ∧ (i = ds.length → J.stop i H) ∧
  ∀ x H' d O σ δ, ds[i]? = some d → J.yld i H x H' → R g F H O σ δ → ∃ F', Step F H O F' H' O ∧ R g F' H' O σ δ ∧ Rep g.K F' x d
def canI (g : Gd) (Wx : WX) (t : DTI) : TI := fun σ H P => ∃ F O δ, R g F H O σ δ ∧ t δ (fun ds δ' => ∀ J F' H' O', Step F H O F' H' O' → R g F' H' O' σ δ' → Yields g J ds F' → P J H') (canX g Wx F H O σ)
def MonoI (t : DTI) : Prop := ∀ δ Q Q' X X', (∀ w δ', Q w δ' → Q' w δ') → (∀ c δ', X c δ' → X' c δ') → t δ Q X → t δ Q' X'
structure DI (X : Cx) (g : Gd) (Wx : WX) (tg iter : Expr) (t : DTI) : Prop where
  mono : MonoI t
  pi : PI X tg iter (canI g Wx t)
theorem piMono {X : Cx} {tg e : Expr} {t t' : TI} (h : PI X tg e t) (i : ∀ σ H Q, t' σ H Q → t σ H Q) : PI X tg e t' := ⟨fun pins s σ H Q I q => h.run pins s σ H Q I (i σ H Q q)⟩
/-- one sign's text -/
def sign (c : Nat) : Str := ⟨#[c]⟩
def itemsD : D → Option (List D)
  | .lst ds => some ds
  | .tup ds => some ds
  | .sc (.str z) => some (z.cps.toList.map fun c => .sc (.str (sign c)))
  | .scr ns => some (ns.map fun n => .sc (.int n))
  | _ => none
def iAny (K : PySem.W.Frag) (tl : TE) : TI := fun σ H P => tl σ H fun x H1 => (∃ a, x = .ref a ∧ (∃ xs, SqL K H1 a xs) ∧ P (Itl K a) H1) ∨ (∃ a, x = .ref a ∧ (∃ xs, SqT K H1 a xs) ∧ P (Itt K a) H1) ∨ ∃ z, x = .str z ∧ P (Its z) H1
/-- an iterator object just laid, its turns told -/
theorem it_laid {X : Cx} {tg : Expr} {pins : List (Addr × Obj)} {σ : L2.St} {H : Hp} {s : Shared} {P : It → Hp → Prop} {J : It} {tn : Nat → Heap → Prop} {o : Obj} (I : Inv X pins σ H s) (T : Turn X.prog X.w X.K tg J [s.heap.objs.size] s.heap.objs.size tn) (t0 : tn 0 (s.heap.push o)) (q : P J H) :
    PIE X pins σ tg P (.ref s.heap.objs.size) { s with heap := s.heap.push o } :=
  ⟨_, _, tn, J, H, rfl, I.kept (t' := s.toks) fun b u e => Heap.get?_push_of_some _ e, T, t0, fun b hb => by
    rw [List.mem_singleton.mp hb]
    exact I.fpOk (Nat.le_refl _) (I.hok.fresh (Nat.le_refl _)), q⟩
theorem pi_any {X : Cx} {tg l : Expr} {tl : TE} (hl : PE X l tl) : PI X tg l (iAny X.K tl) := by
  constructor
  intro pins s σ H P I h
  apply thn (hl.run pins s σ H _ I h)
  rintro v s1 ⟨x, H1, I1, r1, ⟨a, rfl, ⟨xs, hq⟩, q⟩ | ⟨a, rfl, ⟨xs, hq⟩, q⟩ | ⟨z, rfl, q⟩⟩
  · obtain rfl : v = .ref a := r1
    obtain ⟨its, _, p, _⟩ := I1.list hq
    exact wpAny_pyIter_list p.isList (it_laid I1 (turn_list a _) ⟨_, Heap.get?_push_size _ rfl, rfl, rfl⟩ q)
  · obtain rfl : v = .ref a := r1
    obtain ⟨its, _, p, _⟩ := I1.tuple hq
    exact wpAny_pyIter_tuple (show s1.heap.IsTuple a its.toArray from p) (it_laid I1 (turn_tuple a _) ⟨_, Heap.get?_push_size _ rfl, rfl, rfl⟩ q)
  · obtain ⟨t, rfl⟩ := r1
    by_cases ha : z.cps.all (· < 128) = true
    · exact wpAny_pyIter_ascii ha (it_laid I1 (turn_str _ z t "str_ascii_iterator" (.inl rfl)) ⟨_, Heap.get?_push_size _ rfl, rfl, rfl⟩ q)
    · exact wpAny_pyIter_wide (Bool.eq_false_iff.mpr ha) (it_laid I1 (turn_str _ z t "str_iterator" (.inr rfl)) ⟨_, Heap.get?_push_size _ rfl, rfl, rfl⟩ q)
theorem yields_list {g : Gd} {F : Hp} {a : Addr} {vs : List V} {ds : List D} (h : SqL g.K F a vs) (r : Reps g.K F vs ds) : Yields g (Itl g.K a) ds F := fun F1 H s1 s2 i => by
  have h' := s2.sqL (s1.sqL h)
  refine ⟨fun hi => ?_, fun hi => ⟨vs, h', by rw [r.length, hi]; exact Nat.le_refl _⟩, fun x H' d O σ δ hd hy rr => ?_⟩
  · obtain ⟨v, hv, _⟩ := r.get (i := i) (d := ds[i]) (by simp [hi])
    exact ⟨vs, v, h', hv⟩
  · obtain ⟨v, hv, rv⟩ := r.get hd
    obtain ⟨rfl, hy⟩ := hy
    have := hy vs h'
    rw [hv] at this
    cases this
    exact ⟨F1, Step.refl _ _ _, rr, rv.sub s1⟩
theorem yields_tup {g : Gd} {F : Hp} {a : Addr} {vs : List V} {ds : List D} (h : SqT g.K F a vs) (r : Reps g.K F vs ds) : Yields g (Itt g.K a) ds F := fun F1 H s1 s2 i => by
  have h' := s2.sqT (s1.sqT h)
  refine ⟨fun hi => ?_, fun hi => ⟨vs, h', by rw [r.length, hi]; exact Nat.le_refl _⟩, fun x H' d O σ δ hd hy rr => ?_⟩
  · obtain ⟨v, hv, _⟩ := r.get (i := i) (d := ds[i]) (by simp [hi])
    exact ⟨vs, v, h', hv⟩
  · obtain ⟨v, hv, rv⟩ := r.get hd
    obtain ⟨rfl, hy⟩ := hy
    have := hy vs h'
    rw [hv] at this
    cases this
    exact ⟨F1, Step.refl _ _ _, rr, rv.sub s1⟩
theorem yields_str {g : Gd} {F : Hp} (z : Str) : Yields g (Its z) (z.cps.toList.map fun c => .sc (.str (sign c))) F := fun F1 H s1 s2 i => by
  refine ⟨fun hi => by (show i < z.cps.size); simpa using hi, fun hi => by (show z.cps.size ≤ i); rw [hi]; simp, fun x H' d O σ δ hd hy rr => ?_⟩
  obtain ⟨rfl, c, hc, rfl⟩ := hy
  rw [List.getElem?_map, Array.getElem?_toList, hc] at hd
  cases hd
  exact ⟨F1, Step.refl _ _ _, rr, .sc _⟩
def dIt (ta : DTE) : DTI := fun δ Q Y => ta δ (fun w δ1 => ∃ d δ2, frz1 δ1 w = some (d, δ2) ∧ ∃ ds, itemsD d = some ds ∧ Q ds δ2) Y
section
variable {X : Cx} {g : Gd} {Wx : WX} {e a b c tg iter elt : Expr} {es rest : List Expr} {ta tb tc : DTE} {tA : DTA} {t u : DTT} {ti : DTI} {pos : Pos} {st : Stmt} {sts : List Stmt} {ts us : DTS}
theorem di_any (gK : g.K = X.K) (ha : DE X g Wx e ta) : DI X g Wx tg e (dIt ta) := by
  refine ⟨fun δ Q Q' Y Y' hQ hY h => ha.mono _ _ _ _ _ (fun w δ1 ⟨d, δ2, e, ds, e2, q⟩ => ⟨d, δ2, e, ds, e2, hQ _ _ q⟩) hY h, piMono (pi_any ha.pe) ?_⟩
  rintro σ H Q ⟨F, O, δ, r, q⟩
  refine ⟨F, O, δ, r, ha.mono _ _ _ _ _ (fun w δ1 q v F1 H1 O1 s1 r1 x1 => ?_) (fun _ _ z => z) q⟩
  obtain ⟨d, δ2, e1, ds, e2, q⟩ := q
  obtain ⟨F2, O2, s2, r2, rp⟩ := froze s1 r1 x1 e1
  rw [← gK]
  cases rp with
  | lst h rs => cases e2; exact .inl ⟨_, rfl, ⟨_, .of (r2.sub _ _ h)⟩, q _ F2 H1 O2 s2 r2 (yields_list (.of h) rs)⟩
  | scr h => cases e2; exact .inl ⟨_, rfl, ⟨_, r2.sub.sqL h⟩, q _ F2 H1 O2 s2 r2 (yields_list h (by rw [show (fun n => D.sc (.int n)) = D.sc ∘ V.int from rfl, ← List.map_map]; exact Reps.scs _))⟩
  | tup h rs => cases e2; exact .inr (.inl ⟨_, rfl, ⟨_, r2.sub.sqT h⟩, q _ F2 H1 O2 s2 r2 (yields_tup h rs)⟩)
  | dic h rs => cases e2
  | sc v =>
    cases v with
    | str z => cases e2; exact .inr (.inr ⟨z, rfl, q _ F2 H1 O2 s2 r2 (yields_str z)⟩)
    | _ => cases e2
/-- lo, lo + 1, .. (n of them) -/
def rngL (lo : Int) (n : Nat) : List D := (List.range n).map fun (i : Nat) => .sc (.int (lo + i))
theorem yields_range {F : Hp} (lo : Int) (n : Nat) : Yields g (Itr lo n) (rngL lo n) F := fun F1 H s1 s2 i => by
  refine ⟨fun hi => by (show i < n); simpa [rngL] using hi, fun hi => by (show n ≤ i); rw [hi]; simp [rngL], fun x H' d O σ δ hd hy rr => ?_⟩
  obtain ⟨rfl, rfl⟩ := hy
  unfold rngL at hd
  rw [List.getElem?_map] at hd
  cases h : (List.range n)[i]? with
  | none => rw [h] at hd; cases hd
  | some j =>
    rw [h] at hd
    cases hd
    have : i = j := by
      rw [List.getElem?_eq_some_iff] at h
      obtain ⟨h1, h2⟩ := h
      rw [List.getElem_range] at h2
      exact h2
    subst this
    exact ⟨F1, Step.refl _ _ _, rr, .sc _⟩
def dRng1 (tA : DTA) : DTI := fun δ Q Y => tA δ (fun ws δ1 => ∃ j : Int, vals δ1 ws = some [.sc (.int j)] ∧ -(2 ^ 62) ≤ j ∧ j < 2 ^ 62 ∧ Q (rngL 0 j.toNat) δ1) Y
def dRng2 (tA : DTA) : DTI := fun δ Q Y => tA δ (fun ws δ1 => ∃ i j : Int, vals δ1 ws = some [.sc (.int i), .sc (.int j)] ∧ (-(2 ^ 62) ≤ i ∧ i < 2 ^ 62 ∧ -(2 ^ 62) ≤ j ∧ j < 2 ^ 62) ∧ Q (rngL i (j - i).toNat) δ1) Y
theorem di_rng1 {p : Pos} (hg : Gl X "range") (hm : X.mg "range" = none) (ha : DA X g Wx [a] tA) (hs : starEach [a] X.env = [(false, eval a X.env)] := by rfl) : DI X g Wx tg (.Call (.Name "range" p) [a] [] pos) (dRng1 tA) := by
  refine ⟨fun δ Q Q' Y Y' hQ hY h => ha.mono _ _ _ _ _ (fun w δ1 ⟨j, e, z1, z2, q⟩ => ⟨j, e, z1, z2, hQ _ _ q⟩) hY h, piMono (pi_range1 hg hm ha.pa hs) ?_⟩
  rintro σ H Q ⟨F, O, δ, r, q⟩
  refine ⟨F, O, δ, r, ha.mono _ _ _ _ _ (fun w δ1 q v F1 H1 O1 s1 r1 x1 => ?_) (fun _ _ z => z) q⟩
  obtain ⟨j, e1, z1, z2, q⟩ := q
  have hc := r1.conts x1 e1
  cases hc with
  | cons h1 h2 =>
    cases h2
    exact ⟨j, by rw [show _ = V.int j from h1], z1, z2, q _ F1 H1 O1 s1 r1 (yields_range 0 _)⟩
theorem di_rng2 {p : Pos} (hg : Gl X "range") (hm : X.mg "range" = none) (ha : DA X g Wx [a, b] tA) (hs : starEach [a, b] X.env = [(false, eval a X.env), (false, eval b X.env)] := by rfl) (hs2 : starEach [b] X.env = [(false, eval b X.env)] := by rfl) :
    DI X g Wx tg (.Call (.Name "range" p) [a, b] [] pos) (dRng2 tA) := by
  refine ⟨fun δ Q Q' Y Y' hQ hY h => ha.mono _ _ _ _ _ (fun w δ1 ⟨i, j, e, z1, q⟩ => ⟨i, j, e, z1, hQ _ _ q⟩) hY h, piMono (pi_range2 hg hm ha.pa hs hs2) ?_⟩
  rintro σ H Q ⟨F, O, δ, r, q⟩
  refine ⟨F, O, δ, r, ha.mono _ _ _ _ _ (fun w δ1 q v F1 H1 O1 s1 r1 x1 => ?_) (fun _ _ z => z) q⟩
  obtain ⟨i, j, e1, z1, q⟩ := q
  have hc := r1.conts x1 e1
  cases hc with
  | cons h1 h2 =>
    cases h2 with
    | cons h2 h3 =>
      cases h3
      exact ⟨i, j, by rw [show _ = V.int i from h1, show _ = V.int j from h2], z1, q _ F1 H1 O1 s1 r1 (yields_range i _)⟩

/-! ### for -/
theorem EndsOk.loop {F H : Hp} {O : Own} {D : L2.Ends} {D' : DEnds} (e : EndsOk g Wx F H O D D') {N : L2.St → Hp → Prop} {n : DS → Prop} (h : ∀ δ' F' H' O' σ', Step F H O F' H' O' → R g F' H' O' σ' δ' → n δ' → N σ' H') :
    EndsOk g Wx F H O { D with nx := N, ct := N, bk := D.nx } { D' with nx := n, ct := n, bk := D'.nx } := ⟨h, e.rt, e.nx, h, e.ex⟩
theorem DEnds.le.loop {D D' : DEnds} (l : DEnds.le D D') {n n' : DS → Prop} (h : ∀ δ, n δ → n' δ) : DEnds.le { D with nx := n, ct := n, bk := D.nx } { D' with nx := n', ct := n', bk := D'.nx } := ⟨h, l.rt, l.nx, h, l.ex⟩
def dForL (gt : DTG) (tb : DTS) (D : DEnds) : List DL.D → DS → Prop
  | [], δ => D.nx δ
  | d :: ds, δ => gt d δ fun δ1 => tb { D with nx := dForL gt tb D ds, ct := dForL gt tb D ds, bk := D.nx } δ1
def dFor (ti : DTI) (gt : DTG) (tb : DTS) : DTS := fun D δ => ti δ (fun ds δ1 => dForL gt tb D ds δ1) D.ex
theorem dForL_mono {gt : DTG} {tb : DTS} (hg : ∀ d δ Q Q', (∀ δ', Q δ' → Q' δ') → gt d δ Q → gt d δ Q') (hb : MonoS tb) {D D' : DEnds} (l : DEnds.le D D') : ∀ ds δ, dForL gt tb D ds δ → dForL gt tb D' ds δ
  | [], δ, h => l.nx _ h
  | d :: ds, δ, h => hg _ _ _ _ (fun δ1 h => hb _ _ _ (l.loop (dForL_mono hg hb l ds)) h) h
theorem ds_for {body : List Stmt} {gt : DTG} {is : List Nat} {tb : DTS} (hp : PassesOwn (model X.prog X.w) X.A X.env X.xe) (hc : X.calm = true) (hi : DI X g Wx tg iter ti) (hg : DG X g tg gt is) (hb : DSs X g Wx body tb)
    (hs : ∀ x, foldedSetIterable iter X.env x = pure x := by intro _; rfl) : DSt X g Wx (.For tg iter body [] pos) (dFor ti gt tb) := by
  refine ⟨fun D D' δ l q => hi.mono _ _ _ _ _ (fun ds δ1 q => dForL_mono hg.mono hb.mono l _ _ q) l.ex q, psMono (ps_for hp hc hi.pi hg.pg hb.ps hs) ?_⟩
  rintro D σ H ⟨F, O, δ, D', r, e, q⟩
  refine ⟨F, O, δ, r, hi.mono _ _ _ _ _ (fun ds δ1 q J F1 H1 O1 s1 r1 y1 => ?_) (fun c δ q => e.x c δ q) q⟩
  refine ⟨fun i m σ' H' => m = ds.length - i ∧ i ≤ ds.length ∧ ∃ F' O' δ', Step F H O F' H' O' ∧ Sub F1 F' ∧ R g F' H' O' σ' δ' ∧ dForL gt tb D' (ds.drop i) δ', ⟨_, rfl, Nat.zero_le _, F1, O1, δ1, s1, Sub.refl _, r1, q⟩, ?_⟩
  rintro i m σ' H' ⟨rfl, hi', F', O', δ', s', k', r', q'⟩
  obtain ⟨y2, y3, y4⟩ := y1 F' H' k' r'.sub i
  by_cases hlt : i < ds.length
  · refine .inr ⟨y2 hlt, fun σ'' H'' => i + 1 ≤ ds.length ∧ ∃ F' O' δ', Step F H O F' H'' O' ∧ Sub F1 F' ∧ R g F' H'' O' σ'' δ' ∧ dForL gt tb D' (ds.drop (i + 1)) δ', fun σ'' H'' ⟨h1, h2⟩ => ⟨ds.length - (i + 1), by omega, rfl, h1, h2⟩, fun x H2 hy => ?_⟩
    rw [List.drop_eq_getElem_cons hlt] at q'
    obtain ⟨F2, s2, r2, rp⟩ := y4 x H2 ds[i] O' σ' δ' (by simp [hlt]) hy r'
    refine ⟨F2, O', δ', ds[i], r2, rp, hg.mono _ _ _ _ (fun δ3 q3 F3 H3 O3 σ3 s3 r3 _ _ => ?_) q'⟩
    have s4 := (s'.trans s2).trans s3
    have k4 := (k'.trans s2.ff).trans s3.ff
    have loop : ∀ δ' F' H' O' σ', Step F3 H3 O3 F' H' O' → R g F' H' O' σ' δ' → dForL gt tb D' (ds.drop (i + 1)) δ' → i + 1 ≤ ds.length ∧ ∃ F'' O' δ', Step F H O F'' H' O' ∧ Sub F1 F'' ∧ R g F'' H' O' σ' δ' ∧ dForL gt tb D' (ds.drop (i + 1)) δ' :=
      fun δ' F' H' O' σ' s r q => ⟨hlt, F', O', δ', s4.trans s, k4.trans s.ff, r, q⟩
    exact ⟨F3, O3, δ3, _, r3, (e.step s4).loop loop, q3⟩
  · have ei : i = ds.length := by omega
    subst ei
    rw [List.drop_length] at q'
    exact .inl ⟨y3 rfl, e.nx δ' F' H' O' σ' s' r' q'⟩

/-! ### while -/
def dWhileN (t : DTT) (tb : DTS) (D : DEnds) : Nat → DS → Prop
  | 0, _ => False
  | n + 1, δ => t δ (fun k δ1 => if k = true then tb { D with nx := dWhileN t tb D n, ct := dWhileN t tb D n, bk := D.nx } δ1 else D.nx δ1) D.ex
def dWhile (t : DTT) (tb : DTS) : DTS := fun D δ => ∃ n, dWhileN t tb D n δ
theorem dWhileN_mono {tb : DTS} (ht : MonoT t) (hb : MonoS tb) {D D' : DEnds} (l : DEnds.le D D') : ∀ n δ, dWhileN t tb D n δ → dWhileN t tb D' n δ
  | 0, δ, h => h
  | n + 1, δ, h => ht _ _ _ _ _ (fun k δ1 h => by
    cases k with
    | true => exact hb _ _ _ (l.loop (dWhileN_mono ht hb l n)) h
    | false => exact l.nx _ h) l.ex h
theorem ds_while {body : List Stmt} {tb : DTS} (hp : PassesOwn (model X.prog X.w) X.A X.env X.xe) (hc : DT X g Wx c t) (hb : DSs X g Wx body tb) : DSt X g Wx (.While c body [] pos) (dWhile t tb) := by
  refine ⟨fun D D' δ l ⟨n, q⟩ => ⟨n, dWhileN_mono hc.mono hb.mono l n δ q⟩, psMono (ps_while hp hc.pt hb.ps) ?_⟩
  rintro D σ H ⟨F, O, δ, D', r, e, n, q⟩
  refine ⟨fun m σ' H' => ∃ F' O' δ', Step F H O F' H' O' ∧ R g F' H' O' σ' δ' ∧ dWhileN t tb D' m δ', ⟨n, F, O, δ, Step.refl _ _ _, r, q⟩, ?_⟩
  rintro m σ1 H1 ⟨F1, O1, δ1, s1, r1, q1⟩
  cases m with
  | zero => exact q1.elim
  | succ m =>
    refine ⟨F1, O1, δ1, r1, hc.mono _ _ _ _ _ (fun k δ2 q2 F2 H2 O2 s2 r2 => ?_) (fun c δ q => (e.step s1).x c δ q) q1⟩
    have s3 := s1.trans s2
    cases k with
    | false => exact e.nx δ2 F2 H2 O2 σ1 s3 r2 q2
    | true =>
      have loop : ∀ δ' F' H' O' σ', Step F2 H2 O2 F' H' O' → R g F' H' O' σ' δ' → dWhileN t tb D' m δ' → ∃ F'' O' δ', Step F H O F'' H' O' ∧ R g F'' H' O' σ' δ' ∧ dWhileN t tb D' m δ' :=
        fun δ' F' H' O' σ' s r q => ⟨F', O', δ', s3.trans s, r, q⟩
      refine ⟨fun σ' H' => ∃ F' O' δ', Step F H O F' H' O' ∧ R g F' H' O' σ' δ' ∧ dWhileN t tb D' m δ', fun σ' H' h => ⟨m, Nat.lt_succ_self _, h⟩, ?_⟩
      exact ⟨F2, O2, δ2, _, r2, (e.step s3).loop loop, q2⟩

/-! ### raise -/
def dRaise (C : Addr) : DTS := fun D δ => D.ex (.ref C) δ
theorem ds_raise {C : Addr} {x m : Str} {j : Nat} {p p2 : Pos} {pos2 : Pos} {B newId initId : String} {bmB : List Value} (hc : X.calm = true) (tk : Takes X Wx) (Fb : ExcBaseFacts B newId initId bmB) (q : PySem.W.excIn X.K C bmB newId = true) (gC : X.mg x = some (.ref C))
    (kC : PySem.W.keepIn X.K (.ref C) = true) (rs : Raises X (.ref C)) (hg : Gl X x) (hdb : (x == ("__debug__" : Str)) = false := by decide) : DSt X g Wx (.Raise (some (.Call (.Name x p) [.Constant (.str m) j p2] [] pos2)) none pos) (dRaise C) := by
  refine ⟨fun D D' δ l h => l.ex _ _ h, psMono (ps_raise hc tk (pmk_own Fb q gC kC rs hg hdb)) ?_⟩
  rintro D σ H ⟨F, O, δ, D', r, e, q⟩
  exact e.ex _ δ F H O σ (Step.refl _ _ _) r q
end
end DL

/-! text DLG -/
set_option Elab.async false
set_option linter.all false
set_option maxRecDepth 100000
namespace DL
open PySem PySem.Spec L2

/-! ### comprehensions -/
def wipeL (l : List (Option Wv)) : List Nat → List (Option Wv)
  | [] => l
  | v :: vs => (wipeL l vs).set v none
def DS.wipe (δ : DS) (vs : List Nat) : DS := ⟨wipeL δ.sl vs, δ.an⟩
def restL (l l1 : List (Option Wv)) : List Nat → List (Option Wv)
  | [] => l
  | v :: vs => (restL l l1 vs).set v (match l1[v]? with
    | some (some (.pu d)) => some (.pu d)
    | _ => none)
def DS.rest (δ δ1 : DS) (vs : List Nat) : DS := ⟨restL δ.sl δ1.sl vs, δ.an⟩
theorem wipe_len (l : List (Option Wv)) : ∀ vs, (wipeL l vs).length = l.length
  | [] => rfl
  | v :: vs => by rw [wipeL, List.length_set, wipe_len l vs]
theorem rest_len (l l1 : List (Option Wv)) : ∀ vs, (restL l l1 vs).length = l.length
  | [] => rfl
  | v :: vs => by rw [restL, List.length_set, rest_len l l1 vs]
theorem wipe_get {l : List (Option Wv)} : ∀ {vs : List Nat} {i : Nat} {w : Wv}, (wipeL l vs)[i]? = some (some w) → i ∉ vs ∧ l[i]? = some (some w)
  | [], i, w, h => ⟨by simp, h⟩
  | v :: vs, i, w, h => by
    rw [wipeL] at h
    by_cases hi : i = v
    · subst hi
      rcases set_at (wipeL l vs) i none with z | z
      · rw [z] at h; cases h
      · rw [z] at h; cases h
    · rw [List.getElem?_set_ne (Ne.symm hi)] at h
      obtain ⟨h1, h2⟩ := wipe_get h
      exact ⟨by simp [hi, h1], h2⟩
theorem wipeV_out {σ : L2.St} {i : Nat} : ∀ {vs : List Nat}, i ∉ vs → (wipe σ vs)[i]? = σ[i]?
  | [], _ => rfl
  | v :: vs, h => by
    simp only [List.mem_cons, not_or] at h
    show ((wipe σ vs).set v none)[i]? = _
    rw [List.getElem?_set_ne (Ne.symm h.1)]
    exact wipeV_out h.2
theorem wipeV_in {σ : L2.St} {i : Nat} : ∀ {vs : List Nat}, i ∈ vs → (wipe σ vs)[i]? = if i < σ.length then some none else none
  | v :: vs, h => by
    show ((wipe σ vs).set v none)[i]? = _
    by_cases hi : i = v
    · subst hi
      by_cases hl : i < σ.length
      · rw [if_pos hl, List.getElem?_set_self (by rw [wipe_length]; exact hl)]
      · rw [if_neg hl]; exact List.getElem?_eq_none (by rw [List.length_set, wipe_length]; omega)
    · rw [List.getElem?_set_ne (Ne.symm hi)]
      exact wipeV_in (by rcases List.mem_cons.mp h with z | z; exact absurd z hi; exact z)
theorem wipeV_congr {σ τ : L2.St} {vs : List Nat} (hl : σ.length = τ.length) (h : ∀ i, i ∉ vs → σ[i]? = τ[i]?) : wipe σ vs = wipe τ vs := by
  refine List.ext_getElem? fun i => ?_
  by_cases hi : i ∈ vs
  · rw [wipeV_in hi, wipeV_in hi, hl]
  · rw [wipeV_out hi, wipeV_out hi, h i hi]
theorem wipeV_idem (σ : L2.St) (vs : List Nat) : wipe (wipe σ vs) vs = wipe σ vs := wipeV_congr (wipe_length σ vs) fun i hi => wipeV_out hi
section
variable {g : Gd} {F H F1 H1 : Hp} {O O1 : Own} {σ : L2.St} {δ δ1 δ2 : DS}
theorem R.wipe (r : R g F H O σ δ) (vs : List Nat) : R g F H O (L2.wipe σ vs) (δ.wipe vs) := by
  refine ⟨r.sub, fun i w h => ?_, r.an, r.inh, r.ntb, r.tab, by simp [DS.wipe, wipe_len, wipe_length, r.len]⟩
  obtain ⟨h1, h2⟩ := wipe_get (show (wipeL δ.sl vs)[i]? = some (some w) from h)
  obtain ⟨v, e1, e2⟩ := r.sl i w h2
  exact ⟨v, by rw [wipeV_out h1]; exact e1, e2⟩
theorem rest_get {l l1 : List (Option Wv)} : ∀ {vs : List Nat} {i : Nat} {w : Wv}, (restL l l1 vs)[i]? = some (some w) → (i ∉ vs ∧ l[i]? = some (some w)) ∨ ∃ d, w = .pu d ∧ l1[i]? = some (some (.pu d))
  | [], i, w, h => .inl ⟨by simp, h⟩
  | v :: vs, i, w, h => by
    rw [restL] at h
    by_cases hi : i = v
    · subst hi
      rcases set_at (restL l l1 vs) i (match l1[i]? with
        | some (some (.pu d)) => some (.pu d)
        | _ => none) with z | z
      · rw [z] at h
        have h := Option.some.inj h
        cases e : l1[i]? with
        | none => simp only [e] at h; cases h
        | some o =>
          cases o with
          | none => simp only [e] at h; cases h
          | some w' =>
            cases w' with
            | pu d => simp only [e] at h; cases h; exact .inr ⟨d, rfl, rfl⟩
            | _ => simp only [e] at h; cases h
      · rw [z] at h; cases h
    · rw [List.getElem?_set_ne (Ne.symm hi)] at h
      rcases rest_get h with ⟨h1, h2⟩ | h
      · exact .inl ⟨by simp [hi, h1], h2⟩
      · exact .inr h
theorem R.rest {vs : List Nat} (r1 : R g F1 H1 O1 σ δ1) (r : R g F H O (L2.wipe σ vs) δ) (s : Step F1 H1 O1 F H O) : R g F H O σ (δ.rest δ1 vs) := by
  refine ⟨r.sub, fun i w h => ?_, r.an, r.inh, r.ntb, r.tab, ?_⟩
  · rcases rest_get (show (restL δ.sl δ1.sl vs)[i]? = some (some w) from h) with ⟨h1, h2⟩ | ⟨d, rfl, h1⟩
    · obtain ⟨v, e1, e2⟩ := r.sl i w h2
      exact ⟨v, by rw [← e1, wipeV_out h1], e2⟩
    · obtain ⟨v, e1, e2⟩ := r1.sl i _ h1
      exact ⟨v, e1, Rep.sub s.ff e2⟩
  · have := r.len
    rw [wipe_length] at this
    show σ.length = (restL δ.sl δ1.sl vs).length
    rw [rest_len]
    exact this
/-- an untouched list of ours changes -/
theorem R.poke (r : R g F H O σ δ) {p : Addr} {xs : List V} {o : HO} (h : H p = some (.lst xs)) (hF : F p = none) (hO : O p = none) : R g F (upd H p o) O σ δ := by
  have k : ∀ a, a ≠ p → upd H p o a = H a := fun a n => upd_ne n
  have hl : ∀ {q : Owner} {v : V} {m : M}, Hold g.K F H O q v m → Hold g.K F (upd H p o) O q v m := fun {q v m} ⟨a, e, h, x⟩ => ⟨a, e, h, x.sub (Sub.refl _) fun o' h' _ => by
    rw [k a fun z => by rw [z, hO] at h; cases h]; exact h'⟩
  refine ⟨fun a u e => ?_, fun i w h => ?_, fun i w h => ?_, fun a n => ?_, r.ntb, fun q hq => ?_, r.len⟩
  · rw [k a fun z => by rw [z, hF] at e; cases e]; exact r.sub _ _ e
  · obtain ⟨v, h1, h2⟩ := r.sl i w h
    refine ⟨v, h1, ?_⟩
    cases w with
    | ow m => exact hl h2
    | _ => exact h2
  · obtain ⟨v, h1, h2⟩ := r.an i w h
    refine ⟨v, h1, ?_⟩
    cases w with
    | ow m => exact hl h2
    | _ => exact h2
  · obtain ⟨⟨u, e, t⟩, f⟩ := r.inh a n
    exact ⟨⟨u, by rw [k a fun z => n (by rw [z]; exact hO)]; exact e, t⟩, f⟩
  · obtain ⟨ps, e1, e2, e3⟩ := r.tab q hq
    refine ⟨ps, ?_, e2, fun pos cv hc => ?_⟩
    · rw [k _ fun z => by rw [z, h] at e1; cases e1]; exact e1
    · obtain ⟨c, ec, hc2⟩ := e3 pos cv hc
      exact ⟨c, ec, by rw [k _ fun z => by rw [z, h] at hc2; cases hc2]; exact hc2⟩
theorem Step.poke (s : Step F H O F1 H1 O1) {p : Addr} {o : HO} (n : H p = none) (nt : ∀ ps, o ≠ .tbl ps := by intro _ z; cases z) : Step F H O F1 (upd H1 p o) O1 :=
  ⟨s.ff, fun a u h no t => by rw [upd_ne fun z => by rw [z, n] at h; cases h]; exact s.fr a u h no t, fun a h => (s.th a h).upd nt, s.nf, s.no⟩
/-- the list that a comprehension fills -/
structure AtD (K : PySem.W.Frag) (F H : Hp) (O : Own) (p : Addr) (acc : List D) : Prop where
  at_ : ∃ vs, H p = some (.lst vs) ∧ Reps K F vs acc
  nF : F p = none
  nO : O p = none
theorem AtD.step {K : PySem.W.Frag} {p : Addr} {acc : List D} (x : AtD K F H O p acc) (s : Step F H O F1 H1 O1) : AtD K F1 H1 O1 p acc := by
  obtain ⟨⟨vs, h, r⟩, nF, nO⟩ := x
  have nn : ¬ New H O p := fun z => by
    rcases z with z | z
    · exact z nO
    · exact z ⟨_, h, fun ps q => by cases q⟩
  exact ⟨⟨vs, s.fr _ _ h nO (fun ps z => by cases z), r.sub s.ff⟩, Classical.byContradiction fun z => by
    rcases s.nf p z with q | q
    · exact q nF
    · exact nn q, Classical.byContradiction fun z => nn (s.no p z)⟩
end
def dComp (gt : DTG) (tt : DTT) (te : DTE) (vs : List Nat) : List D → List D → DS → (List D → DS → Prop) → Prop
  | [], acc, δ, Q => Q acc δ
  | d :: ds, acc, δ, Q => gt d δ fun δ1 => tt δ1 (fun b δ2 => if b = true then te δ2 (fun w δ3 => ∃ y, w = .pu y ∧ acc.length < sizeLine ∧ dComp gt tt te vs ds (acc ++ [y]) (δ3.wipe vs) Q) (fun _ _ => False)
      else dComp gt tt te vs ds acc (δ2.wipe vs) Q) fun _ _ => False
theorem dComp_mono {gt : DTG} {tt : DTT} {te : DTE} {vs : List Nat} (hg : ∀ d δ Q Q', (∀ δ', Q δ' → Q' δ') → gt d δ Q → gt d δ Q') (ht : MonoT tt) (he : MonoE te) {Q Q' : List D → DS → Prop} (hQ : ∀ a δ, Q a δ → Q' a δ) : ∀ ds acc δ, dComp gt tt te vs ds acc δ Q → dComp gt tt te vs ds acc δ Q'
  | [], acc, δ, h => hQ _ _ h
  | d :: ds, acc, δ, h => hg _ _ _ _ (fun δ1 h => ht _ _ _ _ _ (fun b δ2 h => by
    cases b with
    | true => exact he _ _ _ _ _ (fun w δ3 ⟨y, e, z, h⟩ => ⟨y, e, z, dComp_mono hg ht he hQ ds _ _ h⟩) (fun _ _ z => z) h
    | false => exact dComp_mono hg ht he hQ ds _ _ h) (fun _ _ z => z) h) h
/-- no exception leaves a comprehension's block -/
abbrev WxF : WX := fun _ _ _ _ => False
theorem compLoop {g : Gd} {gt : DTG} {is : List Nat} {tt : DTT} {te : DTE} {vs : List Nat} {J : It} {p : Addr} {σ : L2.St} {NxO : Hp → Prop} {Qd : List D → DS → Prop} {F0 H0 : Hp} {O0 : Own}
    (hg : ∀ d δ Q Q', (∀ δ', Q δ' → Q' δ') → gt d δ Q → gt d δ Q') (ht : MonoT tt) (he : MonoE te) (hi : ∀ i ∈ is, i ∈ vs) {F1 H1 : Hp} {O1 : Own} {δ1 : DS} {ds acc0 : List D} (n0 : H0 p = none) (s1 : Step F0 H0 O0 F1 H1 O1) (r1 : R g F1 H1 O1 (wipe σ vs) δ1) (a1 : AtD g.K F1 H1 O1 p acc0)
    (y1 : Yields g J ds F1) (q1 : dComp gt tt te vs ds acc0 δ1 Qd)
    (fin : ∀ F' H' O' δ' acc', Step F0 H0 O0 F' H' O' → R g F' H' O' (wipe σ vs) δ' → AtD g.K F' H' O' p acc' → Qd acc' δ' → NxO H') :
    ∃ W : Nat → Nat → Hp → Prop, (∃ m, W 0 m H1) ∧ ∀ i m H, W i m H → (J.stop i H ∧ NxO H) ∨ (J.go i H ∧ ∃ Nx : Hp → Prop, (∀ H', Nx H' → ∃ m', m' < m ∧ W (i + 1) m' H') ∧
      ∀ x H', J.yld i H x H' → canG g gt is x (wipe σ vs) H' fun σ2 H2 => wipe σ2 vs = wipe σ vs ∧ canT g WxF tt σ2 H2 fun b H3 =>
        if b = true then canE g WxF te σ2 H3 fun y H4 => ∃ acc, H4 p = some (.lst acc) ∧ acc.length < sizeLine ∧ Nx (upd H4 p (.lst (acc ++ [y]))) else Nx H3) := by
  refine ⟨fun i m H' => m = ds.length - i ∧ i ≤ ds.length ∧ ∃ F' O' δ' acc, Step F0 H0 O0 F' H' O' ∧ Sub F1 F' ∧ R g F' H' O' (wipe σ vs) δ' ∧ AtD g.K F' H' O' p acc ∧ dComp gt tt te vs (ds.drop i) acc δ' Qd, ⟨_, rfl, Nat.zero_le _, F1, O1, δ1, acc0, s1, Sub.refl _, r1, a1, q1⟩, ?_⟩
  rintro i m H' ⟨rfl, hi', F', O', δ', acc, s', k', r', a', q'⟩
  obtain ⟨y2, y3, y4⟩ := y1 F' H' k' r'.sub i
  by_cases hlt : i < ds.length
  · refine .inr ⟨y2 hlt, fun H'' => i + 1 ≤ ds.length ∧ ∃ F' O' δ' acc, Step F0 H0 O0 F' H'' O' ∧ Sub F1 F' ∧ R g F' H'' O' (wipe σ vs) δ' ∧ AtD g.K F' H'' O' p acc ∧ dComp gt tt te vs (ds.drop (i + 1)) acc δ' Qd, fun H'' ⟨h1, h2⟩ => ⟨ds.length - (i + 1), by omega, rfl, h1, h2⟩, fun x H2 hy => ?_⟩
    rw [List.drop_eq_getElem_cons hlt] at q'
    obtain ⟨F2, s2, r2, rp⟩ := y4 x H2 ds[i] O' _ δ' (by simp [hlt]) hy r'
    refine ⟨F2, O', δ', ds[i], r2, rp, hg _ _ _ _ (fun δ3 q3 F3 H3 O3 σ3 s3 r3 l3 k3 => ?_) q'⟩
    have ew : wipe σ3 vs = wipe σ vs := by
      rw [← wipeV_idem σ vs]
      exact wipeV_congr l3 fun j hj => k3 j fun z => hj (hi j z)
    refine ⟨ew, F3, O3, δ3, r3, ht _ _ _ _ _ (fun b δ4 q4 F4 H4 O4 s4 r4 => ?_) (fun _ _ z => z.elim) q3⟩
    have s5 := s2.trans (s3.trans s4)
    cases b with
    | false =>
      simp only [Bool.false_eq_true, if_false] at q4 ⊢
      exact ⟨hlt, F4, O4, _, acc, s'.trans s5, k'.trans s5.ff, by rw [← ew]; exact r4.wipe vs, a'.step s5, q4⟩
    | true =>
      simp only [if_true] at q4 ⊢
      refine ⟨F4, O4, δ4, r4, he _ _ _ _ _ (fun w δ5 q5 v F5 H5 O5 s6 r5 x5 => ?_) (fun _ _ z => z.elim) q4⟩
      obtain ⟨y, rfl, hz, q5⟩ := q5
      have s7 := s5.trans s6
      obtain ⟨⟨vacc, hD, rD⟩, nF, nO⟩ := a'.step s7
      refine ⟨vacc, hD, by rw [rD.length]; exact hz, hlt, F5, O5, _, acc ++ [y], (s'.trans s7).poke n0, k'.trans s7.ff, by rw [← ew]; exact (r5.wipe vs).poke hD nF nO, ⟨⟨_, upd_same, rD.append (.one x5)⟩, nF, nO⟩, q5⟩
  · have ei : i = ds.length := by omega
    subst ei
    rw [List.drop_length] at q'
    exact .inl ⟨y3 rfl, fin F' H' O' δ' acc s' r' a' q'⟩
def dLc (ti : DTI) (gt : DTG) (tt : DTT) (te : DTE) (vs : List Nat) : DTE := fun δ Q Y => ti δ (fun ds δ1 => dComp gt tt te vs ds [] (δ1.wipe vs) fun acc δ2 => Q (.ow (.lst acc)) (δ2.rest δ1 vs)) Y
def dYes : DTT := fun δ Q _ => Q true δ
structure DTs (X : Cx) (g : Gd) (Wx : WX) (ifs : List Expr) (t : DTT) : Prop where
  mono : MonoT t
  pts : PTs X ifs (canT g Wx t)
theorem ptsMono {X : Cx} {ifs : List Expr} {t t' : TT} (h : PTs X ifs t) (i : ∀ σ H Q, t' σ H Q → t σ H Q) : PTs X ifs t' := ⟨fun pins s σ H Q I q => h.run pins s σ H Q I (i σ H Q q)⟩
section
variable {X : Cx} {g : Gd} {Wx : WX} {e a b c tg iter elt tg1 iter1 : Expr} {es rest ifs ifs1 : List Expr} {ta tb tc te : DTE} {tA : DTA} {t u tt tt1 : DTT} {ti ti1 : DTI} {gt gt1 : DTG} {is is1 : List Nat} {pos : Pos} {st : Stmt} {sts : List Stmt} {ts us : DTS} {scope : Scope} {own : List (Str × Nat)}
theorem dts_nil : DTs X g Wx [] dYes := ⟨fun δ Q Q' Y Y' hQ hY h => hQ _ _ h, ptsMono pts_nil fun σ H Q ⟨F, O, δ, r, q⟩ => q F H O (Step.refl _ _ _) r⟩
theorem dts_one (h : DT X g Wx c t) : DTs X g Wx [c] t := ⟨h.mono, pts_one h.pt⟩
theorem lcCan (mi : MonoI ti) (mg : ∀ d δ Q Q', (∀ δ', Q δ' → Q' δ') → gt d δ Q → gt d δ Q') (mt : MonoT tt) (me : MonoE te) {vs : List Nat} (hv : ∀ i ∈ is, i ∈ vs) (σ : L2.St) (H : Hp) (Q : VK) :
    canE g Wx (dLc ti gt tt te vs) σ H Q → tLc (canI g Wx ti) (canG g gt is) (canT g WxF tt) (canE g WxF te) vs σ H Q := by
  rintro ⟨F, O, δ, r, q⟩
  refine ⟨F, O, δ, r, mi _ _ _ _ _ (fun ds δ1 q J F1 H1 O1 s1 r1 y1 p n1 => ?_) (fun _ _ z => z) q⟩
  obtain ⟨r2, s2⟩ := r1.laid (o := .lst []) n1
  obtain ⟨nF, nO⟩ := r1.free n1
  refine compLoop mg mt me hv n1 s2 (r2.wipe vs) ⟨⟨[], upd_same, .nil⟩, nF, nO⟩ y1 q fun F' H' O' δ' acc s' r' a' q' => ?_
  obtain ⟨at_, nF', nO'⟩ := a'
  exact q' (.ref p) F' H' O' (s1.trans s') (r1.rest r' s') ⟨p, rfl, nF', nO', s1.new (.inr (Live.not n1)), at_⟩
theorem dLc_mono (mi : MonoI ti) (mg : ∀ d δ Q Q', (∀ δ', Q δ' → Q' δ') → gt d δ Q → gt d δ Q') (mt : MonoT tt) (me : MonoE te) {vs : List Nat} : MonoE (dLc ti gt tt te vs) := fun δ Q Q' Y Y' hQ hY h =>
  mi _ _ _ _ _ (fun ds δ1 h => dComp_mono mg mt me (fun a δ' h => hQ _ _ h) _ _ _ h) hY h
theorem de_lc (hc : X.calm = true) (hN : X.N.Nodup) (hi : DI X g Wx tg iter ti) (ok : BlkOk X.N X.env.scope scope own) (hv : ∀ i ∈ is, i ∈ own.map (·.2))
    (hg : ∀ (s : Shared) (H : Hp) (C : Addr) (cl : List (Str × Addr)) (fp : List Addr), DG (X.blk s H scope (compEnvC scope cl C X.env) fp) g tg gt is) (ht : ∀ (s : Shared) (H : Hp) (C : Addr) (cl : List (Str × Addr)) (fp : List Addr), DTs (X.blk s H scope (compEnvC scope cl C X.env) fp) g WxF ifs tt)
    (he : ∀ (s : Shared) (H : Hp) (C : Addr) (cl : List (Str × Addr)) (fp : List Addr), DE (X.blk s H scope (compEnvC scope cl C X.env) fp) g WxF elt te) (mg : ∀ d δ Q Q', (∀ δ', Q δ' → Q' δ') → gt d δ Q → gt d δ Q') (mt : MonoT tt) (me : MonoE te)
    (hs : ∀ x, foldedSetIterable iter X.env x = pure x := by intro _; rfl) : DE X g Wx (.ListComp elt [⟨tg, iter, ifs, 0⟩] scope pos) (dLc ti gt tt te (own.map (·.2))) :=
  ⟨dLc_mono hi.mono mg mt me, peMono (pe_lc hc hN hi.pi ok (fun s H C cl fp => (hg s H C cl fp).pg) (fun s H C cl fp => (ht s H C cl fp).pts) (fun s H C cl fp => (he s H C cl fp).pe) hs) (lcCan hi.mono mg mt me hv)⟩
theorem ds_setLc {i : Nat} {y : Str} {py spos : Pos} (hc : X.calm = true) (hN : X.N.Nodup) (hy : X.N[i]? = some y) (hyl : X.env.scope.names.lookup y = some .local)
    (hsw : swapsWith (.ListComp elt [⟨tg, iter, ifs, 0⟩] scope pos) (some (.Name y py)) spos.line X.env = pure true) (hi : DI X g Wx tg iter ti) (ok : BlkOk X.N X.env.scope scope own) (hv : ∀ i ∈ is, i ∈ own.map (·.2))
    (hg : ∀ (s : Shared) (H : Hp) (C : Addr) (cl : List (Str × Addr)) (fp : List Addr), DG (X.blk s H scope (compEnvC scope cl C X.env) fp) g tg gt is) (ht : ∀ (s : Shared) (H : Hp) (C : Addr) (cl : List (Str × Addr)) (fp : List Addr), DTs (X.blk s H scope (compEnvC scope cl C X.env) fp) g WxF ifs tt)
    (he : ∀ (s : Shared) (H : Hp) (C : Addr) (cl : List (Str × Addr)) (fp : List Addr), DE (X.blk s H scope (compEnvC scope cl C X.env) fp) g WxF elt te) (mg : ∀ d δ Q Q', (∀ δ', Q δ' → Q' δ') → gt d δ Q → gt d δ Q') (mt : MonoT tt) (me : MonoE te)
    (hs : ∀ x, foldedSetIterable iter X.env x = pure x := by intro _; rfl) : DSt X g Wx (.Assign [.Name y py] (.ListComp elt [⟨tg, iter, ifs, 0⟩] scope pos) spos) (dSet i (dLc ti gt tt te (own.map (·.2)))) := by
  have m := dLc_mono (vs := own.map (·.2)) hi.mono mg mt me
  refine ⟨dSet_mono m, psMono (ps_setLc (i := i) hc hN hy hyl hsw hi.pi ok (fun s H C cl fp => (hg s H C cl fp).pg) (fun s H C cl fp => (ht s H C cl fp).pts) (fun s H C cl fp => (he s H C cl fp).pe) hs) fun D σ H h => ?_⟩
  exact lcCan hi.mono mg mt me hv σ H _ (setCan m D σ H h)

/-! ### two clauses -/
def dComp2 (gt : DTG) (tt : DTT) (ti1 : DTI) (gt1 : DTG) (tt1 : DTT) (te : DTE) (vs vs1 : List Nat) : List DL.D → List DL.D → DS → (List DL.D → DS → Prop) → Prop
  | [], acc, δ, Q => Q acc δ
  | d :: ds, acc, δ, Q => gt d δ fun δ1 => tt δ1 (fun b δ2 => if b = true then ti1 δ2 (fun ds1 δ3 => dComp gt1 tt1 te vs1 ds1 acc (δ3.wipe vs1) fun acc' δ4 => dComp2 gt tt ti1 gt1 tt1 te vs vs1 ds acc' (δ4.wipe vs) Q) (fun _ _ => False)
      else dComp2 gt tt ti1 gt1 tt1 te vs vs1 ds acc (δ2.wipe vs) Q) fun _ _ => False
theorem dComp2_mono {vs vs1 : List Nat} (hg : ∀ d δ Q Q', (∀ δ', Q δ' → Q' δ') → gt d δ Q → gt d δ Q') (ht : MonoT tt) (hi : MonoI ti1) (hg1 : ∀ d δ Q Q', (∀ δ', Q δ' → Q' δ') → gt1 d δ Q → gt1 d δ Q') (ht1 : MonoT tt1) (he : MonoE te) {Q Q' : List DL.D → DS → Prop} (hQ : ∀ a δ, Q a δ → Q' a δ) :
    ∀ ds acc δ, dComp2 gt tt ti1 gt1 tt1 te vs vs1 ds acc δ Q → dComp2 gt tt ti1 gt1 tt1 te vs vs1 ds acc δ Q'
  | [], acc, δ, h => hQ _ _ h
  | d :: ds, acc, δ, h => hg _ _ _ _ (fun δ1 h => ht _ _ _ _ _ (fun b δ2 h => by
    cases b with
    | true => exact hi _ _ _ _ _ (fun ds1 δ3 h => dComp_mono hg1 ht1 he (fun a δ' h => dComp2_mono hg ht hi hg1 ht1 he hQ ds _ _ h) _ _ _ h) (fun _ _ z => z) h
    | false => exact dComp2_mono hg ht hi hg1 ht1 he hQ ds _ _ h) (fun _ _ z => z) h) h
def dLc2 (ti : DTI) (gt : DTG) (tt : DTT) (ti1 : DTI) (gt1 : DTG) (tt1 : DTT) (te : DTE) (vs vs1 : List Nat) : DTE := fun δ Q Y => ti δ (fun ds δ1 => dComp2 gt tt ti1 gt1 tt1 te vs vs1 ds [] (δ1.wipe vs) fun acc δ2 => Q (.ow (.lst acc)) (δ2.rest δ1 vs)) Y
theorem dLc2_mono {vs vs1 : List Nat} (mi : MonoI ti) (hg : ∀ d δ Q Q', (∀ δ', Q δ' → Q' δ') → gt d δ Q → gt d δ Q') (ht : MonoT tt) (hi : MonoI ti1) (hg1 : ∀ d δ Q Q', (∀ δ', Q δ' → Q' δ') → gt1 d δ Q → gt1 d δ Q') (ht1 : MonoT tt1) (he : MonoE te) :
    MonoE (dLc2 ti gt tt ti1 gt1 tt1 te vs vs1) := fun δ Q Q' Y Y' hQ hY h => mi _ _ _ _ _ (fun ds δ1 h => dComp2_mono hg ht hi hg1 ht1 he (fun a δ' h => hQ _ _ h) _ _ _ h) hY h
theorem lc2Can {vs vs1 : List Nat} (mi : MonoI ti) (hg : ∀ d δ Q Q', (∀ δ', Q δ' → Q' δ') → gt d δ Q → gt d δ Q') (ht : MonoT tt) (mi1 : MonoI ti1) (hg1 : ∀ d δ Q Q', (∀ δ', Q δ' → Q' δ') → gt1 d δ Q → gt1 d δ Q') (ht1 : MonoT tt1) (he : MonoE te)
    (hv : ∀ i ∈ is, i ∈ vs) (hv1 : ∀ i ∈ is1, i ∈ vs1) (hvv : ∀ i ∈ vs1, i ∈ vs) (σ : L2.St) (H : Hp) (Q : VK) :
    canE g Wx (dLc2 ti gt tt ti1 gt1 tt1 te vs vs1) σ H Q → tLc2 (canI g Wx ti) (canG g gt is) (canT g WxF tt) (canI g WxF ti1) (canG g gt1 is1) (canT g WxF tt1) (canE g WxF te) vs vs1 σ H Q := by
  rintro ⟨F, O, δ, r, q⟩
  refine ⟨F, O, δ, r, mi _ _ _ _ _ (fun ds δ1 q J F1 H1 O1 s1 r1 y1 p n1 => ?_) (fun _ _ z => z) q⟩
  obtain ⟨r2, s2⟩ := r1.laid (o := .lst []) n1
  obtain ⟨nF, nO⟩ := r1.free n1
  obtain ⟨Qd, hQd, q⟩ : ∃ Qd : List DL.D → DS → Prop, (∀ acc δ2, Qd acc δ2 → ∀ (v : V) (F' H' : Hp) (O' : Own), Step F H O F' H' O' → R g F' H' O' σ (δ2.rest δ1 vs) → VR g F' H' O' H O σ v (.ow (.lst acc)) → Q v H') ∧ dComp2 gt tt ti1 gt1 tt1 te vs vs1 ds [] (δ1.wipe vs) Qd := ⟨_, fun _ _ h => h, q⟩
  refine ⟨fun i m H' => m = ds.length - i ∧ i ≤ ds.length ∧ ∃ F' O' δ' acc, Step F1 H1 O1 F' H' O' ∧ R g F' H' O' (wipe σ vs) δ' ∧ AtD g.K F' H' O' p acc ∧ dComp2 gt tt ti1 gt1 tt1 te vs vs1 (ds.drop i) acc δ' Qd,
    ⟨_, rfl, Nat.zero_le _, F1, O1, _, [], s2, r2.wipe vs, ⟨⟨[], upd_same, .nil⟩, nF, nO⟩, q⟩, ?_⟩
  rintro i m H' ⟨rfl, hi', F', O', δ', acc, s', r', a', q'⟩
  obtain ⟨y2, y3, y4⟩ := y1 F' H' s'.ff r'.sub i
  by_cases hlt : i < ds.length
  · refine .inr ⟨y2 hlt, fun H'' => i + 1 ≤ ds.length ∧ ∃ F' O' δ' acc, Step F1 H1 O1 F' H'' O' ∧ R g F' H'' O' (wipe σ vs) δ' ∧ AtD g.K F' H'' O' p acc ∧ dComp2 gt tt ti1 gt1 tt1 te vs vs1 (ds.drop (i + 1)) acc δ' Qd, fun H'' ⟨h1, h2⟩ => ⟨ds.length - (i + 1), by omega, rfl, h1, h2⟩, fun x H2 hy => ?_⟩
    rw [List.drop_eq_getElem_cons hlt] at q'
    obtain ⟨F2, s2, r2, rp⟩ := y4 x H2 ds[i] O' _ δ' (by simp [hlt]) hy r'
    refine ⟨F2, O', δ', ds[i], r2, rp, hg _ _ _ _ (fun δ3 q3 F3 H3 O3 σ3 s3 r3 l3 k3 => ?_) q'⟩
    have ew : wipe σ3 vs = wipe σ vs := by
      rw [← wipeV_idem σ vs]
      exact wipeV_congr l3 fun j hj => k3 j fun z => hj (hv j z)
    refine ⟨ew, F3, O3, δ3, r3, ht _ _ _ _ _ (fun b δ4 q4 F4 H4 O4 s4 r4 => ?_) (fun _ _ z => z.elim) q3⟩
    have s5 := s2.trans (s3.trans s4)
    cases b with
    | false =>
      simp only [Bool.false_eq_true, if_false] at q4 ⊢
      exact ⟨hlt, F4, O4, _, acc, s'.trans s5, by rw [← ew]; exact r4.wipe vs, a'.step s5, q4⟩
    | true =>
      simp only [if_true] at q4 ⊢
      refine ⟨F4, O4, δ4, r4, mi1 _ _ _ _ _ (fun ds1 δ5 q5 J1 F5 H5 O5 s6 r5 y5 => ?_) (fun _ _ z => z.elim) q4⟩
      have s7 := s'.trans (s5.trans s6)
      refine compLoop hg1 ht1 he hv1 n1 s7 (r5.wipe vs1) (a'.step (s5.trans s6)) y5 q5 fun F6 H6 O6 δ6 acc6 s8 r6 a6 q6 => ?_
      refine ⟨hlt, F6, O6, _, acc6, s8, ?_, a6, q6⟩
      have ew2 : wipe (wipe σ3 vs1) vs = wipe σ vs := by
        rw [← ew]
        exact wipeV_congr (wipe_length _ _) fun j hj => wipeV_out fun z => hj (hvv j z)
      rw [← ew2]
      exact r6.wipe vs
  · have ei : i = ds.length := by omega
    subst ei
    rw [List.drop_length] at q'
    obtain ⟨at_, nF', nO'⟩ := a'
    exact .inl ⟨y3 rfl, hQd _ _ q' (.ref p) F' H' O' (s1.trans s') (r1.rest r' s') ⟨p, rfl, nF', nO', s1.new (.inr (Live.not n1)), at_⟩⟩
end
end DL

/-! text DLH -/
set_option Elab.async false
set_option linter.all false
set_option maxRecDepth 100000
namespace DL
open PySem PySem.Spec L2
abbrev MoG (gt : DTG) : Prop := ∀ d δ Q Q', (∀ δ', Q δ' → Q' δ') → gt d δ Q → gt d δ Q'
section
variable {X : Cx} {g : Gd} {Wx : WX} {e a b c tg iter elt tg1 iter1 : Expr} {es rest ifs ifs1 : List Expr} {ta tb tc te : DTE} {tA : DTA} {t u tt tt1 : DTT} {ti ti1 : DTI} {gt gt1 : DTG} {is is1 : List Nat} {pos : Pos} {st : Stmt} {sts : List Stmt} {ts us : DTS} {scope : Scope} {own : List (Str × Nat)}
theorem de_lc2 {vs1 : List Nat} (hc : X.calm = true) (hN : X.N.Nodup) (hi : DI X g Wx tg iter ti) (ok : BlkOk X.N X.env.scope scope own) (hv : ∀ i ∈ is, i ∈ own.map (·.2)) (hv1 : ∀ i ∈ is1, i ∈ vs1) (hvv : ∀ i ∈ vs1, i ∈ own.map (·.2))
    (hg : ∀ (s : Shared) (H : Hp) (C : Addr) (cl : List (Str × Addr)) (fp : List Addr), DG (X.blk s H scope (compEnvC scope cl C X.env) fp) g tg gt is) (ht : ∀ (s : Shared) (H : Hp) (C : Addr) (cl : List (Str × Addr)) (fp : List Addr), DTs (X.blk s H scope (compEnvC scope cl C X.env) fp) g WxF ifs tt)
    (hi1 : ∀ (s : Shared) (H : Hp) (C : Addr) (cl : List (Str × Addr)) (fp : List Addr), DI (X.blk s H scope (compEnvC scope cl C X.env) fp) g WxF tg1 iter1 ti1)
    (hg1 : ∀ (s : Shared) (H : Hp) (C : Addr) (cl : List (Str × Addr)) (fp : List Addr), DG (X.blk s H scope (compEnvC scope cl C X.env) fp) g tg1 gt1 is1) (ht1 : ∀ (s : Shared) (H : Hp) (C : Addr) (cl : List (Str × Addr)) (fp : List Addr), DTs (X.blk s H scope (compEnvC scope cl C X.env) fp) g WxF ifs1 tt1)
    (he : ∀ (s : Shared) (H : Hp) (C : Addr) (cl : List (Str × Addr)) (fp : List Addr), DE (X.blk s H scope (compEnvC scope cl C X.env) fp) g WxF elt te) (mg : MoG gt) (mt : MonoT tt) (mi1 : MonoI ti1) (mg1 : MoG gt1) (mt1 : MonoT tt1) (me : MonoE te)
    (hs : ∀ x, foldedSetIterable iter X.env x = pure x := by intro _; rfl) (hs1 : ∀ env x, foldedSetIterable iter1 env x = pure x := by intro _ _; rfl) : DE X g Wx (.ListComp elt [⟨tg, iter, ifs, 0⟩, ⟨tg1, iter1, ifs1, 0⟩] scope pos) (dLc2 ti gt tt ti1 gt1 tt1 te (own.map (·.2)) vs1) :=
  ⟨dLc2_mono hi.mono mg mt mi1 mg1 mt1 me, peMono (pe_lc2 hc hN hi.pi ok hvv (fun s H C cl fp => (hg s H C cl fp).pg) (fun s H C cl fp => (ht s H C cl fp).pts) (fun s H C cl fp => (hi1 s H C cl fp).pi) (fun s H C cl fp => (hg1 s H C cl fp).pg) (fun s H C cl fp => (ht1 s H C cl fp).pts) (fun s H C cl fp => (he s H C cl fp).pe) hs hs1)
    (lc2Can hi.mono mg mt mi1 mg1 mt1 me hv hv1 hvv)⟩
theorem ds_setLc2 {i : Nat} {y : Str} {py spos : Pos} {vs1 : List Nat} (hc : X.calm = true) (hN : X.N.Nodup) (hy : X.N[i]? = some y) (hyl : X.env.scope.names.lookup y = some .local)
    (hsw : swapsWith (.ListComp elt [⟨tg, iter, ifs, 0⟩, ⟨tg1, iter1, ifs1, 0⟩] scope pos) (some (.Name y py)) spos.line X.env = pure true)
    (hi : DI X g Wx tg iter ti) (ok : BlkOk X.N X.env.scope scope own) (hv : ∀ i ∈ is, i ∈ own.map (·.2)) (hv1 : ∀ i ∈ is1, i ∈ vs1) (hvv : ∀ i ∈ vs1, i ∈ own.map (·.2))
    (hg : ∀ (s : Shared) (H : Hp) (C : Addr) (cl : List (Str × Addr)) (fp : List Addr), DG (X.blk s H scope (compEnvC scope cl C X.env) fp) g tg gt is) (ht : ∀ (s : Shared) (H : Hp) (C : Addr) (cl : List (Str × Addr)) (fp : List Addr), DTs (X.blk s H scope (compEnvC scope cl C X.env) fp) g WxF ifs tt)
    (hi1 : ∀ (s : Shared) (H : Hp) (C : Addr) (cl : List (Str × Addr)) (fp : List Addr), DI (X.blk s H scope (compEnvC scope cl C X.env) fp) g WxF tg1 iter1 ti1)
    (hg1 : ∀ (s : Shared) (H : Hp) (C : Addr) (cl : List (Str × Addr)) (fp : List Addr), DG (X.blk s H scope (compEnvC scope cl C X.env) fp) g tg1 gt1 is1) (ht1 : ∀ (s : Shared) (H : Hp) (C : Addr) (cl : List (Str × Addr)) (fp : List Addr), DTs (X.blk s H scope (compEnvC scope cl C X.env) fp) g WxF ifs1 tt1)
    (he : ∀ (s : Shared) (H : Hp) (C : Addr) (cl : List (Str × Addr)) (fp : List Addr), DE (X.blk s H scope (compEnvC scope cl C X.env) fp) g WxF elt te) (mg : MoG gt) (mt : MonoT tt) (mi1 : MonoI ti1) (mg1 : MoG gt1) (mt1 : MonoT tt1) (me : MonoE te)
    (hs : ∀ x, foldedSetIterable iter X.env x = pure x := by intro _; rfl) (hs1 : ∀ env x, foldedSetIterable iter1 env x = pure x := by intro _ _; rfl) :
    DSt X g Wx (.Assign [.Name y py] (.ListComp elt [⟨tg, iter, ifs, 0⟩, ⟨tg1, iter1, ifs1, 0⟩] scope pos) spos) (dSet i (dLc2 ti gt tt ti1 gt1 tt1 te (own.map (·.2)) vs1)) := by
  have m := dLc2_mono (vs := own.map (·.2)) (vs1 := vs1) hi.mono mg mt mi1 mg1 mt1 me
  refine ⟨dSet_mono m, psMono (ps_setLc2 (i := i) hc hN hy hyl hsw hi.pi ok hvv (fun s H C cl fp => (hg s H C cl fp).pg) (fun s H C cl fp => (ht s H C cl fp).pts) (fun s H C cl fp => (hi1 s H C cl fp).pi) (fun s H C cl fp => (hg1 s H C cl fp).pg) (fun s H C cl fp => (ht1 s H C cl fp).pts) (fun s H C cl fp => (he s H C cl fp).pe) hs hs1) fun D σ H h => ?_⟩
  exact lc2Can hi.mono mg mt mi1 mg1 mt1 me hv hv1 hvv σ H _ (setCan m D σ H h)
end

/-! ### a def keeps its promise -/
def isRes : Wv → Prop
  | .pu _ => True
  | .ow _ => True
  | _ => False
def dEnds (Q : Wv → List Wv → Prop) (Y : Value → List Wv → Prop) : DEnds := { nx := fun δ => Q (.pu (.sc .non)) δ.an, rt := fun w δ => isRes w ∧ Q w δ.an, ex := fun c δ => Y c δ.an }
def par : Nat → List Wv → List (Option Wv)
  | _, [] => []
  | k, .ow _ :: ws => some (.io k) :: par (k + 1) ws
  | k, w :: ws => some w :: par (k + 1) ws
theorem par_len : ∀ k ws, (par k ws).length = ws.length
  | _, [] => rfl
  | k, w :: ws => by cases w <;> simp [par, par_len (k + 1) ws]
def start0 (N : List Str) (ws : List Wv) : DS := ⟨par 0 ws ++ List.replicate (N.length - ws.length) none, ws⟩
theorem par_get : ∀ {k : Nat} {ws : List Wv} {i : Nat} {w : Wv}, (par k ws)[i]? = some (some w) → ∃ w0, ws[i]? = some w0 ∧ ((∃ m, w0 = .ow m ∧ w = .io (k + i)) ∨ (w0 = w ∧ ∀ m, w ≠ .ow m))
  | _, [], _, _, h => by simp [par] at h
  | k, w0 :: ws, 0, w, h => by
    cases w0 with
    | ow m => simp [par] at h; exact ⟨_, rfl, .inl ⟨m, rfl, h.symm⟩⟩
    | pu d => simp [par] at h; exact ⟨_, rfl, .inr ⟨h, fun m z => by rw [← h] at z; cases z⟩⟩
    | pl j => simp [par] at h; exact ⟨_, rfl, .inr ⟨h, fun m z => by rw [← h] at z; cases z⟩⟩
    | io j => simp [par] at h; exact ⟨_, rfl, .inr ⟨h, fun m z => by rw [← h] at z; cases z⟩⟩
  | k, w0 :: ws, i + 1, w, h => by
    have h' : (par (k + 1) ws)[i]? = some (some w) := by
      cases w0 <;> simpa [par] using h
    obtain ⟨w1, h1, h2⟩ := par_get h'
    refine ⟨w1, by simpa using h1, ?_⟩
    rw [show k + (i + 1) = k + 1 + i by omega]
    exact h2
theorem R.start {K : PySem.W.Frag} {T : List (Addr × Str)} {vs : List V} {F H : Hp} {O : Own} {ws : List Wv} (r : R ⟨K, T, vs⟩ F H O [] ⟨[], ws⟩) (hl : ws.length = vs.length) {N : List Str} : R ⟨K, T, vs⟩ F H O (L2.start N vs) (start0 N ws) := by
  refine ⟨r.sub, fun i w h => ?_, r.an, r.inh, r.ntb, r.tab, by simp [L2.start, start0, par_len, hl]⟩
  have h : (par 0 ws ++ List.replicate (N.length - ws.length) none)[i]? = some (some w) := h
  by_cases hi : i < ws.length
  · rw [List.getElem?_append_left (by rw [par_len]; exact hi)] at h
    obtain ⟨w0, h1, h2⟩ := par_get h
    obtain ⟨v, e1, e2⟩ := r.an i w0 h1
    have e1 : vs[i]? = some v := e1
    refine ⟨v, ?_, ?_⟩
    · unfold L2.start
      rw [List.getElem?_append_left (by rw [List.length_map, ← hl]; exact hi), List.getElem?_map, e1]
      rfl
    · rcases h2 with ⟨m, rfl, rfl⟩ | ⟨rfl, hn⟩
      · show vs[0 + i]? = some v
        rw [Nat.zero_add]; exact e1
      · cases w0 with
        | pu d => exact e2
        | ow m => exact absurd rfl (hn m)
        | pl j => exact e2.elim
        | io j => exact e2.elim
  · rw [List.getElem?_append_right (by rw [par_len]; omega), List.getElem?_replicate] at h
    split at h <;> cases h
section
variable {P : Program} {w : World} {K : PySem.W.Frag} {mg : Str → Option Value} {base : Heap}
/-- THE RULE for a def -/
theorem dfn {x qual : Str} {st : Stmt} {f : Addr} {fd : FuncData} {N ps : List Str} {k : Nat} {T : List (Addr × Str)} {sp : DSp} (F : Fun K x qual st f fd) (S : FnScope N ps (defScope st)) (hlen : ∀ ws Q Y, sp ws Q Y → ws.length = ps.length)
    (body : ∀ (cdv : Value) (A : Around) (outer : List Env) (s : Shared) (H : Hp) (vs : List V) (E : XK), Room k (A.deeper (PyProof.Rows.envOfC qual (defScope st) s.heap.objs.size f cdv)) → vs.length = ps.length →
      ∃ t, DSs (cxOf (L2.CX P w) P w K mg base N qual (defScope st) f cdv A outer s H E) ⟨K, T, vs⟩ (fun c d _ H' => E c d H') (defBody st) t ∧ ∀ ws Q Y, sp ws Q Y → t (dEnds Q Y) (start0 N ws)) :
    FnOk P w K mg base (L2.CX P w) (k + 1) f fd ps (lift K T sp) := by
  refine F.okX S (fun vs H Q E h => ?_) (fun cdv A outer s H vs Q E hr h => ?_)
  · obtain ⟨F, O, ws, r, hl, h⟩ := h
    rw [← hl]; exact hlen _ _ _ h
  · obtain ⟨F, O, ws, r, hl, h⟩ := h
    obtain ⟨t, ht, hb⟩ := body cdv A outer s H vs E hr (by rw [← hl]; exact hlen _ _ _ h)
    refine ⟨_, ht.ps, F, O, start0 N ws, _, r.start hl, ?_, hb ws _ _ h⟩
    refine ⟨fun δ' F' H' O' σ' s' r' q => ?_, fun w δ' v F' H' O' σ' s' r' x q => ?_, fun δ' F' H' O' σ' s' r' q => q.elim, fun δ' F' H' O' σ' s' r' q => q.elim, fun c δ' F' H' O' σ' s' r' q => ?_⟩
    · exact q .non F' H' O' s' r'.bare (Rep.sc _)
    · obtain ⟨hr, q⟩ := q
      refine q v F' H' O' s' r'.bare ?_
      cases w with
      | pu d => exact x
      | ow m => exact x
      | _ => exact hr.elim
    · exact q F' H' O' s' r'.bare
theorem takesF {X : Cx} : Takes X WxF := L2.takes0
end
end DL

/-! text DLP -/
set_option Elab.async false
set_option linter.all false
set_option maxRecDepth 100000
namespace DL
open PySem PySem.Spec L2

/-! ### primitives: what the operators do, over data -/
section
variable {g : Gd}
theorem VR.rep {F H H0 : Hp} {O O0 : Own} {σ : L2.St} {v : V} {d : D} (h : Rep g.K F v d) : VR g F H O H0 O0 σ v (.pu d) := h
theorem VR.sc {F H H0 : Hp} {O O0 : Own} {σ : L2.St} (v : V) : VR g F H O H0 O0 σ v (.pu (.sc v)) := Rep.sc v
/-- a scalar comes out -/
theorem Pr2.sc {r : R2} {p : P2} (m : Mo2 p) (h : ∀ {F H x y dx dy} {Q : VK} {Qd : Wv → Prop}, Sub F H → Cont g.K F H x dx → Cont g.K F H y dy → p dx dy Qd → (∀ v, Qd (.pu (.sc v)) → Q v H) → r x y H Q) : Pr2 g r p :=
  ⟨m, fun {F H O σ δ x y dx dy Q Qd} r0 hx hy hp k => h r0.sub hx hy hp fun v q => k v H F _ (Step.refl _ _ _) r0 (VR.sc v) q⟩
theorem PrN.sc {r : List V → Hp → VK → Prop} {p : PN} (m : MoN p) (h : ∀ {F H xs ds} {Q : VK} {Qd : Wv → Prop}, Sub F H → Paired (Cont g.K F H) xs ds → p ds Qd → (∀ v, Qd (.pu (.sc v)) → Q v H) → r xs H Q) : PrN g r p :=
  ⟨m, fun {F H O σ δ xs ds Q Qd} r0 hx hp k => h r0.sub hx hp fun v q => k v H F _ (Step.refl _ _ _) r0 (VR.sc v) q⟩
theorem Pr1.sc {r : V → Hp → VK → Prop} {p : P1} (m : Mo1 p) (h : ∀ {F H x dx} {Q : VK} {Qd : Wv → Prop}, Sub F H → Cont g.K F H x dx → p dx Qd → (∀ v, Qd (.pu (.sc v)) → Q v H) → r x H Q) : Pr1 g r p :=
  ⟨m, fun {F H O σ δ x dx Q Qd} r0 hx hp k => h r0.sub hx hp fun v q => k v H F _ (Step.refl _ _ _) r0 (VR.sc v) q⟩
theorem Reps.scI {K : PySem.W.Frag} {F : Hp} {α : Type} {f : α → V} : ∀ {vs : List V} {us : List α}, Reps K F vs (us.map fun u => .sc (f u)) → vs = us.map f
  | [], [], _ => rfl
  | v :: vs, u :: us, .cons h r => by
    cases h
    rw [Reps.scI r]
    rfl

/-! ints -/
def p2i (f : Int → Int → (V → Prop) → Prop) : P2 := fun dx dy Q => match dx, dy with
  | .sc (.int i), .sc (.int j) => f i j fun v => Q (.pu (.sc v))
  | _, _ => False
theorem p2i_inv {f : Int → Int → (V → Prop) → Prop} {dx dy : D} {Q : Wv → Prop} (h : p2i f dx dy Q) : ∃ i j, dx = .sc (.int i) ∧ dy = .sc (.int j) ∧ f i j fun v => Q (.pu (.sc v)) := by
  unfold p2i at h
  split at h
  · exact ⟨_, _, rfl, rfl, h⟩
  · exact h.elim
theorem p2i_mono {f : Int → Int → (V → Prop) → Prop} (hf : ∀ i j Q Q', (∀ v, Q v → Q' v) → f i j Q → f i j Q') : Mo2 (p2i f) := fun dx dy Q Q' h q => by
  obtain ⟨i, j, rfl, rfl, q⟩ := p2i_inv q
  exact hf _ _ _ _ (fun v => h _) q
theorem pr_i {f : Int → Int → (V → Prop) → Prop} {r : R2} (hf : ∀ i j Q Q', (∀ v, Q v → Q' v) → f i j Q → f i j Q') (h : ∀ i j H Q, f i j (fun v => Q v H) → r (.int i) (.int j) H Q) : Pr2 g r (p2i f) := by
  refine Pr2.sc (p2i_mono hf) fun {F H x y dx dy Q Qd} sb hx hy hp k => ?_
  obtain ⟨i, j, rfl, rfl, q⟩ := p2i_inv hp
  have hx : x = .int i := hx
  have hy : y = .int j := hy
  rw [hx, hy]
  exact h i j H Q (hf _ _ _ _ (fun v => k v) q)
def subP : P2 := p2i fun i j Q => Q (.int (i - j))
theorem pr_sub : Pr2 g (rI0 fun i j => .int (i - j)) subP := pr_i (fun _ _ _ _ h => h _) fun i j H Q q => ⟨i, j, rfl, rfl, q⟩
def divP : P2 := p2i fun i j Q => (0 < j ∧ j.natAbs.log2 < 9000) ∧ Q (.int (i / j))
theorem pr_div : Pr2 g (rI CDivW fun i j => .int (i / j)) divP := pr_i (fun _ _ _ _ h ⟨a, c⟩ => ⟨a, h _ c⟩) fun i j H Q ⟨a, q⟩ => ⟨i, j, rfl, rfl, a, q⟩
def modP : P2 := p2i fun i j Q => 0 < j ∧ Q (.int (i % j))
theorem pr_mod : Pr2 g (rI (fun _ j => 0 < j) fun i j => .int (i % j)) modP := pr_i (fun _ _ _ _ h ⟨a, c⟩ => ⟨a, h _ c⟩) fun i j H Q ⟨a, q⟩ => ⟨i, j, rfl, rfl, a, q⟩
def powP : P2 := p2i fun i j Q => (0 ≤ j ∧ j ≤ 1000000 ∧ i.natAbs < 2 ^ 64) ∧ Q (.int (i ^ j.toNat))
theorem pr_pow : Pr2 g (rI CPow fun i j => .int (i ^ j.toNat)) powP := pr_i (fun _ _ _ _ h ⟨a, c⟩ => ⟨a, h _ c⟩) fun i j H Q ⟨a, q⟩ => ⟨i, j, rfl, rfl, a, q⟩
def ltP : P2 := p2i fun i j Q => Q (.bl (decide (i < j)))
def leP : P2 := p2i fun i j Q => Q (.bl (decide (i ≤ j)))
def gtP : P2 := p2i fun i j Q => Q (.bl (decide (j < i)))
def geP : P2 := p2i fun i j Q => Q (.bl (decide (j ≤ i)))
theorem pr_lt : Pr2 g (rI0 fun i j => .bl (decide (i < j))) ltP := pr_i (fun _ _ _ _ h => h _) fun i j H Q q => ⟨i, j, rfl, rfl, q⟩
theorem pr_le : Pr2 g (rI0 fun i j => .bl (decide (i ≤ j))) leP := pr_i (fun _ _ _ _ h => h _) fun i j H Q q => ⟨i, j, rfl, rfl, q⟩
theorem pr_gt : Pr2 g (rI0 fun i j => .bl (decide (j < i))) gtP := pr_i (fun _ _ _ _ h => h _) fun i j H Q q => ⟨i, j, rfl, rfl, q⟩
theorem pr_ge : Pr2 g (rI0 fun i j => .bl (decide (j ≤ i))) geP := pr_i (fun _ _ _ _ h => h _) fun i j H Q q => ⟨i, j, rfl, rfl, q⟩

/-! + -/
def addP : P2 := fun dx dy Q => match dx, dy with
  | .sc (.int i), .sc (.int j) => Q (.pu (.sc (.int (i + j))))
  | .sc (.str a), .sc (.str b) => a.length + b.length ≤ sizeLine ∧ Q (.pu (.sc (.str (a ++ b))))
  | .lst xs, .lst ys => xs.length + ys.length ≤ sizeLine ∧ Q (.ow (.lst (xs ++ ys)))
  | .tup xs, .tup ys => xs.length + ys.length ≤ sizeLine ∧ Q (.pu (.tup (xs ++ ys)))
  | _, _ => False
theorem addP_inv {dx dy : D} {Q : Wv → Prop} (h : addP dx dy Q) : (∃ i j, dx = .sc (.int i) ∧ dy = .sc (.int j) ∧ Q (.pu (.sc (.int (i + j))))) ∨ (∃ a b, dx = .sc (.str a) ∧ dy = .sc (.str b) ∧ a.length + b.length ≤ sizeLine ∧ Q (.pu (.sc (.str (a ++ b))))) ∨
    (∃ xs ys, dx = .lst xs ∧ dy = .lst ys ∧ xs.length + ys.length ≤ sizeLine ∧ Q (.ow (.lst (xs ++ ys)))) ∨ ∃ xs ys, dx = .tup xs ∧ dy = .tup ys ∧ xs.length + ys.length ≤ sizeLine ∧ Q (.pu (.tup (xs ++ ys))) := by
  unfold addP at h
  split at h
  · exact .inl ⟨_, _, rfl, rfl, h⟩
  · exact .inr (.inl ⟨_, _, rfl, rfl, h⟩)
  · exact .inr (.inr (.inl ⟨_, _, rfl, rfl, h⟩))
  · exact .inr (.inr (.inr ⟨_, _, rfl, rfl, h⟩))
  · exact h.elim
end
def rAddD (K : PySem.W.Frag) : R2 := fun x y H Q => rI0 (fun i j => .int (i + j)) x y H Q ∨ (∃ i j, x = .str i ∧ y = .str j ∧ i.length + j.length ≤ sizeLine ∧ Q (.str (i ++ j)) H) ∨ rCat x y H Q ∨ rCatA K x y H Q
theorem op_addD {X : Cx} : OpR X (binaryOp .Add) (rAddD X.K) := op_add.or (op_add_str.or (op_cat.or op_catA))
theorem pr_add {g : Gd} : Pr2 g (rAddD g.K) addP := by
  refine ⟨fun dx dy Q Q' h q => ?_, fun {F H O σ δ x y dx dy Q Qd} r0 hx hy hp k => ?_⟩
  · rcases addP_inv q with ⟨i, j, rfl, rfl, q⟩ | ⟨a, b, rfl, rfl, z, q⟩ | ⟨a, b, rfl, rfl, z, q⟩ | ⟨a, b, rfl, rfl, z, q⟩
    · exact h _ q
    · exact ⟨z, h _ q⟩
    · exact ⟨z, h _ q⟩
    · exact ⟨z, h _ q⟩
  · rcases addP_inv hp with ⟨i, j, rfl, rfl, q⟩ | ⟨a, b, rfl, rfl, z, q⟩ | ⟨xs, ys, rfl, rfl, z, q⟩ | ⟨xs, ys, rfl, rfl, z, q⟩
    · exact .inl ⟨i, j, hx, hy, k _ H F _ (Step.refl _ _ _) r0 (VR.sc _) q⟩
    · exact .inr (.inl ⟨a, b, hx, hy, z, k _ H F _ (Step.refl _ _ _) r0 (VR.sc _) q⟩)
    · obtain ⟨a, vs, rfl, h1, h2⟩ := hx
      obtain ⟨b, ws, rfl, h3, h4⟩ := hy
      refine .inr (.inr (.inl ⟨a, b, vs, ws, rfl, rfl, h1, h3, by rw [h2.length, h4.length]; exact z, fun p n => ?_⟩))
      obtain ⟨s, r1, x1⟩ := r0.newL n (h2.append h4)
      exact k _ _ F _ s r1 x1 q
    · obtain ⟨a, vs, rfl, h1, h2⟩ := hx
      obtain ⟨b, ws, rfl, h3, h4⟩ := hy
      refine .inr (.inr (.inr ⟨a, b, vs, ws, rfl, rfl, r0.sub.sqT h1, r0.sub.sqT h3, by rw [h2.length, h4.length]; exact z, fun e => ?_, fun e0 e => ?_, fun e0 e p n => ?_⟩))
      · subst e
        cases h2
        exact k _ H F _ (Step.refl _ _ _) r0 (VR.rep (.tup h3 h4)) q
      · subst e
        cases h4
        rw [List.append_nil] at q
        exact k _ H F _ (Step.refl _ _ _) r0 (VR.rep (.tup h1 h2)) q
      · obtain ⟨F', s, r1, x1⟩ := r0.newT n (h2.append h4)
        exact k _ _ F' _ s r1 (VR.rep x1) q

/-! * -/
def repS (z : Str) (n : Int) : Str := ⟨(List.replicate n.toNat z.cps.toList).flatten.toArray⟩
theorem foldl_repS (a : Array Nat) : ∀ (n : Nat) (acc : Array Nat), (List.replicate n a).foldl (· ++ ·) acc = acc ++ (List.replicate n a.toList).flatten.toArray
  | 0, acc => by simp
  | n + 1, acc => by
    rw [List.replicate_succ, List.foldl_cons, foldl_repS a n, List.replicate_succ, List.flatten_cons]
    apply Array.ext'
    simp
def rRepS : R2 := fun x y H Q => ∃ z n, x = .str z ∧ y = .int n ∧ (-(2 ^ 63) ≤ n ∧ n < 2 ^ 63 ∧ z.length * n.toNat ≤ 16777216) ∧ Q (.str (repS z n)) H
theorem repS_len (z : Str) (n : Int) : (repS z n).length = z.length * n.toNat := by
  unfold repS Str.length
  simp [Nat.mul_comm]
theorem op_repS {X : Cx} : OpR X (binaryOp .Mult) rRepS := by
  intro pins s σ H x y v u Q I rx ry h
  obtain ⟨z, n, rfl, rfl, ⟨h1, h2, h3⟩, q⟩ := h
  obtain ⟨t, rfl⟩ := rx
  obtain ⟨t', rfl⟩ := ry
  have fin : ∀ (w : Str) (k : Tok) (s' : Shared), w = repS z n → Inv X pins σ H s' → EP X pins σ Q (.str w k) s' := fun w k s' e I' => by
    subst e
    exact ⟨.str _, H, I', ⟨_, rfl⟩, q⟩
  have hz : ((z.length * n.toNat : Nat) : Int) ≤ 16777216 := by
    generalize z.length * n.toNat = m at h3 ⊢
    omega
  refine PySem.P.mul_str (by rw [decide_eq_false (show ¬ n < -(2 ^ 63 : Int) from Int.not_lt.mpr h1), decide_eq_false (show ¬ n ≥ (2 ^ 63 : Int) from Int.not_le.mpr h2)]; rfl) (fun a b => ?_) (fun a b => ?_) ?_
  · have e : (n.toNat : Int) = n := by omega
    rw [Int.natCast_mul, e] at hz
    have : (z.length : Int) ≤ (2 ^ 63 - 1) / n := Int.le_ediv_of_mul_le (by omega) (by omega)
    omega
  · unfold Builtin.Str.tooLong
    exact decide_eq_false (by rw [sizeLine_eq]; omega)
  · have he : (repS z n).length ≤ sizeLine := by rw [repS_len, sizeLine_eq]; exact h3
    split
    · rename_i hn
      have e : n.toNat = 0 := by omega
      exact ⟨by decide, fin _ _ _ (by unfold repS; rw [e]; rfl) (I.tok _)⟩
    · rename_i hn
      split
      · rename_i hb
        refine fin _ _ _ ?_ I
        rcases Bool.or_eq_true _ _ ▸ hb with hb | hb
        · have : n = 1 := by simpa using hb
          subst this
          unfold repS
          simp
        · have : z.cps.size = 0 := by simpa [Str.length] using hb
          have e0 : z.cps = #[] := Array.eq_empty_of_size_eq_zero this
          unfold repS
          cases z
          simp only at e0
          subst e0
          simp
      · have e : (⟨(List.replicate n.toNat z.cps).foldl (· ++ ·) #[]⟩ : Str) = repS z n := by
          unfold repS
          rw [foldl_repS]
          simp
        rw [e]
        exact ⟨he, fin _ _ _ rfl (I.tok _)⟩
end DL

/-! text DLQ -/
set_option Elab.async false
set_option linter.all false
set_option maxRecDepth 100000
namespace DL
open PySem PySem.Spec L2

theorem Reps.rep {K : PySem.W.Frag} {F : Hp} {vs : List V} {ds : List D} (r : Reps K F vs ds) : ∀ n, Reps K F (List.replicate n vs).flatten (List.replicate n ds).flatten
  | 0 => .nil
  | n + 1 => by
    rw [List.replicate_succ, List.replicate_succ, List.flatten_cons, List.flatten_cons]
    exact r.append (Reps.rep r n)
def mulP : P2 := fun dx dy Q => match dx, dy with
  | .sc (.int i), .sc (.int j) => i.natAbs.log2 + j.natAbs.log2 < 1000000 ∧ Q (.pu (.sc (.int (i * j))))
  | .sc (.str z), .sc (.int n) => (-(2 ^ 63) ≤ n ∧ n < 2 ^ 63 ∧ z.length * n.toNat ≤ 16777216) ∧ Q (.pu (.sc (.str (repS z n))))
  | .lst xs, .sc (.int n) => (-(2 ^ 63) ≤ n ∧ n < 2 ^ 63 ∧ xs.length * n.toNat ≤ sizeLine) ∧ Q (.ow (.lst (List.replicate n.toNat xs).flatten))
  | .tup xs, .sc (.int n) => (xs ≠ [] ∧ 2 ≤ n ∧ n ≤ 1000 ∧ xs.length ≤ 1000) ∧ Q (.pu (.tup (List.replicate n.toNat xs).flatten))
  | _, _ => False
def rMulD (K : PySem.W.Frag) : R2 := fun x y H Q => rI CMulW (fun i j => .int (i * j)) x y H Q ∨ rRepS x y H Q ∨ rRep x y H Q ∨ rRepT K x y H Q
theorem op_mulD {X : Cx} : OpR X (binaryOp .Mult) (rMulD X.K) := op_mulW.or (op_repS.or (op_rep.or op_repT))
theorem mulP_inv {dx dy : D} {Q : Wv → Prop} (h : mulP dx dy Q) : (∃ i j, dx = .sc (.int i) ∧ dy = .sc (.int j) ∧ i.natAbs.log2 + j.natAbs.log2 < 1000000 ∧ Q (.pu (.sc (.int (i * j))))) ∨
    (∃ z n, dx = .sc (.str z) ∧ dy = .sc (.int n) ∧ (-(2 ^ 63) ≤ n ∧ n < 2 ^ 63 ∧ z.length * n.toNat ≤ 16777216) ∧ Q (.pu (.sc (.str (repS z n))))) ∨
    (∃ xs n, dx = .lst xs ∧ dy = .sc (.int n) ∧ (-(2 ^ 63) ≤ n ∧ n < 2 ^ 63 ∧ xs.length * n.toNat ≤ sizeLine) ∧ Q (.ow (.lst (List.replicate n.toNat xs).flatten))) ∨
    ∃ xs n, dx = .tup xs ∧ dy = .sc (.int n) ∧ (xs ≠ [] ∧ 2 ≤ n ∧ n ≤ 1000 ∧ xs.length ≤ 1000) ∧ Q (.pu (.tup (List.replicate n.toNat xs).flatten)) := by
  unfold mulP at h
  split at h
  · exact .inl ⟨_, _, rfl, rfl, h⟩
  · exact .inr (.inl ⟨_, _, rfl, rfl, h⟩)
  · exact .inr (.inr (.inl ⟨_, _, rfl, rfl, h⟩))
  · exact .inr (.inr (.inr ⟨_, _, rfl, rfl, h⟩))
  · exact h.elim
section
variable {g : Gd}
theorem pr_mul : Pr2 g (rMulD g.K) mulP := by
  refine ⟨fun dx dy Q Q' h q => ?_, fun {F H O σ δ x y dx dy Q Qd} r0 hx hy hp k => ?_⟩
  · rcases mulP_inv q with ⟨i, j, rfl, rfl, z, q⟩ | ⟨a, b, rfl, rfl, z, q⟩ | ⟨a, b, rfl, rfl, z, q⟩ | ⟨a, b, rfl, rfl, z, q⟩
    · exact ⟨z, h _ q⟩
    · exact ⟨z, h _ q⟩
    · exact ⟨z, h _ q⟩
    · exact ⟨z, h _ q⟩
  · rcases mulP_inv hp with ⟨i, j, rfl, rfl, z, q⟩ | ⟨a, n, rfl, rfl, z, q⟩ | ⟨xs, n, rfl, rfl, z, q⟩ | ⟨xs, n, rfl, rfl, z, q⟩
    · exact .inl ⟨i, j, hx, hy, z, k _ H F _ (Step.refl _ _ _) r0 (VR.sc _) q⟩
    · exact .inr (.inl ⟨a, n, hx, hy, z, k _ H F _ (Step.refl _ _ _) r0 (VR.sc _) q⟩)
    · obtain ⟨a, vs, rfl, h1, h2⟩ := hx
      refine .inr (.inr (.inl ⟨a, n, vs, rfl, hy, h1, z.1, z.2.1, by rw [h2.length]; exact z.2.2, fun p np => ?_⟩))
      obtain ⟨s, r1, x1⟩ := r0.newL np (h2.rep n.toNat)
      exact k _ _ F _ s r1 x1 q
    · obtain ⟨a, vs, rfl, h1, h2⟩ := hx
      refine .inr (.inr (.inr ⟨a, n, vs, rfl, hy, r0.sub.sqT h1, fun e => z.1 (by subst e; cases h2; rfl), z.2.1, z.2.2.1, by rw [h2.length]; exact z.2.2.2, fun p np => ?_⟩))
      obtain ⟨F', s, r1, x1⟩ := r0.newT np (h2.rep n.toNat)
      exact k _ _ F' _ s r1 (VR.rep x1) q

/-! == -/
mutual
def toPD : D → Option PyData
  | .sc .non => some .none
  | .sc (.bl b) => some (.bool b)
  | .sc (.int i) => some (.int i)
  | .sc (.str z) => some (.str z)
  | .sc _ => none
  | .tup xs => (toPDs xs).map .tuple
  | .lst xs => (toPDs xs).map .list
  | .dic _ => none
  | .scr _ => none
def toPDs : List D → Option (List PyData)
  | [] => some []
  | x :: xs => match toPD x, toPDs xs with
    | some a, some as => some (a :: as)
    | _, _ => none
end
mutual
theorem Rep.dp {K : PySem.W.Frag} {H : Hp} : ∀ {v : V} {d : D} {p : PyData}, Rep K H v d → toPD d = some p → Dp K H v p
  | _, _, p, .sc v, e => by
    cases v <;> simp only [toPD] at e <;> first
      | (cases e; done)
      | (cases e; constructor)
  | _, _, p, .tup h r, e => by
    simp only [toPD, Option.map_eq_some_iff] at e
    obtain ⟨ps, e, rfl⟩ := e
    exact .tup h (Reps.dps r e)
  | _, _, p, .lst h r, e => by
    simp only [toPD, Option.map_eq_some_iff] at e
    obtain ⟨ps, e, rfl⟩ := e
    exact .lst (.of h) (Reps.dps r e)
  | _, _, p, .dic h r, e => by simp [toPD] at e
  | _, _, p, .scr h, e => by simp [toPD] at e
theorem Reps.dps {K : PySem.W.Frag} {H : Hp} : ∀ {vs : List V} {ds : List D} {ps : List PyData}, Reps K H vs ds → toPDs ds = some ps → DpAll K H vs ps
  | _, _, ps, .nil, e => by
    simp only [toPDs] at e
    cases e
    exact .nil
  | _, _, ps, .cons (d := d) (ds := ds) h r, e => by
    simp only [toPDs] at e
    cases e1 : toPD d with
    | none => simp only [e1] at e; cases e
    | some a =>
      cases e2 : toPDs ds with
      | none => simp only [e1, e2] at e; cases e
      | some as =>
        simp only [e1, e2] at e
        cases e
        exact .cons (Rep.dp h e1) (Reps.dps r e2)
end
/-- two values that == tells apart as data -/
def eqP (neg : Bool) : P2 := fun dx dy Q => match dx, dy with
  | .sc x, .sc y => scal x y = true ∧ Q (.pu (.sc (.bl (neg ^^ decide (x = y)))))
  | dx, dy => ∃ a, toPD dx = some a ∧ ∃ b, toPD dy = some b ∧ (SeqAt.shaped a = true ∧ SeqAt.shaped b = true) ∧ Q (.pu (.sc (.bl (neg ^^ PyData.eqv a b))))
theorem eqP_inv {neg : Bool} {dx dy : D} {Q : Wv → Prop} (h : eqP neg dx dy Q) : (∃ x y, dx = .sc x ∧ dy = .sc y ∧ scal x y = true ∧ Q (.pu (.sc (.bl (neg ^^ decide (x = y)))))) ∨
    ∃ a, toPD dx = some a ∧ ∃ b, toPD dy = some b ∧ (SeqAt.shaped a = true ∧ SeqAt.shaped b = true) ∧ Q (.pu (.sc (.bl (neg ^^ PyData.eqv a b)))) := by
  unfold eqP at h
  split at h
  · exact .inl ⟨_, _, rfl, rfl, h⟩
  · exact .inr h
theorem eqP_mono (neg : Bool) : Mo2 (eqP neg) := fun dx dy Q Q' h q => by
  unfold eqP at q ⊢
  split at q
  · exact ⟨q.1, h _ q.2⟩
  · obtain ⟨a, e1, b, e2, z, q⟩ := q
    exact ⟨a, e1, b, e2, z, h _ q⟩
def rEqA (K : PySem.W.Frag) : R2 := fun x y H Q => rEq x y H Q ∨ rEqD K x y H Q
def rNeA (K : PySem.W.Frag) : R2 := fun x y H Q => rNe x y H Q ∨ rNeD K x y H Q
theorem op_eqA {X : Cx} (hu : X.A.units + 64 < cLine) : OpR X (compareOp .Eq) (rEqA X.K) := op_eq.or (op_eqD hu)
theorem op_neA {X : Cx} (hu : X.A.units + 64 < cLine) : OpR X (compareOp .NotEq) (rNeA X.K) := op_ne.or (op_neD hu)
theorem pr_eq : Pr2 g (rEqA g.K) (eqP false) := by
  refine Pr2.sc (eqP_mono _) fun {F H x y dx dy Q Qd} sb hx hy hp k => ?_
  rcases eqP_inv hp with ⟨u, v, rfl, rfl, z, q⟩ | ⟨a, e1, b, e2, z, q⟩
  · cases hx
    cases hy
    exact .inl ⟨z, k _ (by simpa using q)⟩
  · exact .inr ⟨a, b, (hx.rep sb).dp e1, (hy.rep sb).dp e2, z.1, z.2, k _ (by simpa using q)⟩
theorem pr_ne : Pr2 g (rNeA g.K) (eqP true) := by
  refine Pr2.sc (eqP_mono _) fun {F H x y dx dy Q Qd} sb hx hy hp k => ?_
  rcases eqP_inv hp with ⟨u, v, rfl, rfl, z, q⟩ | ⟨a, e1, b, e2, z, q⟩
  · cases hx
    cases hy
    exact .inl ⟨z, k _ (by simpa using q)⟩
  · exact .inr ⟨a, b, (hx.rep sb).dp e1, (hy.rep sb).dp e2, z.1, z.2, k _ (by simpa using q)⟩
/-- is None -/
def isNP (neg : Bool) : P2 := fun dx dy Q => match dx, dy with
  | .sc x, .sc .non => Q (.pu (.sc (.bl (neg ^^ decide (x = .non)))))
  | .tup _, .sc .non => Q (.pu (.sc (.bl neg)))
  | .lst _, .sc .non => Q (.pu (.sc (.bl neg)))
  | .dic _, .sc .non => Q (.pu (.sc (.bl neg)))
  | _, _ => False
theorem isNP_mono (neg : Bool) : Mo2 (isNP neg) := fun dx dy Q Q' h q => by
  unfold isNP at q ⊢
  split at q <;> first
    | exact h _ q
    | exact q.elim
theorem pr_isN : Pr2 g (fun x y H Q => y = .non ∧ Q (.bl (decide (x = .non))) H) (isNP false) := by
  refine Pr2.sc (isNP_mono _) fun {F H x y dx dy Q Qd} sb hx hy hp k => ?_
  unfold isNP at hp
  split at hp
  · cases hx; cases hy; exact ⟨rfl, k _ (by simpa using hp)⟩
  · obtain ⟨a, vs, rfl, _⟩ := hx; cases hy; exact ⟨rfl, k _ (by simpa using hp)⟩
  · obtain ⟨a, vs, rfl, _⟩ := hx; cases hy; exact ⟨rfl, k _ (by simpa using hp)⟩
  · obtain ⟨a, vs, rfl, _⟩ := hx; cases hy; exact ⟨rfl, k _ (by simpa using hp)⟩
  · exact hp.elim
theorem pr_notN : Pr2 g (fun x y H Q => y = .non ∧ Q (.bl (!decide (x = .non))) H) (isNP true) := by
  refine Pr2.sc (isNP_mono _) fun {F H x y dx dy Q Qd} sb hx hy hp k => ?_
  unfold isNP at hp
  split at hp
  · cases hx; cases hy; exact ⟨rfl, k _ (by simpa using hp)⟩
  · obtain ⟨a, vs, rfl, _⟩ := hx; cases hy; exact ⟨rfl, k _ (by simpa using hp)⟩
  · obtain ⟨a, vs, rfl, _⟩ := hx; cases hy; exact ⟨rfl, k _ (by simpa using hp)⟩
  · obtain ⟨a, vs, rfl, _⟩ := hx; cases hy; exact ⟨rfl, k _ (by simpa using hp)⟩
  · exact hp.elim
end
end DL

/-! text DLR -/
set_option Elab.async false
set_option linter.all false
set_option maxRecDepth 100000
namespace DL
open PySem PySem.Spec L2
section
variable {g : Gd}

/-! in, not in -/
theorem op_notIn_signE {X : Cx} : OpR X (compareOp .NotIn) (fun x y H Q => ∃ (c : Nat) (z : Str), x = .str ⟨#[c]⟩ ∧ y = .str z ∧ Q (.bl (!decide (c ∈ z.cps.toList))) H) := op_notIn_sign
/-- flat values -/
def flats : List D → Option (List V)
  | [] => some []
  | .sc u :: ds => if flatV u = true then (flats ds).map (u :: ·) else none
  | _ :: _ => none
theorem flats_reps {K : PySem.W.Frag} {F : Hp} : ∀ {vs : List V} {ds : List D} {us : List V}, Reps K F vs ds → flats ds = some us → vs = us ∧ us.all flatV = true
  | _, _, us, .nil, e => by cases e; exact ⟨rfl, rfl⟩
  | _, _, us, .cons (ds := ds) (.sc v) r, e => by
    simp only [flats] at e
    by_cases hf : flatV v = true
    · rw [if_pos hf] at e
      cases e2 : flats ds with
      | none => rw [e2] at e; cases e
      | some us' =>
        rw [e2] at e
        cases e
        obtain ⟨h1, h2⟩ := flats_reps r e2
        exact ⟨by rw [h1], by simp [hf, h2]⟩
    · rw [if_neg hf] at e; cases e
  | _, _, us, .cons (.tup _ _) r, e => by cases e
  | _, _, us, .cons (.lst _ _) r, e => by cases e
  | _, _, us, .cons (.dic _ _) r, e => by cases e
  | _, _, us, .cons (.scr _) r, e => by cases e
/-- a text of one sign -/
def one? (s : Str) : Option Nat := match s.cps.toList with
  | [c] => some c
  | _ => none
theorem one_sign (c : Nat) : one? (sign c) = some c := rfl
theorem one_eq {s : Str} {c : Nat} (h : one? s = some c) : s = ⟨#[c]⟩ := by
  cases s with
  | mk a =>
    cases a with
    | mk l =>
      unfold one? at h
      simp only at h
      match l, h with
      | [c'], h => cases h; rfl
def inP (neg : Bool) : P2 := fun dx dy Q => match dx, dy with
  | .sc (.str s), .sc (.str z) => ∃ c, one? s = some c ∧ Q (.pu (.sc (.bl (neg ^^ decide (c ∈ z.cps.toList)))))
  | .sc x, .tup ys => ∃ us, flats ys = some us ∧ flatV x = true ∧ Q (.pu (.sc (.bl (neg ^^ inV x us))))
  | .sc x, .lst ys => ∃ us, flats ys = some us ∧ flatV x = true ∧ Q (.pu (.sc (.bl (neg ^^ inV x us))))
  | _, _ => False
theorem inP_inv {neg : Bool} {dx dy : D} {Q : Wv → Prop} (h : inP neg dx dy Q) : (∃ c z, dx = .sc (.str ⟨#[c]⟩) ∧ dy = .sc (.str z) ∧ Q (.pu (.sc (.bl (neg ^^ decide (c ∈ z.cps.toList)))))) ∨
    (∃ x ys us, dx = .sc x ∧ (dy = .tup ys ∨ dy = .lst ys) ∧ flats ys = some us ∧ flatV x = true ∧ Q (.pu (.sc (.bl (neg ^^ inV x us))))) := by
  unfold inP at h
  split at h
  · obtain ⟨c, e, h⟩ := h
    have e := one_eq e
    subst e
    exact .inl ⟨_, _, rfl, rfl, h⟩
  · obtain ⟨us, h⟩ := h
    exact .inr ⟨_, _, us, rfl, .inl rfl, h⟩
  · obtain ⟨us, h⟩ := h
    exact .inr ⟨_, _, us, rfl, .inr rfl, h⟩
  · exact h.elim
theorem inP_mono (neg : Bool) : Mo2 (inP neg) := fun dx dy Q Q' h q => by
  unfold inP at q ⊢
  split at q
  · obtain ⟨c, e, q⟩ := q; exact ⟨c, e, h _ q⟩
  · obtain ⟨us, a, b, q⟩ := q; exact ⟨us, a, b, h _ q⟩
  · obtain ⟨us, a, b, q⟩ := q; exact ⟨us, a, b, h _ q⟩
  · exact q.elim
def rInA (K : PySem.W.Frag) : R2 := fun x y H Q => (∃ (c : Nat) (z : Str), x = .str ⟨#[c]⟩ ∧ y = .str z ∧ Q (.bl (decide (c ∈ z.cps.toList))) H) ∨ rIn K false x y H Q
def rNotInA (K : PySem.W.Frag) : R2 := fun x y H Q => (∃ (c : Nat) (z : Str), x = .str ⟨#[c]⟩ ∧ y = .str z ∧ Q (.bl (!decide (c ∈ z.cps.toList))) H) ∨ rIn K true x y H Q
theorem op_inA {X : Cx} : OpR X (compareOp .In) (rInA X.K) := op_in_sign.or op_in_seq
theorem op_notInA {X : Cx} : OpR X (compareOp .NotIn) (rNotInA X.K) := op_notIn_sign.or op_notIn_seq
theorem inSeq {F H : Hp} (sb : Sub F H) {y : V} {dy : D} {ys : List D} {us : List V} (hy : Cont g.K F H y dy) (e : dy = .tup ys ∨ dy = .lst ys) (ef : flats ys = some us) : ∃ p, y = .ref p ∧ (SqL g.K H p us ∨ SqT g.K H p us) ∧ us.all flatV = true := by
  rcases e with rfl | rfl
  · obtain ⟨a, vs, rfl, h1, h2⟩ := hy
    obtain ⟨rfl, h3⟩ := flats_reps h2 ef
    exact ⟨a, rfl, .inr (sb.sqT h1), h3⟩
  · obtain ⟨a, vs, rfl, h1, h2⟩ := hy
    obtain ⟨rfl, h3⟩ := flats_reps h2 ef
    exact ⟨a, rfl, .inl (.of h1), h3⟩
theorem pr_in : Pr2 g (rInA g.K) (inP false) := by
  refine Pr2.sc (inP_mono _) fun {F H x y dx dy Q Qd} sb hx hy hp k => ?_
  rcases inP_inv hp with ⟨c, z, rfl, rfl, q⟩ | ⟨u, ys, us, rfl, e, ef, hf, q⟩
  · cases hx; cases hy
    exact .inl ⟨c, z, rfl, rfl, k _ (by simpa using q)⟩
  · cases hx
    obtain ⟨p, rfl, h1, h2⟩ := inSeq sb hy e ef
    exact .inr ⟨p, us, rfl, h1, hf, h2, k _ (by simpa using q)⟩
theorem pr_notIn : Pr2 g (rNotInA g.K) (inP true) := by
  refine Pr2.sc (inP_mono _) fun {F H x y dx dy Q Qd} sb hx hy hp k => ?_
  rcases inP_inv hp with ⟨c, z, rfl, rfl, q⟩ | ⟨u, ys, us, rfl, e, ef, hf, q⟩
  · cases hx; cases hy
    exact .inl ⟨c, z, rfl, rfl, k _ (by simpa using q)⟩
  · cases hx
    obtain ⟨p, rfl, h1, h2⟩ := inSeq sb hy e ef
    exact .inr ⟨p, us, rfl, h1, hf, h2, k _ (by simpa using q)⟩

/-! places -/
theorem Reps.atI {K : PySem.W.Frag} {F : Hp} {vs : List V} {ds : List D} (r : Reps K F vs ds) {i : Int} {d : D} (h : L2.atI ds i = some d) : ∃ v, L2.atI vs i = some v ∧ Rep K F v d := by
  unfold L2.atI at h ⊢
  rw [r.length]
  cases e : ixN ds.length i with
  | none => rw [e] at h; cases h
  | some j =>
    rw [e] at h
    exact r.get h
def ixP : P2 := fun dx dy Q => match dx, dy with
  | .lst xs, .sc (.int i) => ∃ d, L2.atI xs i = some d ∧ Q (.pu d)
  | .tup xs, .sc (.int i) => ∃ d, L2.atI xs i = some d ∧ Q (.pu d)
  | .sc (.str z), .sc (.int i) => z.length ≤ sizeLine ∧ ∃ c, L2.atI z.cps.toList i = some c ∧ Q (.pu (.sc (.str (sign c))))
  | _, _ => False
theorem pr_ix : Pr2 g (rIx g.K) ixP := by
  refine ⟨fun dx dy Q Q' h q => ?_, fun {F H O σ δ x y dx dy Q Qd} r0 hx hy hp k => ?_⟩
  · unfold ixP at q ⊢
    split at q
    · obtain ⟨d, e, q⟩ := q; exact ⟨d, e, h _ q⟩
    · obtain ⟨d, e, q⟩ := q; exact ⟨d, e, h _ q⟩
    · obtain ⟨z, d, e, q⟩ := q; exact ⟨z, d, e, h _ q⟩
    · exact q.elim
  · unfold ixP at hp
    split at hp
    · obtain ⟨d, e, q⟩ := hp
      obtain ⟨a, vs, rfl, h1, h2⟩ := hx
      cases hy
      obtain ⟨v, e1, e2⟩ := h2.atI e
      exact .inl ⟨a, vs, _, v, rfl, rfl, .of h1, e1, k v H F _ (Step.refl _ _ _) r0 (VR.rep e2) q⟩
    · obtain ⟨d, e, q⟩ := hp
      obtain ⟨a, vs, rfl, h1, h2⟩ := hx
      cases hy
      obtain ⟨v, e1, e2⟩ := h2.atI e
      exact .inr (.inl ⟨a, vs, _, v, rfl, rfl, r0.sub.sqT h1, e1, k v H F _ (Step.refl _ _ _) r0 (VR.rep e2) q⟩)
    · obtain ⟨z, c, e, q⟩ := hp
      cases hx; cases hy
      exact .inr (.inr ⟨_, _, c, rfl, rfl, z, e, k _ H F _ (Step.refl _ _ _) r0 (VR.sc _) q⟩)
    · exact hp.elim

/-! calls -/
theorem Paired.c1 {α β : Type} {R : α → β → Prop} {xs : List α} {y : β} (h : Paired R xs [y]) : ∃ x, xs = [x] ∧ R x y := by
  cases h with
  | cons a b => cases b; exact ⟨_, rfl, a⟩
theorem Paired.c2 {α β : Type} {R : α → β → Prop} {xs : List α} {y z : β} (h : Paired R xs [y, z]) : ∃ x x', xs = [x, x'] ∧ R x y ∧ R x' z := by
  cases h with
  | cons a b =>
    cases b with
    | cons a' b => cases b; exact ⟨_, _, rfl, a, a'⟩
def lenD : D → Option Nat
  | .lst xs => some xs.length
  | .tup xs => some xs.length
  | .sc (.str z) => if z.length ≤ sizeLine then some z.length else none
  | .scr ns => some ns.length
  | _ => none
def lenP : PN := fun ds Q => match ds with
  | [d] => ∃ n, lenD d = some n ∧ Q (.pu (.sc (.int n)))
  | _ => False
theorem pr_len : PrN g (fun xs H Q => ∃ x n, xs = [x] ∧ LenV g.K x H n ∧ Q (.int n) H) lenP := by
  refine PrN.sc (fun ds Q Q' h q => ?_) fun {F H xs ds Q Qd} sb hx hp k => ?_
  · unfold lenP at q ⊢
    split at q
    · obtain ⟨n, e, q⟩ := q; exact ⟨n, e, h _ q⟩
    · exact q.elim
  · unfold lenP at hp
    split at hp
    · obtain ⟨n, e, q⟩ := hp
      obtain ⟨x, rfl, hx1⟩ := Paired.c1 hx
      rename_i d
      refine ⟨x, n, rfl, ?_, k _ q⟩
      clear hx
      cases d with
      | lst ys => obtain ⟨a, vs, rfl, h1, h2⟩ := hx1; cases e; exact .inl ⟨vs, .of h1, h2.length.symm⟩
      | tup ys => obtain ⟨a, vs, rfl, h1, h2⟩ := hx1; cases e; exact .inr ⟨vs, sb.sqT h1, h2.length.symm⟩
      | scr ns => obtain ⟨a, rfl, h1⟩ := hx1; cases e; exact .inl ⟨_, h1, by simp⟩
      | dic ys => cases e
      | sc v =>
        have hx1 : x = v := hx1
        subst hx1
        cases x with
        | str z =>
          simp only [lenD] at e
          by_cases hz : z.length ≤ sizeLine
          · rw [if_pos hz] at e; cases e; exact ⟨hz, rfl⟩
          · rw [if_neg hz] at e; cases e
        | _ => cases e
    · exact hp.elim
/-- the type's name -/
def tyD : D → Option String
  | .sc .non => some "NoneType"
  | .sc (.bl _) => some "bool"
  | .sc (.int _) => some "int"
  | .sc (.str _) => some "str"
  | .sc _ => none
  | .tup _ => some "tuple"
  | .lst _ => some "list"
  | .dic _ => some "dict"
  | .scr _ => none
theorem Cont.tyx {F H : Hp} (sb : Sub F H) {x : V} {d : D} {t : String} (h : Cont g.K F H x d) (e : tyD d = some t) : TyX g.K H x (.type t) := by
  cases d with
  | sc v =>
    cases h
    cases x <;> simp only [tyD] at e <;> cases e
    · exact .base .non
    · exact .base (.bl _)
    · exact .base (.int _)
    · exact .base (.str _)
  | lst ds =>
    obtain ⟨a, vs, rfl, h1, h2⟩ := h
    cases e
    exact .base (.lst h1)
  | tup ds =>
    obtain ⟨a, vs, rfl, h1, h2⟩ := h
    cases e
    rcases sb.sqT h1 with (h1 | ⟨o, h1⟩) | ⟨o, its, n, h1, hc, _⟩
    · exact .base (.tup h1)
    · exact .fTuple h1
    · exact .kTuple h1 hc
  | dic ds =>
    obtain ⟨a, vs, rfl, h1, h2⟩ := h
    cases e
    rcases h1 with h1 | ⟨o, h1⟩
    · exact .base (.dK h1)
    · exact .fDict h1
  | scr ns => cases e
def isiP : PN := fun ds Q => match ds with
  | [d, .sc (.ty T)] => ∃ t, tyD d = some t ∧ ∃ b, kitB t T = some b ∧ Q (.pu (.sc (.bl b)))
  | _ => False
theorem pr_isi : PrN g (rIsi g.K) isiP := by
  refine PrN.sc (fun ds Q Q' h q => ?_) fun {F H xs ds Q Qd} sb hx hp k => ?_
  · unfold isiP at q ⊢
    split at q
    · obtain ⟨n, e, b, e2, q⟩ := q; exact ⟨n, e, b, e2, h _ q⟩
    · exact q.elim
  · unfold isiP at hp
    split at hp
    · obtain ⟨t, e, b, e2, q⟩ := hp
      obtain ⟨x, x', rfl, hx1, hx'⟩ := Paired.c2 hx
      cases hx'
      exact ⟨x, _, _, _, b, rfl, .ty _, Cont.tyx sb hx1 e, kit_ty e2, k _ q⟩
    · exact hp.elim
/-- any, all of a list of truth values -/
def bools : List D → Option (List Bool)
  | [] => some []
  | .sc (.bl b) :: ds => (bools ds).map (b :: ·)
  | _ :: _ => none
theorem bools_eq : ∀ {ds : List D} {bs : List Bool}, bools ds = some bs → ds = bs.map fun b => .sc (.bl b)
  | [], bs, e => by cases e; rfl
  | d :: ds, bs, e => by
    cases d with
    | sc v =>
      cases v with
      | bl b =>
        simp only [bools] at e
        cases e2 : bools ds with
        | none => rw [e2] at e; cases e
        | some bs' =>
          rw [e2] at e
          cases e
          rw [bools_eq e2]
          rfl
      | _ => cases e
    | _ => cases e
theorem bools_map (bs : List Bool) : bools (bs.map fun b => .sc (.bl b)) = some bs := by
  induction bs with
  | nil => rfl
  | cons b bs ih => simp [bools, ih]
def allP : PN := fun ds Q => match ds with
  | [.lst xs] => ∃ bs, bools xs = some bs ∧ Q (.pu (.sc (.bl (bs.all id))))
  | _ => False
def anyP : PN := fun ds Q => match ds with
  | [.lst xs] => ∃ bs, bools xs = some bs ∧ Q (.pu (.sc (.bl (bs.any id))))
  | _ => False
theorem pr_all : PrN g (rAll g.K) allP := by
  refine PrN.sc (fun ds Q Q' h q => ?_) fun {F H xs ds Q Qd} sb hx hp k => ?_
  · unfold allP at q ⊢
    split at q
    · obtain ⟨n, e, q⟩ := q; exact ⟨n, e, h _ q⟩
    · exact q.elim
  · unfold allP at hp
    split at hp
    · obtain ⟨bs, e, q⟩ := hp
      obtain ⟨x, rfl, a, vs, rfl, h1, h2⟩ := Paired.c1 hx
      have e1 := bools_eq e
      subst e1
      have e2 := h2.scI
      subst e2
      exact ⟨a, bs, rfl, .of h1, k _ q⟩
    · exact hp.elim
theorem pr_any : PrN g (rAny g.K) anyP := by
  refine PrN.sc (fun ds Q Q' h q => ?_) fun {F H xs ds Q Qd} sb hx hp k => ?_
  · unfold anyP at q ⊢
    split at q
    · obtain ⟨n, e, q⟩ := q; exact ⟨n, e, h _ q⟩
    · exact q.elim
  · unfold anyP at hp
    split at hp
    · obtain ⟨bs, e, q⟩ := hp
      obtain ⟨x, rfl, a, vs, rfl, h1, h2⟩ := Paired.c1 hx
      have e1 := bools_eq e
      subst e1
      have e2 := h2.scI
      subst e2
      exact ⟨a, bs, rfl, .of h1, k _ q⟩
    · exact hp.elim
def intP : PN := fun ds Q => match ds with
  | [.sc (.int i)] => Q (.pu (.sc (.int i)))
  | [.sc (.bl b)] => Q (.pu (.sc (.int (if b then 1 else 0))))
  | _ => False
theorem pr_int : PrN g (fun xs H Q => (∃ i, xs = [.int i] ∧ Q (.int i) H) ∨ ∃ k, xs = [.bl k] ∧ Q (.int (if k then 1 else 0)) H) intP := by
  refine PrN.sc (fun ds Q Q' h q => ?_) fun {F H xs ds Q Qd} sb hx hp k => ?_
  · unfold intP at q ⊢
    split at q
    · exact h _ q
    · exact h _ q
    · exact q.elim
  · unfold intP at hp
    split at hp
    · obtain ⟨x, rfl, hx1⟩ := Paired.c1 hx; cases hx1; exact .inl ⟨_, rfl, k _ hp⟩
    · obtain ⟨x, rfl, hx1⟩ := Paired.c1 hx; cases hx1; exact .inr ⟨_, rfl, k _ hp⟩
    · exact hp.elim
/-- list(x), tuple(x) -/
def listP : PN := fun ds Q => match ds with
  | [.lst xs] => Q (.ow (.lst xs))
  | [.tup xs] => Q (.ow (.lst xs))
  | _ => False
theorem pr_list : PrN g (fun xs H Q => ∃ p ys, xs = [.ref p] ∧ (SqL g.K H p ys ∨ SqT g.K H p ys) ∧ ∀ l, H l = none → Q (.ref l) (upd H l (.lst ys))) listP := by
  refine ⟨fun ds Q Q' h q => ?_, fun {F H O σ δ xs ds Q Qd} r0 hx hp k => ?_⟩
  · unfold listP at q ⊢
    split at q
    · exact h _ q
    · exact h _ q
    · exact q.elim
  · unfold listP at hp
    split at hp
    · obtain ⟨x, rfl, a, vs, rfl, h1, h2⟩ := Paired.c1 hx
      refine ⟨a, vs, rfl, .inl (.of h1), fun p np => ?_⟩
      obtain ⟨s, r1, x1⟩ := r0.newL np h2
      exact k _ _ F _ s r1 x1 hp
    · obtain ⟨x, rfl, a, vs, rfl, h1, h2⟩ := Paired.c1 hx
      refine ⟨a, vs, rfl, .inr (r0.sub.sqT h1), fun p np => ?_⟩
      obtain ⟨s, r1, x1⟩ := r0.newL np h2
      exact k _ _ F _ s r1 x1 hp
    · exact hp.elim
def tupleP : PN := fun ds Q => match ds with
  | [.lst xs] => Q (.pu (.tup xs))
  | [.tup xs] => Q (.pu (.tup xs))
  | _ => False
theorem pr_tuple : PrN g (fun xs H Q => ∃ p ys, xs = [.ref p] ∧ ((SqL g.K H p ys ∧ ∀ l, H l = none → Q (.ref l) (upd H l (.tup ys))) ∨ (SqT g.K H p ys ∧ Q (.ref p) H))) tupleP := by
  refine ⟨fun ds Q Q' h q => ?_, fun {F H O σ δ xs ds Q Qd} r0 hx hp k => ?_⟩
  · unfold tupleP at q ⊢
    split at q
    · exact h _ q
    · exact h _ q
    · exact q.elim
  · unfold tupleP at hp
    split at hp
    · obtain ⟨x, rfl, a, vs, rfl, h1, h2⟩ := Paired.c1 hx
      refine ⟨a, vs, rfl, .inl ⟨.of h1, fun p np => ?_⟩⟩
      obtain ⟨F', s, r1, x1⟩ := r0.newT np h2
      exact k _ _ F' _ s r1 (VR.rep x1) hp
    · obtain ⟨x, rfl, a, vs, rfl, h1, h2⟩ := Paired.c1 hx
      exact ⟨a, vs, rfl, .inr ⟨r0.sub.sqT h1, k _ _ F _ (Step.refl _ _ _) r0 (VR.rep (.tup h1 h2)) hp⟩⟩
    · exact hp.elim
/-- texts out of data -/
def strsD : List D → Option (List Str)
  | [] => some []
  | .sc (.str z) :: ds => (strsD ds).map (z :: ·)
  | _ :: _ => none
theorem strs_eq : ∀ {ds : List D} {zs : List Str}, strsD ds = some zs → ds = zs.map fun z => .sc (.str z)
  | [], bs, e => by cases e; rfl
  | d :: ds, bs, e => by
    cases d with
    | sc v =>
      cases v with
      | str z =>
        simp only [strsD] at e
        cases e2 : strsD ds with
        | none => rw [e2] at e; cases e
        | some bs' =>
          rw [e2] at e
          cases e
          rw [strs_eq e2]
          rfl
      | _ => cases e
    | _ => cases e
theorem strs_map (zs : List Str) : strsD (zs.map fun z => .sc (.str z)) = some zs := by
  induction zs with
  | nil => rfl
  | cons b bs ih => simp [strsD, ih]
/-- sorted(list of fewer than 64 texts): the one that stands in order -/
def sortedSP : PN := fun ds Q => match ds with
  | [.lst xs] => ∃ zs, strsD xs = some zs ∧ zs.length < 64 ∧ ∀ ys : List Str, ys.Perm zs → PyProof.Rows.sortedS ys = true → Q (.ow (.lst (ys.map fun z => .sc (.str z))))
  | _ => False
theorem pr_sortedS : PrN g (rSortedS g.K) sortedSP := by
  refine ⟨fun ds Q Q' h q => ?_, fun {F H O σ δ xs ds Q Qd} r0 hx hp k => ?_⟩
  · unfold sortedSP at q ⊢
    split at q
    · obtain ⟨zs, e, n, q⟩ := q
      exact ⟨zs, e, n, fun ys h1 h2 => h _ (q ys h1 h2)⟩
    · exact q.elim
  · unfold sortedSP at hp
    split at hp
    · obtain ⟨zs, e, n, q⟩ := hp
      obtain ⟨x, rfl, a, vs, rfl, h1, h2⟩ := Paired.c1 hx
      have e1 := strs_eq e
      subst e1
      have e2 := h2.scI
      subst e2
      refine ⟨a, zs, rfl, .of h1, n, fun ys p h3 h4 np => ?_⟩
      obtain ⟨s, r1, x1⟩ := r0.newL np (show Reps g.K F (ys.map V.str) (ys.map fun z => .sc (.str z)) by
        rw [show (fun z => D.sc (.str z)) = D.sc ∘ V.str from rfl, ← List.map_map]; exact Reps.scs _)
      exact k _ _ F _ s r1 x1 (q ys h3 h4)
    · exact hp.elim
end
end DL

/-! text DLS -/
set_option Elab.async false
set_option linter.all false
set_option maxRecDepth 100000
namespace DL
open PySem PySem.Spec L2
section
variable {X : Cx} {g : Gd} {Wx : WX} {e a b c lo hi : Expr} {es rest : List Expr} {ta tb tc : DTE} {tA : DTA} {t u : DTT} {pos p2 : Pos}

/-! a op b op' c -/
def dChain (p p' : P2) (ta tb tc : DTE) : DTE := fun δ Q Y => ta δ (fun x δ1 => tb δ1 (fun y δ2 => ∃ dx, val δ2 x = some dx ∧ ∃ dy, val δ2 y = some dy ∧ p dx dy fun w => ∃ k, w = .pu (.sc (.bl k)) ∧
  if k = true then tc δ2 (fun z δ3 => ∃ dy', val δ3 y = some dy' ∧ ∃ dz, val δ3 z = some dz ∧ p' dy' dz fun w => Q w δ3) Y else Q (.pu (.sc (.bl false))) δ2) Y) Y
theorem dChain_mono {p p' : P2} (hp : Mo2 p) (hp' : Mo2 p') (ha : MonoE ta) (hb : MonoE tb) (hc : MonoE tc) : MonoE (dChain p p' ta tb tc) := fun δ Q Q' Y Y' hQ hY h =>
  ha _ _ _ _ _ (fun x δ1 h => hb _ _ _ _ _ (fun y δ2 ⟨dx, e1, dy, e2, h⟩ => ⟨dx, e1, dy, e2, hp _ _ _ _ (fun w ⟨k, ek, h⟩ => ⟨k, ek, by
    cases k with
    | true => exact hc _ _ _ _ _ (fun z δ3 ⟨dy', e3, dz, e4, h⟩ => ⟨dy', e3, dz, e4, hp' _ _ _ _ (fun w => hQ w δ3) h⟩) hY h
    | false => exact hQ _ _ h⟩) h⟩) hY h) hY h
theorem chainCan {r r' : R2} {p p' : P2} (pr : Pr2 g r p) (pr' : Pr2 g r' p') (ha : MonoE ta) (hb : MonoE tb) (hc : MonoE tc) (σ : L2.St) (H : Hp) (Q : VK) :
    canE g Wx (dChain p p' ta tb tc) σ H Q → tChain r r' (canE g Wx ta) (canE g Wx tb) (canE g Wx tc) σ H Q := by
  rintro ⟨F, O, δ, r0, h⟩
  refine ⟨F, O, δ, r0, ha _ _ _ _ _ (fun x δ1 h v1 F1 H1 O1 s1 r1 x1 => ?_) (fun _ _ z => z) h⟩
  refine ⟨F1, O1, δ1, r1, hb _ _ _ _ _ (fun y δ2 h v2 F2 H2 O2 s2 r2 x2 => ?_) (fun c δ z => z.step s1) h⟩
  obtain ⟨dx, e1, dy, e2, h⟩ := h
  have s02 := s1.trans s2
  refine pr.ok r2 (r2.cont (x1.step s2) e1) (r2.cont x2 e2) h fun z H3 F3 w s3 r3 x3 q => ?_
  obtain ⟨k, rfl, q⟩ := q
  have hz : z = .bl k := by cases (show Rep g.K F3 z (.sc (.bl k)) from x3); rfl
  refine ⟨k, hz, ?_⟩
  have s03 := s02.trans s3
  cases k with
  | false => exact q _ F3 H3 O2 s03 r3 (VR.sc _)
  | true =>
    refine ⟨F3, O2, δ2, r3, hc _ _ _ _ _ (fun z δ3 q v4 F4 H4 O4 s4 r4 x4 => ?_) (fun c δ z => z.step s03) q⟩
    obtain ⟨dy', e3, dz, e4, q⟩ := q
    exact pr'.ok r4 (r4.cont ((x2.step s3).step s4) e3) (r4.cont x4 e4) q fun z H5 F5 w s5 r5 x5 q => q z F5 H5 O4 ((s03.trans s4).trans s5) r5 (x5.back (s03.trans s4))
theorem de_chain {op op' : CmpOp} {r r' : R2} {p p' : P2} (ho : OpR X (compareOp op) r) (ho' : OpR X (compareOp op') r') (pr : Pr2 g r p) (pr' : Pr2 g r' p') (ha : DE X g Wx a ta) (hb : DE X g Wx b tb) (hc : DE X g Wx c tc)
    (hm : lastMarks [op, op'] [b, c] = false := by with_unfolding_all rfl) : DE X g Wx (.Compare a [op, op'] [b, c] pos) (dChain p p' ta tb tc) :=
  ⟨dChain_mono pr.mono pr'.mono ha.mono hb.mono hc.mono, peMono (pe_chain ho ho' ha.pe hb.pe hc.pe hm) (chainCan pr pr' ha.mono hb.mono hc.mono)⟩
theorem dt_chain {op op' : CmpOp} {r r' : R2} {p p' : P2} (ho : OpR X (compareOp op) r) (ho' : OpR X (compareOp op') r') (pr : Pr2 g r p) (pr' : Pr2 g r' p') (ha : DE X g Wx a ta) (hb : DE X g Wx b tb) (hc : DE X g Wx c tc)
    (hm : lastMarks [op, op'] [b, c] = false := by with_unfolding_all rfl) : DT X g Wx (.Compare a [op, op'] [b, c] pos) (dTst (dChain p p' ta tb tc)) :=
  dt_of (dChain_mono pr.mono pr'.mono ha.mono hb.mono hc.mono) (pt_chain ho ho' ha.pe hb.pe hc.pe hm) (chainCan pr pr' ha.mono hb.mono hc.mono)

/-! slices -/
abbrev DTO := DS → (Option Int → DS → Prop) → DX → Prop
def canO (g : Gd) (Wx : WX) (t : DTO) : TO := fun σ H Q => ∃ F O δ, R g F H O σ δ ∧ t δ (fun o δ' => ∀ F' H' O', Step F H O F' H' O' → R g F' H' O' σ δ' → Q o H') (canX g Wx F H O σ)
def MonoO (t : DTO) : Prop := ∀ δ Q Q' X X', (∀ w δ', Q w δ' → Q' w δ') → (∀ c δ', X c δ' → X' c δ') → t δ Q X → t δ Q' X'
structure DO (X : Cx) (g : Gd) (Wx : WX) (e : Option Expr) (t : DTO) : Prop where
  mono : MonoO t
  po : PO X e (canO g Wx t)
theorem poMono {e : Option Expr} {t t' : TO} (h : PO X e t) (i : ∀ σ H Q, t' σ H Q → t σ H Q) : PO X e t' := ⟨fun pins s σ H Q I q => h.run pins s σ H Q I (i σ H Q q)⟩
def dONo : DTO := fun δ Q _ => Q none δ
def dOSome (ta : DTE) : DTO := fun δ Q Y => ta δ (fun w δ1 => ∃ i, val δ1 w = some (.sc (.int i)) ∧ Q (some i) δ1) Y
theorem do_none : DO X g Wx none dONo := ⟨fun δ Q Q' Y Y' hQ hY h => hQ _ _ h, poMono po_none fun σ H Q ⟨F, O, δ, r, q⟩ => q F H O (Step.refl _ _ _) r⟩
theorem do_some (ha : DE X g Wx a ta) : DO X g Wx (some a) (dOSome ta) := by
  refine ⟨fun δ Q Q' Y Y' hQ hY h => ha.mono _ _ _ _ _ (fun w δ1 ⟨i, e, h⟩ => ⟨i, e, hQ _ _ h⟩) hY h, poMono (po_some ha.pe) ?_⟩
  rintro σ H Q ⟨F, O, δ, r, q⟩
  refine ⟨F, O, δ, r, ha.mono _ _ _ _ _ (fun w δ1 q v F1 H1 O1 s1 r1 x1 => ?_) (fun _ _ z => z) q⟩
  obtain ⟨i, e, q⟩ := q
  exact ⟨i, r1.cont x1 e, q F1 H1 O1 s1 r1⟩
abbrev PS3 := D → Option Int → Option Int → (Wv → Prop) → Prop
structure PrS (g : Gd) (r : V → Option Int → Option Int → Hp → VK → Prop) (p : PS3) : Prop where
  mono : ∀ d l u Q Q', (∀ w, Q w → Q' w) → p d l u Q → p d l u Q'
  ok : ∀ {F H O σ δ x dx l u} {Q : VK} {Qd : Wv → Prop}, R g F H O σ δ → Cont g.K F H x dx → p dx l u Qd →
    (∀ z H' F' w, Step F H O F' H' O → R g F' H' O σ δ → VR g F' H' O H O σ z w → Qd w → Q z H') → r x l u H Q
def dSl (p : PS3) (ta : DTE) (tl th : DTO) : DTE := fun δ Q Y => ta δ (fun x δ1 => tl δ1 (fun l δ2 => th δ2 (fun u δ3 => ∃ dx, val δ3 x = some dx ∧ p dx l u fun w => Q w δ3) Y) Y) Y
theorem de_slice {r : V → Option Int → Option Int → Hp → VK → Prop} {p : PS3} {lo hi : Option Expr} {tl th : DTO} (ho : SlR X r) (pr : PrS g r p) (ha : DE X g Wx a ta) (hl : DO X g Wx lo tl) (hh : DO X g Wx hi th) : DE X g Wx (.Subscript a (.Slice lo hi none p2) pos) (dSl p ta tl th) := by
  refine ⟨fun δ Q Q' Y Y' hQ hY h => ha.mono _ _ _ _ _ (fun x δ1 h => hl.mono _ _ _ _ _ (fun l δ2 h => hh.mono _ _ _ _ _ (fun u δ3 ⟨dx, e, h⟩ => ⟨dx, e, pr.mono _ _ _ _ _ (fun w => hQ w δ3) h⟩) hY h) hY h) hY h,
    peMono (pe_slice ho ha.pe hl.po hh.po) ?_⟩
  rintro σ H Q ⟨F, O, δ, r0, q⟩
  refine ⟨F, O, δ, r0, ha.mono _ _ _ _ _ (fun x δ1 q v F1 H1 O1 s1 r1 x1 => ?_) (fun _ _ z => z) q⟩
  refine ⟨F1, O1, δ1, r1, hl.mono _ _ _ _ _ (fun l δ2 q F2 H2 O2 s2 r2 => ?_) (fun c δ z => z.step s1) q⟩
  have s02 := s1.trans s2
  refine ⟨F2, O2, δ2, r2, hh.mono _ _ _ _ _ (fun u δ3 q F3 H3 O3 s3 r3 => ?_) (fun c δ z => z.step s02) q⟩
  have s03 := s02.trans s3
  obtain ⟨dx, e, q⟩ := q
  exact pr.ok r3 (r3.cont ((x1.step s2).step s3) e) q fun z H4 F4 w s4 r4 x4 q => q z F4 H4 O3 (s03.trans s4) r4 (x4.back s03)
/-- what is cut out -/
def cutL {α : Type} (xs : List α) (lo hi : Option Int) : List α := (xs.drop (HT.sIx xs.length 0 lo)).take (HT.sIx xs.length xs.length hi - HT.sIx xs.length 0 lo)
theorem Reps.cut {K : PySem.W.Frag} {F : Hp} {vs : List V} {ds : List D} (r : Reps K F vs ds) (lo hi : Option Int) : Reps K F (cutV vs lo hi) (cutL ds lo hi) := by
  unfold cutV cutL
  rw [r.length]
  exact (r.drop _).take _
def slP : PS3 := fun dx l u Q => match dx with
  | .lst xs => Q (.ow (.lst (cutL xs l u)))
  | .scr ns => Q (.ow (.lst ((cutL ns l u).map fun n => .sc (.int n))))
  | .tup xs => Q (.pu (.tup (cutL xs l u)))
  | .sc (.str z) => z.length ≤ sizeLine ∧ Q (.pu (.sc (.str (cutS z l u))))
  | _ => False
def rSlAll (K : PySem.W.Frag) : V → Option Int → Option Int → Hp → VK → Prop := fun x l u H Q => rSlL K x l u H Q ∨ rSlA K x l u H Q ∨ rSlS x l u H Q
theorem sl_all : SlR X (rSlAll X.K) := sl_list.or (sl_tupA.or sl_str)
theorem cut_all {α : Type} {xs : List α} {lo hi : Option Int} (h : HT.sIx xs.length 0 lo = 0 ∧ HT.sIx xs.length xs.length hi = xs.length) : cutL xs lo hi = xs := by
  unfold cutL
  rw [h.1, h.2]
  simp
theorem pr_sl : PrS g (rSlAll g.K) slP := by
  refine ⟨fun d l u Q Q' h q => ?_, fun {F H O σ δ x dx l u Q Qd} r0 hx hp k => ?_⟩
  · unfold slP at q ⊢
    split at q
    · exact h _ q
    · exact h _ q
    · exact h _ q
    · exact ⟨q.1, h _ q.2⟩
    · exact q.elim
  · unfold slP at hp
    split at hp
    · obtain ⟨a, vs, rfl, h1, h2⟩ := hx
      refine .inl ⟨a, vs, rfl, .of h1, fun p n => ?_⟩
      obtain ⟨s, r1, x1⟩ := r0.newL n (h2.cut l u)
      exact k _ _ F _ s r1 x1 hp
    · obtain ⟨a, rfl, h1⟩ := hx
      refine .inl ⟨a, _, rfl, h1, fun p n => ?_⟩
      rename_i ns
      have e : cutV (ns.map V.int) l u = (cutL ns l u).map V.int := by
        unfold cutV cutL
        rw [List.length_map, List.map_take, List.map_drop]
      rw [e]
      obtain ⟨s, r1, x1⟩ := r0.newL n (show Reps g.K F ((cutL ns l u).map V.int) ((cutL ns l u).map fun n => .sc (.int n)) by
        rw [show (fun n => D.sc (.int n)) = D.sc ∘ V.int from rfl, ← List.map_map]; exact Reps.scs _)
      exact k _ _ F _ s r1 x1 hp
    · obtain ⟨a, vs, rfl, h1, h2⟩ := hx
      refine .inr (.inl ⟨a, vs, rfl, r0.sub.sqT h1, fun hw => ?_, fun hw p n => ?_⟩)
      · rw [h2.length] at hw
        rw [cut_all hw] at hp
        exact k _ H F _ (Step.refl _ _ _) r0 (VR.rep (.tup h1 h2)) hp
      · obtain ⟨F', s, r1, x1⟩ := r0.newT n (h2.cut l u)
        exact k _ _ F' _ s r1 (VR.rep x1) hp
    · obtain ⟨z, q⟩ := hp
      cases hx
      exact .inr (.inr ⟨_, rfl, z, k _ H F _ (Step.refl _ _ _) r0 (VR.sc _) q⟩)
    · exact hp.elim

/-! methods of texts, lists .. that change nothing -/
abbrev PM := D → List D → (Wv → Prop) → Prop
structure PrM (g : Gd) (r : V → List V → Hp → VK → Prop) (p : PM) : Prop where
  mono : ∀ d ds Q Q', (∀ w, Q w → Q' w) → p d ds Q → p d ds Q'
  ok : ∀ {F H O σ δ x dx xs ds} {Q : VK} {Qd : Wv → Prop}, R g F H O σ δ → Cont g.K F H x dx → Paired (Cont g.K F H) xs ds → p dx ds Qd →
    (∀ z H' F' w, Step F H O F' H' O → R g F' H' O σ δ → VR g F' H' O H O σ z w → Qd w → Q z H') → r x xs H Q
/-- o.m(e, ..) of a text -/
def dMs (p : PM) (ta : DTE) (tA : DTA) : DTE := fun δ Q Y => ta δ (fun x δ1 => (∃ z, val δ1 x = some (.sc (.str z))) ∧ tA δ1 (fun ws δ2 => ∃ dx, val δ2 x = some dx ∧ ∃ ds, vals δ2 ws = some ds ∧ p dx ds fun w => Q w δ2) Y) Y
theorem de_ms {r : V → List V → Hp → VK → Prop} {p : PM} {tA : DTA} (hp : PE X e (tBM X.K "str" r (canE g Wx ta) (canA g Wx tA))) (pr : PrM g r p) (ha : DE X g Wx a ta) (hA : DA X g Wx es tA) : DE X g Wx e (dMs p ta tA) := by
  refine ⟨fun δ Q Q' Y Y' hQ hY h => ha.mono _ _ _ _ _ (fun x δ1 ⟨z, h⟩ => ⟨z, hA.mono _ _ _ _ _ (fun ws δ2 ⟨dx, e1, ds, e2, h⟩ => ⟨dx, e1, ds, e2, pr.mono _ _ _ _ (fun w => hQ w δ2) h⟩) hY h⟩) hY h, peMono hp ?_⟩
  rintro σ H Q ⟨F, O, δ, r0, q⟩
  refine ⟨F, O, δ, r0, ha.mono _ _ _ _ _ (fun x δ1 q v F1 H1 O1 s1 r1 x1 => ?_) (fun _ _ z => z) q⟩
  obtain ⟨⟨z, ez⟩, q⟩ := q
  have hv : v = .str z := r1.cont x1 ez
  refine ⟨by rw [hv]; rfl, F1, O1, δ1, r1, hA.mono _ _ _ _ _ (fun ws δ2 q vs F2 H2 O2 s2 r2 x2 => ?_) (fun c δ z => z.step s1) q⟩
  obtain ⟨dx, e1, ds, e2, q⟩ := q
  have s02 := s1.trans s2
  exact pr.ok r2 (r2.cont (x1.step s2) e1) (r2.conts x2 e2) q fun z H4 F4 w s4 r4 x4 q => q z F4 H4 O2 (s02.trans s4) r4 (x4.back s02)
def findP : PM := fun d ds Q => match d, ds with
  | .sc (.str a), [.sc (.str b)] => Q (.pu (.sc (.int (Txt.find a b))))
  | _, _ => False
theorem pr_find : PrM g (fun x xs H Q => ∃ a b, x = .str a ∧ xs = [.str b] ∧ Q (.int (Txt.find a b)) H) findP := by
  refine ⟨fun d ds Q Q' h q => ?_, fun {F H O σ δ x dx xs ds Q Qd} r0 hx hxs hp k => ?_⟩
  · unfold findP at q ⊢
    split at q
    · exact h _ q
    · exact q.elim
  · unfold findP at hp
    split at hp
    · obtain ⟨y, rfl, hy⟩ := Paired.c1 hxs
      cases hx; cases hy
      exact ⟨_, _, rfl, rfl, k _ H F _ (Step.refl _ _ _) r0 (VR.sc _) hp⟩
    · exact hp.elim
def countP : PM := fun d ds Q => match d, ds with
  | .sc (.str a), [.sc (.str b)] => Q (.pu (.sc (.int (Txt.count a b))))
  | _, _ => False
theorem pr_count : PrM g (fun x xs H Q => ∃ a b, x = .str a ∧ xs = [.str b] ∧ Q (.int (Txt.count a b)) H) countP := by
  refine ⟨fun d ds Q Q' h q => ?_, fun {F H O σ δ x dx xs ds Q Qd} r0 hx hxs hp k => ?_⟩
  · unfold countP at q ⊢
    split at q
    · exact h _ q
    · exact q.elim
  · unfold countP at hp
    split at hp
    · obtain ⟨y, rfl, hy⟩ := Paired.c1 hxs
      cases hx; cases hy
      exact ⟨_, _, rfl, rfl, k _ H F _ (Step.refl _ _ _) r0 (VR.sc _) hp⟩
    · exact hp.elim
def joinP : PM := fun d ds Q => match d, ds with
  | .sc (.str a), [.lst xs] => ∃ ys, strsD xs = some ys ∧ (ys.map (·.length)).sum + ys.length * a.length ≤ 16777216 ∧ Q (.pu (.sc (.str (Txt.join a ys))))
  | _, _ => False
theorem pr_join : PrM g (fun x xs H Q => ∃ a p, ∃ ys : List Str, x = .str a ∧ xs = [.ref p] ∧ (SqL g.K H p (ys.map V.str) ∨ SqT g.K H p (ys.map V.str)) ∧ (ys.map (·.length)).sum + ys.length * a.length ≤ 16777216 ∧ Q (.str (Txt.join a ys)) H) joinP := by
  refine ⟨fun d ds Q Q' h q => ?_, fun {F H O σ δ x dx xs ds Q Qd} r0 hx hxs hp k => ?_⟩
  · unfold joinP at q ⊢
    split at q
    · obtain ⟨ys, e, z, q⟩ := q; exact ⟨ys, e, z, h _ q⟩
    · exact q.elim
  · unfold joinP at hp
    split at hp
    · obtain ⟨ys, e, z, q⟩ := hp
      obtain ⟨y, rfl, p, vs, rfl, h1, h2⟩ := Paired.c1 hxs
      have e1 := strs_eq e
      subst e1
      have e2 := h2.scI
      subst e2
      cases hx
      exact ⟨_, p, ys, rfl, rfl, .inl (.of h1), z, k _ H F _ (Step.refl _ _ _) r0 (VR.sc _) q⟩
    · exact hp.elim
end
end DL

/-! text DLZ -/
set_option Elab.async false
set_option linter.all false
set_option maxRecDepth 100000
namespace DL
open PySem PySem.Spec L2

/-! ### walks that hand out new tuples: zip, enumerate, over lists, tuples, texts -/
def Jt (n : Nat) (side : Hp → Prop) (At : Nat → List V → Prop) : It :=
  ⟨fun i H => i < n ∧ side H, fun i H v H' => ∃ T vs, v = .ref T ∧ H T = none ∧ H' = upd H T (.tup vs) ∧ At i vs, fun i H => i = n ∧ side H⟩
theorem turn_walk {P : Program} {w : World} {K : PySem.W.Frag} {elts : List Expr} {kk : Nat} {tpos : Pos} {fp : List Addr} {z : Addr} {tn : Nat → Heap → Prop} {n : Nat} {side : Hp → Prop} {At : Nat → List V → Prop} (hm : z ∈ fp)
    (obj : ∀ i h, tn i h → ∀ b ∈ fp, ∃ o, h.get? b = some o ∧ ∀ v, o.data ≠ .cell v) (keep : ∀ i h h', tn i h → (∀ b ∈ fp, ∀ o, h.get? b = some o → h'.get? b = some o) → tn i h')
    (self : ∀ (A : Around) (i : Nat) (s : Shared) (Q : Value → Shared → Prop) (E : Value → Shared → Prop), tn i s.heap → Q (.ref z) s → wpAny (model P w) A (pyIter (.ref z)) Q E s)
    (wk : ∀ (X : Cx), X.prog = P → X.w = w → X.K = K → X.calm = true → ∀ (pins : List (Addr × Obj)) (s : Shared) (σ : L2.St) (H : Hp), Inv X pins σ H s → (∀ b ∈ fp, FpOk X pins H b) → side H → ∀ i, tn i s.heap →
      ∃ fpW wr Pt St Mid, WalksT P w X.A z fpW wr n Pt St Mid ∧ St i s.heap ∧ (∀ b ∈ wr, b ∈ fp) ∧ (∀ j h, St j h → tn j h) ∧ ∀ j vals, Pt j vals → ∃ vs, At j vs ∧ Vals vs vals.toList ∧ vs.length ≤ sizeLine) :
    Turn P w K (.Tuple elts kk tpos) (Jt n side At) fp z tn where
  mem := hm
  obj := obj
  keep := keep
  self := self
  item := by
    rintro X hP hw hK hc i pins s σ H E I hf st ⟨hi, sd⟩
    obtain ⟨fpW, wr, Pt, St, Mid, W, st0, hwr, hst, hpt⟩ := wk X hP hw hK hc pins s σ H I hf sd i st
    refine W.item i s _ _ hi st0 fun T vals h' tk hv hT hTup hM hk => ?_
    obtain ⟨vs, ha, rv, hl⟩ := hpt i vals hv
    refine ⟨_, rfl, W.go elts kk tpos i T _ _ _ hM fun h'' hs' hk' => ?_⟩
    have hap := W.apart i T _ hM
    have t2 : PyProof.Rows.IsTup h'' T vals.toList.toArray := by
      have t2 : h''.IsTuple T vals := hTup.at fun o e => hk' T o hap e
      rw [Array.toArray_toList]
      exact t2
    have fr : ∀ b o, b ∉ fp → s.heap.get? b = some o → h''.get? b = some o := fun b o nb e => hk' b o (fun z => nb (hwr b z)) (hk b o (fun z => nb (hwr b z)) e)
    have I1 := I.turnedNew (t' := tk) (T := T) (ob := .tup vs) fr hf hT ⟨hl, vals.toList, rv, t2⟩
    refine ⟨.ref T, _, I1, rfl, ⟨T, vs, rfl, I.hok.fresh hT, rfl, ha⟩, hst _ _ hs', fun b hb => ?_⟩
    obtain ⟨o, ho, _⟩ := obj i _ st b hb
    rw [upd_ne (Nat.ne_of_lt (Nat.lt_of_lt_of_le (Heap.lt_size ho) hT))]
    exact (hf b hb).1
  done := by
    rintro X hP hw hK hc i pins s σ H E I hf st ⟨rfl, sd⟩
    obtain ⟨fpW, wr, Pt, St, Mid, W, st0, hwr, hst, hpt⟩ := wk X hP hw hK hc pins s σ H I hf sd _ st
    exact W.done s _ _ st0 fun h' tk hk => ⟨rfl, I.turnedL (fun b o nb e => hk b o (fun z => nb (hwr b z)) e) hf⟩

/-- what is drawn from -/
inductive Sk where
  | lst (a : Addr) (vs : List V) | tup (a : Addr) (vs : List V) | txt (x : Str)
def Sk.side (K : PySem.W.Frag) (H : Hp) : Sk → Prop
  | .lst a vs => SqL K H a vs
  | .tup a vs => SqT K H a vs
  | .txt _ => True
def Sk.n : Sk → Nat
  | .lst _ vs => vs.length
  | .tup _ vs => vs.length
  | .txt x => x.cps.size
def Sk.at_ (i : Nat) (v : V) : Sk → Prop
  | .lst _ vs => vs[i]? = some v
  | .tup _ vs => vs[i]? = some v
  | .txt x => ∃ c, x.cps[i]? = some c ∧ v = .str (sign c)
def Sk.v : Sk → V
  | .lst a _ => .ref a
  | .tup a _ => .ref a
  | .txt x => .str x
def Sk.core (it : Addr) (i : Nat) (h : Heap) : Sk → Prop
  | .lst a _ => h.IsListIter it a i
  | .tup a _ => h.IsTupleIter it a i
  | .txt x => ∃ t, h.IsStrIter it (strIterType x) x t i
theorem Sk.core_obj {S : Sk} {it : Addr} {i : Nat} {h : Heap} (c : S.core it i h) : ∃ o, h.get? it = some o ∧ ∀ v, o.data ≠ .cell v := by
  cases S with
  | lst a vs => obtain ⟨o, e, _, d⟩ := c; exact ⟨o, e, fun v z => by rw [d] at z; cases z⟩
  | tup a vs => obtain ⟨o, e, _, d⟩ := c; exact ⟨o, e, fun v z => by rw [d] at z; cases z⟩
  | txt x => obtain ⟨t, o, e, _, d⟩ := c; exact ⟨o, e, fun v z => by rw [d] at z; cases z⟩
theorem Sk.core_keep {S : Sk} {it : Addr} {i : Nat} {h h' : Heap} (c : S.core it i h) (k : ∀ o, h.get? it = some o → h'.get? it = some o) : S.core it i h' := by
  cases S with
  | lst a vs => exact Heap.IsListIter.at c k
  | tup a vs => exact Heap.IsTupleIter.at c k
  | txt x => obtain ⟨t, o, e, d⟩ := c; exact ⟨t, o, k o e, d⟩
/-- what is known of the written part, or tracked, is no iterator of ours -/
theorem apart_of {X : Cx} {pins : List (Addr × Obj)} {σ : L2.St} {H : Hp} {s : Shared} {a b : Addr} (I : Inv X pins σ H s) (hf : FpOk X pins H b) (h : H a ≠ none ∨ ∃ o, X.K.lookup a = some o) : a ≠ b := by
  rintro rfl
  rcases h with h | ⟨o, h⟩
  · exact h hf.1
  · have e := I.ok.mod.kin a o h
    rcases hf.2.2.2.1 with z | z
    · exact I.ok.noex a o e z
    · exact absurd (Nat.lt_of_lt_of_le (Heap.lt_size e) (Nat.le_trans I.ok.bsz z)) (Nat.lt_irrefl _)
theorem sq_known {H : Hp} {a : Addr} {u : HO} (h : Rd H a u) : H a ≠ none := by
  rcases h with h | ⟨o, h⟩ <;> rw [h] <;> intro z <;> cases z
/-- the source as the library's iterators draw from it -/
theorem Sk.draws {X : Cx} {pins : List (Addr × Obj)} {σ : L2.St} {H : Hp} {s : Shared} {A : Around} (I : Inv X pins σ H s) (hh : A.handled = none) (S : Sk) (sd : S.side X.K H) {it : Addr} (hit : FpOk X pins H it) {i : Nat} (c : S.core it i s.heap) :
    ∃ fp P St, Draws X.prog X.w A it fp S.n P St ∧ St i s.heap ∧ (∀ j h, St j h → S.core it j h) ∧ (∀ j u, P j u → ∃ v, S.at_ j v ∧ RelV v u) ∧ it ∈ fp ∧ ∀ b, FpOk X pins H b → b ≠ it → b ∉ fp := by
  cases S with
  | lst a vs =>
    obtain ⟨its, rv, p, hz⟩ := I.list sd
    have hk : H a ≠ none ∨ ∃ o, X.K.lookup a = some o := sd.imp sq_known fun ⟨o, _, _, e, _⟩ => ⟨o, e⟩
    have DD := Draws.list (prog := X.prog) (w := X.w) hh it a (apart_of I hit hk) its.toArray
    rw [List.size_toArray, ← rv.length] at DD
    refine ⟨_, _, _, DD, ⟨c, p.isList⟩, fun j h x => x.1, fun j u hu => ?_, by simp, fun b hb hn hm => ?_⟩
    · have hu : its.toArray[j]? = some u := hu
      rw [List.getElem?_toArray] at hu
      have hj : j < vs.length := by rw [rv.length]; exact (List.getElem?_eq_some_iff.mp hu).1
      obtain ⟨u', e1, e2⟩ := rv.get (x := vs[j]) (List.getElem?_eq_getElem hj)
      rw [hu] at e1
      cases e1
      exact ⟨_, List.getElem?_eq_getElem hj, e2⟩
    · rcases List.mem_cons.mp hm with e | e
      · exact hn e
      · exact apart_of I hb hk (List.mem_singleton.mp e).symm
  | tup a vs =>
    obtain ⟨its, rv, p, hz⟩ := I.tuple sd
    have hk : H a ≠ none ∨ ∃ o, X.K.lookup a = some o := sd.imp sq_known fun ⟨o, _, _, e, _⟩ => ⟨o, e⟩
    have DD := Draws.tuple (prog := X.prog) (w := X.w) hh it a (apart_of I hit hk) its.toArray
    rw [List.size_toArray, ← rv.length] at DD
    refine ⟨_, _, _, DD, ⟨c, p⟩, fun j h x => x.1, fun j u hu => ?_, by simp, fun b hb hn hm => ?_⟩
    · have hu : its.toArray[j]? = some u := hu
      rw [List.getElem?_toArray] at hu
      have hj : j < vs.length := by rw [rv.length]; exact (List.getElem?_eq_some_iff.mp hu).1
      obtain ⟨u', e1, e2⟩ := rv.get (x := vs[j]) (List.getElem?_eq_getElem hj)
      rw [hu] at e1
      cases e1
      exact ⟨_, List.getElem?_eq_getElem hj, e2⟩
    · rcases List.mem_cons.mp hm with e | e
      · exact hn e
      · exact apart_of I hb hk (List.mem_singleton.mp e).symm
  | txt x =>
    obtain ⟨t, c⟩ := c
    refine ⟨_, _, _, Draws.text hh it x t, c, fun j h y => ⟨t, y⟩, fun j u ⟨c', u', e1, e2⟩ => ⟨_, ⟨c', e1, rfl⟩, u', e2⟩, by simp, fun b hb hn hm => hn (List.mem_singleton.mp hm)⟩
end DL

/-! text DLY -/
set_option Elab.async false
set_option linter.all false
set_option maxRecDepth 100000
namespace DL
open PySem PySem.Spec
open L2
open Sem (wp)

/-! ### zip(v, u, strict=True) -/
abbrev IsZipS (h : Heap) (z TI TO : Addr) (f0 : Value) : Prop := h.get? z = some { cls := .type "zip", dict := none, data := .fields #[f0, .bool false, .bool true, .ref TI, .ref TO], slots := #[] }
abbrev szZ (h : Heap) (o1 o2 : Obj) : Heap := (gzO2 h o1 o2).push { cls := .type "zip", data := .fields #[.none, .bool false, .bool true, .ref ((h.push o1).push o2).objs.size, .ref (gzT2 h o1 o2).objs.size] }
abbrev kwStrict : List (Str × Value) := [(Str.ofString "strict", .bool true)]
theorem szTypeCall (a b : Value) : checkTypeCall "zip" ⟨[a, b], kwStrict⟩ = pure () := by kernel_rfl
theorem szNewCall (a b : Value) : checkBuiltinCall "zip.__new__" ⟨[.type "zip", a, b], kwStrict⟩ = pure () := by kernel_rfl
theorem szInit (obj a b : Value) : argsOk "object.__init__" ⟨[obj, a, b], kwStrict⟩ := by unfold argsOk; kernel_rfl
theorem szNew {v1 v2 : Value} {o1 o2 : Obj} {H1 H2 : Heap → Prop} (B1 : Begins v1 o1 H1) (B2 : Begins v2 o2 H2) :
    Meets (Builtin.«zip.__new__» ⟨[.type "zip", v1, v2], kwStrict⟩) (fun _ R s => (H1 s.heap ∧ H2 s.heap) ∧ R (.ok (.ret (.ref (gzO2 s.heap o1 o2).objs.size))) { s with heap := szZ s.heap o1 o2 }) :=
  .of_wp fun prog w A R ⟨hp, g, d, tk, os⟩ ⟨⟨h1, h2⟩, h⟩ => by
    have hsub := sub_zip
    have q1 : ∀ {A' : Around} {E : Value → Shared → Prop} {Q : Value → Shared → Prop}, Q (.ref hp.objs.size) ⟨hp.push o1, g, d, tk, os⟩ → wpAny (model prog w) A' (pyIter v1) Q E ⟨hp, g, d, tk, os⟩ :=
      fun q => B1.iter prog w _ _ _ _ (B1.keeps _ _ h1 fun _ _ e => e) q
    have q2 : ∀ {A' : Around} {E : Value → Shared → Prop} {Q : Value → Shared → Prop}, Q (.ref (hp.push o1).objs.size) ⟨(hp.push o1).push o2, g, d, tk, os⟩ → wpAny (model prog w) A' (pyIter v2) Q E ⟨hp.push o1, g, d, tk, os⟩ :=
      fun q => B2.iter prog w _ _ ⟨hp.push o1, g, d, tk, os⟩ _ (B2.keeps _ _ h2 fun _ _ e => Heap.get?_push_of_some _ e) q
    wp_walk using q1, q2
    exact ⟨_, rfl, h⟩
end DL

/-! text DLY2 -/
set_option Elab.async false
set_option linter.all false
set_option maxRecDepth 100000
namespace DL
open PySem PySem.Spec
open L2
open Sem (wp)
section
variable {s : Shared} {w : World} {prog : Program} {E : Value → Shared → Prop} {A : Around}
/-- its five new cells -/
theorem szBegins {v1 v2 : Value} {o1 o2 : Obj} {H1 H2 : Heap → Prop} {Q : Value → Shared → Prop} (B1 : Begins v1 o1 H1) (B2 : Begins v2 o2 H2) (h1 : H1 s.heap) (h2 : H2 s.heap)
    (h : ∀ h', IsZipS h' (s.heap.objs.size + 4) (s.heap.objs.size + 2) (s.heap.objs.size + 3) .none → IsTupOf2 h' (s.heap.objs.size + 2) (.ref s.heap.objs.size) (.ref (s.heap.objs.size + 1)) →
      IsTupOf2 h' (s.heap.objs.size + 3) .none .none → h'.get? s.heap.objs.size = some o1 → h'.get? (s.heap.objs.size + 1) = some o2 →
      (∀ b u, s.heap.get? b = some u → h'.get? b = some u) → Q (.ref (s.heap.objs.size + 4)) { s with heap := h' }) :
    wpAny (model prog w) A (call (.type "zip") [v1, v2] kwStrict) Q E s := by
  refine callType_newKw F.called_zip (by decide) (szTypeCall _ _) (szNewCall _ _) (fun obj => szInit obj _ _) F.entry_zip_new (szNew B1 B2) ⟨⟨h1, h2⟩, ?_⟩
  have z1 : (s.heap.push o1).objs.size = s.heap.objs.size + 1 := Heap.size_push ..
  have z2 : ((s.heap.push o1).push o2).objs.size = s.heap.objs.size + 2 := (Heap.size_push ..).trans (congrArg (· + 1) z1)
  have z3 : (gzT2 s.heap o1 o2).objs.size = s.heap.objs.size + 3 := by rw [Heap.size_push, z2]
  have z4 : (gzO2 s.heap o1 o2).objs.size = s.heap.objs.size + 4 := by rw [Heap.size_push, z3]
  have up : ∀ {c : Addr} {o : Obj}, (gzO2 s.heap o1 o2).get? c = some o → (szZ s.heap o1 o2).get? c = some o := fun e => Heap.get?_push_of_some _ e
  have up2 : ∀ {c : Addr} {o : Obj}, (gzT2 s.heap o1 o2).get? c = some o → (szZ s.heap o1 o2).get? c = some o := fun e => up (Heap.get?_push_of_some _ e)
  have up3 : ∀ {c : Addr} {o : Obj}, ((s.heap.push o1).push o2).get? c = some o → (szZ s.heap o1 o2).get? c = some o := fun e => up2 (Heap.get?_push_of_some _ e)
  have gZ : (szZ s.heap o1 o2).get? (gzO2 s.heap o1 o2).objs.size = some { cls := .type "zip", data := .fields #[.none, .bool false, .bool true, .ref ((s.heap.push o1).push o2).objs.size, .ref (gzT2 s.heap o1 o2).objs.size] } := Heap.get?_push_size _ rfl
  have gO : (szZ s.heap o1 o2).get? (gzT2 s.heap o1 o2).objs.size = some { cls := .type "tuple", data := .seq #[.none, .none] } := up (Heap.get?_push_size _ rfl)
  have gT : (szZ s.heap o1 o2).get? ((s.heap.push o1).push o2).objs.size = some { cls := .type "tuple", data := .seq #[.ref s.heap.objs.size, .ref (s.heap.push o1).objs.size] } := up2 (Heap.get?_push_size _ rfl)
  have g1 : (szZ s.heap o1 o2).get? s.heap.objs.size = some o1 := up3 (Heap.get?_push_of_some _ (Heap.get?_push_size _ B1.free))
  have g2 : (szZ s.heap o1 o2).get? (s.heap.push o1).objs.size = some o2 := up3 (Heap.get?_push_size _ B2.free)
  rw [z4, z3, z2] at gZ
  rw [z3] at gO
  rw [z2, z1] at gT
  rw [z1] at g2
  show _ ∧ _
  rw [z4]
  exact ⟨⟨_, gZ, rfl⟩, h _ gZ gT gO g1 g2 fun c o e => up3 (Heap.get?_push_of_some _ (Heap.get?_push_of_some _ e))⟩
/-- a draw that is tried -/
theorem drawItem {it : Addr} {fp : List Addr} {n i : Nat} {P : Nat → Value → Prop} {St : Nat → Heap → Prop} (D : Draws prog w A it fp n P St) {Q : Option Value → Shared → Prop} (hi : i < n) (st : St i s.heap)
    (h : ∀ x h' tk, P i x → St (i + 1) h' → Heap.SameBut it s.heap h' → Q (some x) { s with heap := h', toks := tk }) : wpAny (model prog w) A (Builtin.SmallTypes.nextOrEnd (.ref it)) Q E s := by
  unfold Builtin.SmallTypes.nextOrEnd
  exact wpAny_bind (wpAny_attempt (D.item i s _ _ hi st fun x h' tk p st' sb => wpAny_pure (h x h' tk p st' sb)))
theorem drawEnd {it : Addr} {fp : List Addr} {n : Nat} {P : Nat → Value → Prop} {St : Nat → Heap → Prop} (D : Draws prog w A it fp n P St) {Q : Option Value → Shared → Prop} (st : St n s.heap)
    (h : ∀ h', Heap.ExtBut it s.heap h' → Q none { s with heap := h' }) : wpAny (model prog w) A (Builtin.SmallTypes.nextOrEnd (.ref it)) Q E s := by
  unfold Builtin.SmallTypes.nextOrEnd
  refine wpAny_bind (wpAny_attempt (D.done s _ _ st fun h' e hx ⟨o, ho, hc⟩ => ?_))
  exact wpAny_bind (wpAny_isInstance (T := "StopIteration") (b := true) ⟨o, ho, hc⟩ isSubtype_stop (wpAny_pure (h h' hx)))
/-- the end is told -/
theorem stopIt {Q : PySem.Fin → Shared → Prop} (hh : A.handled = none) (h : ∀ h' e, (∀ c o, s.heap.get? c = some o → h'.get? c = some o) → (∃ o, h'.get? e = some o ∧ o.cls = .type "StopIteration") → E (.ref e) { s with heap := h' }) :
    wpAny (model prog w) A Builtin.SmallTypes.stopIteration Q E s := by
  refine (show wpAny _ _ (newExc (.type "StopIteration") [] >>= _) _ _ _ from wpAny_bind ?_)
  simp only [newExc, newTuple]
  refine wpAny_bind (wpAny_newObj_type (wpAny_bind (m := firstArgMember _ _) (wpAny_of_eq (a := Value.none) (by simp only [firstArgMember]; rfl) (wpAny_newObj_type ?_ (by size_fits)))) (by size_fits))
  simp only [raiseNew, hh]
  refine wpAny_bind (wpAny_handled (wpAny_bind (wpAny_pure (hh.symm ▸ wpAny_throw ?_))))
  exact h _ _ (fun c o e => Heap.get?_push_of_some _ (Heap.get?_push_of_some _ e)) ⟨_, Heap.get?_push_size _ rfl, rfl⟩
end
end DL

/-! text DLY3 -/
set_option Elab.async false
set_option linter.all false
set_option maxRecDepth 100000
namespace DL
open PySem PySem.Spec
open L2
open Sem (wp)
section
variable {s : Shared} {w : World} {prog : Program} {E : Value → Shared → Prop} {A : Around} {z TI TO i1 i2 : Addr} {fp1 fp2 : List Addr} {n1 n2 i : Nat} {P1 P2 : Nat → Value → Prop} {St1 St2 : Nat → Heap → Prop} {a1 a2 : Value}
theorem szItem {Q : Value → Shared → Prop} (S : ZipSep2 z TI TO i1 i2 fp1 fp2) (D1 : Draws prog w A i1 fp1 n1 P1 St1) (D2 : Draws prog w A i2 fp2 n2 P2 St2)
    (hz : IsZipS s.heap z TI TO .none) (hTI : IsTupOf2 s.heap TI (.ref i1) (.ref i2)) (hTO : IsTupOf2 s.heap TO a1 a2) (st1 : St1 i s.heap) (st2 : St2 i s.heap) (l1 : i < n1) (l2 : i < n2)
    (hQ : ∀ x1 x2 h' tk, P1 i x1 → P2 i x2 → IsZipS h' z TI TO (rawInt s.heap.objs.size) → IsTupOf2 h' TO x1 x2 → St1 (i + 1) h' → St2 (i + 1) h' → IsTupOf2 h' s.heap.objs.size x1 x2 →
      (∀ b u, b ≠ z → b ≠ TO → b ≠ i1 → b ≠ i2 → s.heap.get? b = some u → h'.get? b = some u) → Q (.ref s.heap.objs.size) { s with heap := h', toks := tk }) :
    wpAny (model prog w) A (Builtin.«zip.__next__» { pos := [.ref z] }) (fun fin s' => ∃ v, fin = .done (.ret v) ∧ Q v s') E s := by
  obtain ⟨hp, g, d, tk0, os⟩ : Shared := s
  refine (show wpAny _ _ (field (.ref z) 2 >>= _) _ _ _ from wpAny_bind (wpAny_field hz rfl (x := .bool true) rfl (show wpAny _ _ (field (.ref z) 3 >>= _) _ _ _ from wpAny_bind (wpAny_field hz rfl (x := .ref TI) rfl (wpAny_bind (wpAny_seqItems hTI rfl ?_))))))
  refine (show wpAny _ _ (Builtin.SmallTypes.ownedTupleIsFree (.ref z) >>= _) _ _ _ from wpAny_bind (wpAny_bind (wpAny_field hz rfl (x := .none) rfl (wpAny_pure ?_))))
  simp only [if_true, beq_self_eq_true]
  refine wpAny_bind (wpAny_rule (wpAny_bind (wpAny_field hz rfl (x := .ref TO) rfl (wpAny_bind (wpAny_setField_rec hz (by simp) fun g0 zz ee => wpAny_bind ?_)))))
  have z0 : IsZipS g0 z TI TO .ellipsis := zz
  have e0 : Heap.SameBut z hp g0 := ee
  simp only [List.zipIdx_cons, List.zipIdx_nil, List.forIn_cons]
  refine wpAny_bind (wpAny_bind (wpAny_onRaise (show wpAny _ _ (Builtin.SmallTypes.nextOrEnd (.ref i1)) _ _ ⟨g0, g, d, tk0, os⟩ from ?_)))
  refine drawItem D1 l1 (D1.over st1 e0 S.zf1) fun x1 g1 tk1 p1 t1 e1 => ?_
  replace e1 : Heap.SameBut i1 g0 g1 := e1
  have u1 : IsTupOf2 g1 TO a1 a2 := e1.extBut _ _ S.Ti1 (e0.extBut _ _ S.TOz hTO)
  refine wpAny_bind (wpAny_seqItems (s := ⟨g1, g, d, tk1, os⟩) u1 rfl ?_)
  refine wpAny_bind (updateSeq_IsTupOf2 (s := ⟨g1, g, d, tk1, os⟩) u1 fun g2 T2 e2 => ?_)
  replace T2 : IsTupOf2 g2 TO x1 a2 := T2
  replace e2 : Heap.SameBut TO g1 g2 := e2
  refine wpAny_bind (wpAny_letGo (wpAny_pure (wpAny_bind (wpAny_bind (wpAny_onRaise (show wpAny _ _ (Builtin.SmallTypes.nextOrEnd (.ref i2)) _ _ ⟨g2, g, d, tk1, os⟩ from ?_))))))
  refine drawItem D2 l2 (D2.over (D2.over (D2.over st2 e0 S.zf2) e1 S.sep1_2) e2 S.Tf2) fun x2 g3 tk2 p2 t2 e3 => ?_
  replace e3 : Heap.SameBut i2 g2 g3 := e3
  have u2 : IsTupOf2 g3 TO x1 a2 := e3.extBut _ _ S.Ti2 T2
  refine wpAny_bind (wpAny_seqItems (s := ⟨g3, g, d, tk2, os⟩) u2 rfl ?_)
  refine wpAny_bind (updateSeq_IsTupOf2 (s := ⟨g3, g, d, tk2, os⟩) u2 fun g4 T4 e4 => ?_)
  replace T4 : IsTupOf2 g4 TO x1 x2 := T4
  replace e4 : Heap.SameBut TO g3 g4 := e4
  refine wpAny_bind (wpAny_letGo (wpAny_pure (wpAny_pure (wpAny_bind (wpAny_seqItems (s := ⟨g4, g, d, tk2, os⟩) T4 rfl (wpAny_bind (wpAny_newTuple ?_)))))))
  have hsz : g4.objs.size = hp.objs.size := by rw [e4.1, e3.1, e2.1, e1.1, e0.1]
  have z4 : IsZipS g4 z TI TO .ellipsis := e4.extBut _ _ S.TOz.symm (e3.extBut _ _ S.zi2 (e2.extBut _ _ S.TOz.symm (e1.extBut _ _ S.zi1 z0)))
  have keep : ∀ c o, c ≠ z → c ≠ TO → c ≠ i1 → c ≠ i2 → hp.get? c = some o → g4.get? c = some o := fun c o cz cT c1 c2 e => e4.extBut _ _ cT (e3.extBut _ _ c2 (e2.extBut _ _ cT (e1.extBut _ _ c1 (e0.extBut _ _ cz e))))
  have q1 : St1 (i + 1) g4 := D1.over (D1.over (D1.over t1 e2 S.Tf1) e3 S.sep2_1) e4 S.Tf1
  have q2 : St2 (i + 1) g4 := D2.over t2 e4 S.Tf2
  have zlt : z < g4.objs.size := Heap.lt_size z4
  show wpAny _ _ (Builtin.SmallTypes.ownedTupleHandOut (.ref z) (.ref g4.objs.size) >>= _) _ _ ⟨g4.push { cls := .type "tuple", data := .seq #[x1, x2] }, g, d, tk2, os⟩
  refine wpAny_bind (wpAny_bind (show wpAny _ _ _ _ _ _ from ?_))
  have z5 : IsZipS (g4.push { cls := .type "tuple", data := .seq #[x1, x2] }) z TI TO .ellipsis := Heap.get?_push_of_some _ z4
  refine wpAny_setField_rec z5 (by simp) fun h6 z6 e6 => ?_
  replace z6 : IsZipS h6 z TI TO (rawInt g4.objs.size) := z6
  refine wpAny_setField_rec z6 (by simp) fun h7 z7 e7 => ?_
  replace z7 : IsZipS h7 z TI TO (rawInt g4.objs.size) := z7
  replace e6 : Heap.SameBut z (g4.push { cls := .type "tuple", data := .seq #[x1, x2] }) h6 := e6
  replace e7 : Heap.SameBut z h6 h7 := e7
  have up : ∀ c o, c ≠ z → g4.get? c = some o → h7.get? c = some o := fun c o c1 e => e7.extBut _ _ c1 (e6.extBut _ _ c1 (Heap.get?_push_of_some _ e))
  have T7 : IsTupOf2 h7 g4.objs.size x1 x2 := e7.extBut _ _ (Nat.ne_of_gt zlt) (e6.extBut _ _ (Nat.ne_of_gt zlt) (Heap.get?_push_size _ rfl))
  rw [hsz] at z7 T7
  refine wpAny_pure ⟨_, rfl, (show Q (.ref g4.objs.size) ⟨h7, g, d, tk2, os⟩ from ?_)⟩
  rw [hsz]
  exact hQ x1 x2 h7 tk2 p1 p2 z7 (up _ _ S.TOz T4) (D1.frame _ _ _ q1 fun b hb o e => up b o (fun q => S.zf1 (q ▸ hb)) e) (D2.frame _ _ _ q2 fun b hb o e => up b o (fun q => S.zf2 (q ▸ hb)) e) T7 fun c o cz cT c1 c2 e => up c o cz (keep c o cz cT c1 c2 e)
theorem szEnd {Q : PySem.Fin → Shared → Prop} (hh : A.handled = none) (S : ZipSep2 z TI TO i1 i2 fp1 fp2) (D1 : Draws prog w A i1 fp1 n P1 St1) (D2 : Draws prog w A i2 fp2 n P2 St2)
    (hz : IsZipS s.heap z TI TO .none) (hTI : IsTupOf2 s.heap TI (.ref i1) (.ref i2)) (hTO : IsTupOf2 s.heap TO a1 a2) (st1 : St1 n s.heap) (st2 : St2 n s.heap)
    (hE : ∀ h' tk e, (∀ b u, b ≠ z → b ≠ TO → b ≠ i1 → b ≠ i2 → s.heap.get? b = some u → h'.get? b = some u) → (∃ o, h'.get? e = some o ∧ o.cls = .type "StopIteration") → E (.ref e) { s with heap := h', toks := tk }) :
    wpAny (model prog w) A (Builtin.«zip.__next__» { pos := [.ref z] }) Q E s := by
  obtain ⟨hp, g, d, tk0, os⟩ : Shared := s
  refine (show wpAny _ _ (field (.ref z) 2 >>= _) _ _ _ from wpAny_bind (wpAny_field hz rfl (x := .bool true) rfl (show wpAny _ _ (field (.ref z) 3 >>= _) _ _ _ from wpAny_bind (wpAny_field hz rfl (x := .ref TI) rfl (wpAny_bind (wpAny_seqItems hTI rfl ?_))))))
  refine (show wpAny _ _ (Builtin.SmallTypes.ownedTupleIsFree (.ref z) >>= _) _ _ _ from wpAny_bind (wpAny_bind (wpAny_field hz rfl (x := .none) rfl (wpAny_pure ?_))))
  simp only [if_true, beq_self_eq_true]
  refine wpAny_bind (wpAny_rule (wpAny_bind (wpAny_field hz rfl (x := .ref TO) rfl (wpAny_bind (wpAny_setField_rec hz (by simp) fun g0 zz ee => wpAny_bind ?_)))))
  have z0 : IsZipS g0 z TI TO .ellipsis := zz
  have e0 : Heap.SameBut z hp g0 := ee
  simp only [List.zipIdx_cons, List.zipIdx_nil, List.forIn_cons]
  refine wpAny_bind (wpAny_bind (wpAny_onRaise (show wpAny _ _ (Builtin.SmallTypes.nextOrEnd (.ref i1)) _ _ ⟨g0, g, d, tk0, os⟩ from ?_)))
  refine drawEnd D1 (D1.over st1 e0 S.zf1) fun g1 e1 => ?_
  replace e1 : Heap.ExtBut i1 g0 g1 := e1
  have z1 : IsZipS g1 z TI TO .ellipsis := e1 _ _ S.zi1 z0
  refine wpAny_bind (wpAny_setField_rec (s := ⟨g1, g, d, tk0, os⟩) z1 (by simp) fun g2 z2 e2 => ?_)
  replace e2 : Heap.SameBut z g1 g2 := e2
  refine wpAny_bind ?_
  show wpAny _ _ (forIn (([Value.ref i1, Value.ref i2].drop 1).zipIdx 1) _ _ >>= _) _ _ ⟨g2, g, d, tk0, os⟩
  simp only [List.zipIdx_cons, List.zipIdx_nil, List.forIn_cons, List.forIn_nil, List.drop_one, List.tail_cons]
  refine wpAny_bind (wpAny_bind (wpAny_bind ?_))
  have f2 : St2 n g2 := D2.frame _ _ _ st2 fun b hb o e => e2.extBut _ _ (fun q => S.zf2 (q ▸ hb)) (e1 _ _ (fun q => S.sep1_2 (q ▸ hb)) (e0.extBut _ _ (fun q => S.zf2 (q ▸ hb)) e))
  refine drawEnd (s := ⟨g2, g, d, tk0, os⟩) D2 f2 fun g3 e3 => ?_
  replace e3 : Heap.ExtBut i2 g2 g3 := e3
  refine wpAny_pure (wpAny_pure (wpAny_bind (wpAny_rule (stopIt hh fun h' e k he => ?_))))
  exact hE h' tk0 e (fun c o cz cT c1 c2 x => k _ _ (e3 _ _ c2 (e2.extBut _ _ cz (e1 _ _ c1 (e0.extBut _ _ cz x))))) he
end
end DL

/-! text DLY4 -/
set_option Elab.async false
set_option linter.all false
set_option maxRecDepth 100000
namespace DL
open PySem PySem.Spec
open L2
open Sem (wp)
section
variable {prog : Program} {w : World} {A : Around} {E : Value → Shared → Prop} {s : Shared} {z TI TO i1 i2 : Addr} {fp1 fp2 : List Addr} {n i : Nat} {P1 P2 : Nat → Value → Prop} {St1 St2 : Nat → Heap → Prop} {a1 a2 : Value}
theorem szGo {elts : List Expr} {x1} {pos : Pos} {T : Addr} {Q : Unit → Shared → Prop} (hz : IsZipS s.heap z TI TO (rawInt T)) (hQ : ∀ h', IsZipS h' z TI TO .none → Heap.SameBut z s.heap h' → Q () { s with heap := h' }) :
    wpAny (model prog w) A (letOwnedTupleGo (.Tuple elts x1 pos) (.ref z) (Value.ref T)) Q E s := by
  unfold letOwnedTupleGo
  refine wpAny_bind (wpAny_load hz (show wpAny _ _ (ite _ _ _) Q E s from ?_))
  rw [if_pos (by simp)]
  exact wpAny_bind (wpAny_rule (wpAny_setField_rec hz (by simp) fun h2 z2 same => hQ h2 z2 same))
theorem szType {f0 : Value} (hz : IsZipS s.heap z TI TO f0) : s.TypeIs (.ref z) "zip" := ⟨_, hz, rfl⟩
theorem szIter {f0 : Value} {Q : Value → Shared → Prop} (hz : IsZipS s.heap z TI TO f0) (h : Q (.ref z) s) : wpAny (model prog w) A (pyIter (.ref z)) Q E s :=
  wpAny_pyIter_slot (szType hz) F.slot_zip_iter (wpAny_call_entry F.slot_zip_iter (szType hz) F.entry_zip_iter (show wpAny _ _ (ret (.ref z)) _ _ s from wpAny_pure ⟨_, rfl, "zip", _, szType hz, F.slot_zip_next.lookup, h⟩) (F.args_zip_iter_1 _))
theorem szMem {b : Addr} {P : Addr → Prop} (h : b ∉ [z, TO, i1, i2]) (k : b ≠ z → b ≠ TO → b ≠ i1 → b ≠ i2 → P b) : P b :=
  k (fun e => h (by simp [e])) (fun e => h (by simp [e])) (fun e => h (by simp [e])) (fun e => h (by simp [e]))
/-- zip strict over two of one length -/
theorem walkS (hh : A.handled = none) (S : ZipSep2 z TI TO i1 i2 fp1 fp2) (D1 : Draws prog w A.in1 i1 fp1 n P1 St1) (D2 : Draws prog w A.in1 i2 fp2 n P2 St2) :
    WalksT prog w A z (z :: TI :: TO :: (fp1 ++ fp2)) [z, TO, i1, i2] n (fun i vals => ∃ x1 x2, P1 i x1 ∧ P2 i x2 ∧ vals = #[x1, x2])
      (fun i h => IsZipS h z TI TO .none ∧ IsTupOf2 h TI (.ref i1) (.ref i2) ∧ (∃ a1 a2, IsTupOf2 h TO a1 a2) ∧ St1 i h ∧ St2 i h)
      (fun i T h => IsZipS h z TI TO (rawInt T) ∧ IsTupOf2 h TI (.ref i1) (.ref i2) ∧ (∃ a1 a2, IsTupOf2 h TO a1 a2) ∧ St1 (i + 1) h ∧ St2 (i + 1) h ∧ T ≠ z ∧ T ≠ TO ∧ T ≠ i1 ∧ T ≠ i2) where
  sub := fun c hc => by
    have m1 := S.mem1
    have m2 := S.mem2
    simp only [List.mem_cons, List.not_mem_nil, or_false] at hc
    rcases hc with rfl | rfl | rfl | rfl <;> simp [m1, m2]
  frame := fun i h h' ⟨hz, hI, ⟨a1, a2, hO⟩, t1, t2⟩ k => ⟨k z (by simp) _ hz, k TI (by simp) _ hI, ⟨a1, a2, k TO (by simp) _ hO⟩,
      D1.frame _ _ _ t1 fun b hb o e => k b (by simp [hb]) o e, D2.frame _ _ _ t2 fun b hb o e => k b (by simp [hb]) o e⟩
  item := fun i s Q E hi ⟨hz, hI, ⟨a1, a2, hO⟩, t1, t2⟩ hQ => by
    have hT := szType hz
    have lt : ∀ {b u}, s.heap.get? b = some u → s.heap.objs.size ≠ b := fun e => (Nat.ne_of_lt (Heap.lt_size e)).symm
    have l1 : s.heap.objs.size ≠ i1 := by obtain ⟨_, e⟩ := D1.live _ _ t1; exact lt e
    have l2 : s.heap.objs.size ≠ i2 := by obtain ⟨_, e⟩ := D2.live _ _ t2; exact lt e
    unfold pyNext
    refine wpAny_bind (wpAny_attempt (wpAny_callSpecial?_slot (name := Str.ofString "__next__") hT F.slot_zip_next (wpAny_call_entry F.slot_zip_next hT F.entry_zip_next (szItem S D1 D2 hz hI hO t1 t2 hi hi fun x1 x2 h' tk p1 p2 z' T' q1 q2 nT k => ?_) (F.args_zip_next_1 _))))
    exact wpAny_pure (hQ s.heap.objs.size #[x1, x2] h' tk ⟨x1, x2, p1, p2, rfl⟩ (Nat.le_refl _) ⟨_, nT, rfl, _, rfl⟩ ⟨z', k _ _ S.TIz S.TITO S.TIi1 S.TIi2 hI, ⟨_, _, T'⟩, q1, q2, lt hz, lt hO, l1, l2⟩
      fun c o hc e => szMem (P := fun c => s.heap.get? c = some o → h'.get? c = some o) hc (fun n1 n2 n3 n4 e => k c o n1 n2 n3 n4 e) e)
  go := fun elts kk pos i T s Q E ⟨hz, hI, ⟨a1, a2, hO⟩, t1, t2, _⟩ hQ => by
    exact szGo hz fun h' hz' e => hQ h' ⟨hz', e.extBut _ _ S.TIz hI, ⟨a1, a2, e.extBut _ _ S.TOz hO⟩, D1.over t1 e S.zf1, D2.over t2 e S.zf2⟩ fun c o hc x => e.extBut _ _ (fun q => hc (by simp [q])) x
  apart := fun i T h ⟨_, _, _, _, _, n1, n2, n3, n4⟩ hT => by
    simp only [List.mem_cons, List.not_mem_nil, or_false] at hT
    rcases hT with e | e | e | e
    · exact n1 e
    · exact n2 e
    · exact n3 e
    · exact n4 e
  done := fun s Q E ⟨hz, hI, ⟨a1, a2, hO⟩, t1, t2⟩ hQ => by
    have hT := szType hz
    unfold pyNext
    refine wpAny_bind (wpAny_attempt (wpAny_callSpecial?_slot (name := Str.ofString "__next__") hT F.slot_zip_next (wpAny_call_entry F.slot_zip_next hT F.entry_zip_next (szEnd hh S D1 D2 hz hI hO t1 t2 fun h' tk e k he => ?_) (F.args_zip_next_1 _))))
    refine wpAny_bind (wpAny_isInstance (T := "StopIteration") (b := true) he isSubtype_stop (wpAny_pure ?_))
    exact (hQ _ _ fun c o hc e => szMem (P := fun c => s.heap.get? c = some o → h'.get? c = some o) hc (fun n1 n2 n3 n4 e => k c o n1 n2 n3 n4 e) e)
  self := fun i s Q E ⟨hz, _⟩ hQ => szIter hz hQ
end
end DL

/-! text DLY5 -/
set_option Elab.async false
set_option linter.all false
set_option maxRecDepth 100000
namespace DL
open PySem PySem.Spec
open L2

/-! ### the turns of zip -/
def skPair (S1 S2 : Sk) (i : Nat) (vs : List V) : Prop := ∃ x y, vs = [x, y] ∧ S1.at_ i x ∧ S2.at_ i y
def zipFp (N : Nat) : List Addr := [N + 4, N + 2, N + 3, N, N + 1]
theorem pairVals {S1 S2 : Sk} {i : Nat} {P1 P2 : Nat → Value → Prop} {vals : Array Value} (k1 : ∀ u, P1 i u → ∃ v, S1.at_ i v ∧ RelV v u) (k2 : ∀ u, P2 i u → ∃ v, S2.at_ i v ∧ RelV v u) (h : ∃ x1 x2, P1 i x1 ∧ P2 i x2 ∧ vals = #[x1, x2]) :
    ∃ vs, skPair S1 S2 i vs ∧ Vals vs vals.toList ∧ vs.length ≤ sizeLine := by
  obtain ⟨x1, x2, p1, p2, rfl⟩ := h
  obtain ⟨v1, a1, r1⟩ := k1 _ p1
  obtain ⟨v2, a2, r2⟩ := k2 _ p2
  exact ⟨[v1, v2], ⟨v1, v2, rfl, a1, a2⟩, .cons r1 (.cons r2 .nil), by show 2 ≤ sizeLine; decide⟩
theorem sepOf {X : Cx} {pins : List (Addr × Obj)} {H : Hp} {N : Nat} {fp1 fp2 : List Addr} (hf : ∀ b ∈ zipFp N, FpOk X pins H b) (m1 : N ∈ fp1) (m2 : N + 1 ∈ fp2) (k1 : ∀ b, FpOk X pins H b → b ≠ N → b ∉ fp1) (k2 : ∀ b, FpOk X pins H b → b ≠ N + 1 → b ∉ fp2) :
    ZipSep2 (N + 4) (N + 2) (N + 3) N (N + 1) fp1 fp2 where
  TIz := show (N + 2 : Nat) ≠ N + 4 by omega
  TOz := show (N + 3 : Nat) ≠ N + 4 by omega
  TITO := show (N + 2 : Nat) ≠ N + 3 by omega
  TIi1 := show (N + 2 : Nat) ≠ N by omega
  mem1 := m1
  zf1 := k1 _ (hf _ (by simp [zipFp])) (show (N + 4 : Nat) ≠ N by omega)
  Tf1 := k1 _ (hf _ (by simp [zipFp])) (show (N + 3 : Nat) ≠ N by omega)
  TIi2 := show (N + 2 : Nat) ≠ N + 1 by omega
  mem2 := m2
  zf2 := k2 _ (hf _ (by simp [zipFp])) (show (N + 4 : Nat) ≠ N + 1 by omega)
  Tf2 := k2 _ (hf _ (by simp [zipFp])) (show (N + 3 : Nat) ≠ N + 1 by omega)
  sep1_2 := k2 _ (hf _ (by simp [zipFp])) (show (N : Nat) ≠ N + 1 by omega)
  sep2_1 := k1 _ (hf _ (by simp [zipFp])) (show (N + 1 : Nat) ≠ N by omega)
theorem wrIn {N : Nat} {b : Addr} (h : b ∈ [N + 4, N + 3, N, N + 1]) : b ∈ zipFp N := by
  simp only [List.mem_cons, List.not_mem_nil, or_false] at h
  rcases h with e | e | e | e <;> simp [zipFp, e]
section
variable {P : Program} {w : World} {K : PySem.W.Frag} {elts : List Expr} {kk : Nat} {tpos : Pos}
def tnZ (S1 S2 : Sk) (N : Nat) (Z : Heap → Prop) : Nat → Heap → Prop := fun i h => Z h ∧ IsTupOf2 h (N + 2) (.ref N) (.ref (N + 1)) ∧ (∃ a1 a2, IsTupOf2 h (N + 3) a1 a2) ∧ S1.core N i h ∧ S2.core (N + 1) i h
theorem tnZ_obj {S1 S2 : Sk} {N : Nat} {Z : Heap → Prop} (hZ : ∀ h, Z h → ∃ o, h.get? (N + 4) = some o ∧ ∀ v, o.data ≠ .cell v) (i : Nat) (h : Heap) (t : tnZ S1 S2 N Z i h) (b : Addr) (hb : b ∈ zipFp N) : ∃ o, h.get? b = some o ∧ ∀ v, o.data ≠ .cell v := by
  obtain ⟨z, hI, ⟨a1, a2, hO⟩, c1, c2⟩ := t
  simp only [zipFp, List.mem_cons, List.not_mem_nil, or_false] at hb
  rcases hb with e | e | e | e | e
  · rw [e]; exact hZ h z
  · rw [e]; exact ⟨_, hI, fun v q => nomatch q⟩
  · rw [e]; exact ⟨_, hO, fun v q => nomatch q⟩
  · rw [e]; exact Sk.core_obj c1
  · rw [e]; exact Sk.core_obj c2
theorem tnZ_keep {S1 S2 : Sk} {N : Nat} {Z : Heap → Prop} (hZ : ∀ h h', Z h → (∀ o, h.get? (N + 4) = some o → h'.get? (N + 4) = some o) → Z h') (i : Nat) (h h' : Heap) (t : tnZ S1 S2 N Z i h) (k : ∀ b ∈ zipFp N, ∀ o, h.get? b = some o → h'.get? b = some o) : tnZ S1 S2 N Z i h' := by
  obtain ⟨z, hI, ⟨a1, a2, hO⟩, c1, c2⟩ := t
  exact ⟨hZ h h' z (k _ (by simp [zipFp])), k _ (by simp [zipFp]) _ hI, ⟨a1, a2, k _ (by simp [zipFp]) _ hO⟩, Sk.core_keep c1 (k _ (by simp [zipFp])), Sk.core_keep c2 (k _ (by simp [zipFp]))⟩
theorem turnZ (S1 S2 : Sk) (N : Nat) : Turn P w K (.Tuple elts kk tpos) (Jt (min S1.n S2.n) (fun H => S1.side K H ∧ S2.side K H) (skPair S1 S2)) (zipFp N) (N + 4) (tnZ S1 S2 N fun h => IsZip h (N + 4) (N + 2) (N + 3) .none) := by
  refine turn_walk (by simp [zipFp]) (tnZ_obj fun h z => ⟨_, z, fun v q => nomatch q⟩) (tnZ_keep fun h h' z k => k _ z) (fun A i s Q E t h => wpAny_pyIter_zip t.1 h) fun X hP hw hK hc pins s σ H I hf sd i t => ?_
  subst hP hw hK
  obtain ⟨z, hI, hO, c1, c2⟩ := t
  obtain ⟨fp1, P1, St1, D1, t1, b1, v1, m1, f1⟩ := S1.draws (A := X.A.in1) I (I.ok.hd hc) sd.1 (hf N (by simp [zipFp])) c1
  obtain ⟨fp2, P2, St2, D2, t2, b2, v2, m2, f2⟩ := S2.draws (A := X.A.in1) I (I.ok.hd hc) sd.2 (hf (N + 1) (by simp [zipFp])) c2
  exact ⟨_, _, _, _, _, WalksT.zipD2 (sepOf hf m1 m2 f1 f2) D1 D2, ⟨z, hI, hO, t1, t2⟩, fun b hb => wrIn hb, fun j h ⟨z, hI, hO, q1, q2⟩ => ⟨z, hI, hO, b1 _ _ q1, b2 _ _ q2⟩, fun j vals h => pairVals (v1 j) (v2 j) h⟩
theorem turnZS (S1 S2 : Sk) (hn : S1.n = S2.n) (N : Nat) : Turn P w K (.Tuple elts kk tpos) (Jt (min S1.n S2.n) (fun H => S1.side K H ∧ S2.side K H) (skPair S1 S2)) (zipFp N) (N + 4) (tnZ S1 S2 N fun h => IsZipS h (N + 4) (N + 2) (N + 3) .none) := by
  refine turn_walk (by simp [zipFp]) (tnZ_obj fun h z => ⟨_, z, fun v q => nomatch q⟩) (tnZ_keep fun h h' z k => k _ z) (fun A i s Q E t h => szIter t.1 h) fun X hP hw hK hc pins s σ H I hf sd i t => ?_
  subst hP hw hK
  obtain ⟨z, hI, hO, c1, c2⟩ := t
  obtain ⟨fp1, P1, St1, D1, t1, b1, v1, m1, f1⟩ := S1.draws (A := X.A.in1) I (I.ok.hd hc) sd.1 (hf N (by simp [zipFp])) c1
  obtain ⟨fp2, P2, St2, D2, t2, b2, v2, m2, f2⟩ := S2.draws (A := X.A.in1) I (I.ok.hd hc) sd.2 (hf (N + 1) (by simp [zipFp])) c2
  rw [← hn] at D2
  have e : min S1.n S2.n = S1.n := by omega
  rw [e]
  exact ⟨_, _, _, _, _, walkS (I.ok.hd hc) (sepOf hf m1 m2 f1 f2) D1 D2, ⟨z, hI, hO, t1, t2⟩, fun b hb => wrIn hb, fun j h ⟨z, hI, hO, q1, q2⟩ => ⟨z, hI, hO, b1 _ _ q1, b2 _ _ q2⟩, fun j vals h => pairVals (v1 j) (v2 j) h⟩
end
/-- how drawing begins -/
def Sk.obj0 (u : Value) : Sk → Obj
  | .lst _ _ => { cls := .type "list_iterator", data := .fields #[u, .int 0 0] }
  | .tup _ _ => { cls := .type "tuple_iterator", data := .fields #[u, .int 0 0] }
  | .txt x => { cls := .type (strIterType x), data := .fields #[u, .int 0 0] }
theorem Sk.begins {X : Cx} {pins : List (Addr × Obj)} {σ : L2.St} {H : Hp} {s : Shared} (I : Inv X pins σ H s) (S : Sk) (sd : S.side X.K H) {u : Value} (r : RelV S.v u) :
    ∃ Hd, Begins u (S.obj0 u) Hd ∧ Hd s.heap ∧ ∀ (it : Addr) h', h'.get? it = some (S.obj0 u) → S.core it 0 h' := by
  cases S with
  | lst a vs =>
    obtain rfl : u = .ref a := r
    obtain ⟨its, rv, p, hz⟩ := I.list sd
    exact ⟨_, begins_list a its.toArray, p.isList, fun it h' e => ⟨_, e, rfl, rfl⟩⟩
  | tup a vs =>
    obtain rfl : u = .ref a := r
    obtain ⟨its, rv, p, hz⟩ := I.tuple sd
    exact ⟨_, begins_tuple a its.toArray, p, fun it h' e => ⟨_, e, rfl, rfl⟩⟩
  | txt x =>
    obtain ⟨t, rfl⟩ := r
    exact ⟨_, begins_text x t, trivial, fun it h' e => ⟨t, _, e, rfl, rfl⟩⟩
theorem freshFp {X : Cx} {pins : List (Addr × Obj)} {σ : L2.St} {H : Hp} {s : Shared} (I : Inv X pins σ H s) : ∀ b ∈ zipFp s.heap.objs.size, FpOk X pins H b := fun b hb => by
  have hle : s.heap.objs.size ≤ b := by
    simp only [zipFp, List.mem_cons, List.not_mem_nil, or_false] at hb
    rcases hb with e | e | e | e | e
    · rw [e]; exact Nat.le_add_right _ _
    · rw [e]; exact Nat.le_add_right _ _
    · rw [e]; exact Nat.le_add_right _ _
    · rw [e]; exact Nat.le_refl _
    · rw [e]; exact Nat.le_add_right _ _
  exact I.fpOk hle (I.hok.fresh hle)
def iZ (K : PySem.W.Frag) (st : Bool) (ta : TA) : TI := fun σ H R => ta σ H fun vs H1 => ∃ S1 S2 : Sk, vs = [S1.v, S2.v] ∧ S1.side K H1 ∧ S2.side K H1 ∧ (st = true → S1.n = S2.n) ∧ R (Jt (min S1.n S2.n) (fun H => S1.side K H ∧ S2.side K H) (skPair S1 S2)) H1
theorem pi_zipN {X : Cx} {e e2 : Expr} {elts : List Expr} {kk : Nat} {ta : TA} {tpos p pos : Pos} (hm : X.mg "zip" = none) (hg : Gl X "zip") (ha : PA X [e, e2] ta)
    (hpl : (backTo pos (starEach [e2] X.env)).any (·.1) = false := by rfl) (hs : starEach [e, e2] X.env = (false, eval e X.env) :: starEach [e2] X.env := by rfl) :
    PI X (.Tuple elts kk tpos) (.Call (.Name "zip" p) [e, e2] [] pos) (iZ X.K false ta) := by
  refine ⟨fun pins s σ H R I h => PyProof.Rows.Call_ (ld_blt I hg hm PyProof.Rows.boot_zip (PyProof.Rows.callWith_type1 (thn (ha.run pos pins s σ H _ I h) fun us s1 ⟨vs, H1, I1, r1, q1⟩ => ?_) hs hpl))⟩
  obtain ⟨S1, S2, rfl, d1, d2, _, q⟩ := q1
  cases r1 with
  | cons r rr =>
    cases rr with
    | cons r' rr =>
      cases rr
      obtain ⟨_, B1, b1, k1⟩ := S1.begins I1 d1 r
      obtain ⟨_, B2, b2, k2⟩ := S2.begins I1 d2 r'
      refine zip_begins2 B1 B2 b1 b2 fun h' hz hI hO h1 h2 _ hk => wpAny_pyIter_zip hz ?_
      exact ⟨s1.heap.objs.size + 4, zipFp s1.heap.objs.size, _, _, H1, rfl, I1.kept (t' := s1.toks) hk, turnZ S1 S2 _, ⟨hz, hI, ⟨_, _, hO⟩, k1 _ _ h1, k2 _ _ h2⟩, freshFp I1, q⟩
/-- a built-in class called with keywords: its arguments, then the keywords' values -/
theorem kwType {M : Model} {A : Around} {Y : Value → Shared → Prop} {t : Shared} {env : Env} {at_ : Pos} {T : String} {e : Expr} {es : List Expr} {ks : List Keyword} {Q : Value → Shared → Prop}
    (h : wpAny M A (spliced (backTo at_ (starEach (e :: es) env))) (fun vs t₁ => wpAny M A (evalAll ((backToKw at_ (keywordEach ks env)).map (·.2))) (fun us t₂ => wpAny M A (call (.type T) vs (((backToKw at_ (keywordEach ks env)).filterMap (·.1)).zip us)) Q Y t₂) Y t₁) Y t)
    (first : backTo at_ (starEach (e :: es) env) = (false, eval e env) :: backTo at_ (starEach es env) := by rfl) (plain : (backTo at_ (starEach (e :: es) env)).any (·.1) = false := by rfl)
    (named : (backToKw at_ (keywordEach ks env)).all (·.1.isSome) = true := by rfl) (noStars : (backToKw at_ (keywordEach ks env)).any (·.1.isNone) = false := by rfl) :
    wpAny M A (callWith at_ (.type T) [] (backTo at_ (starEach (e :: es) env)) (backToKw at_ (keywordEach ks env))) Q Y t := by
  rw [first] at h plain ⊢
  have bring : ∀ {z : Value} {t₃ : Shared}, Q z t₃ → Q z t₃ := id
  unfold callWith
  refine wpAny_bind (wpAny_holding (PyProof.Rows.evalArgs_kwB named (wpAny_mono h (fun vs t₁ got => wpAny_mono got (fun us t₂ fin => wpAny_bind (wpAny_standAt ?_)) fun _ _ => id) fun _ _ => id)))
  rw [plain, noStars]
  exact wpAny_bind (wpAny_pure (wpAny_bind (wpAny_mono fin (fun z t₃ w => wpAny_bind (wpAny_holding (wpAny_point (wpAny_pure (bring w))))) fun _ _ => id)))
end DL

/-! text DLY6 -/
set_option Elab.async false
set_option linter.all false
set_option maxRecDepth 100000
namespace DL
open PySem PySem.Spec
open L2
theorem pi_zipS {X : Cx} {e e2 c : Expr} {ta : TA} {p pos tpos kp : Pos} {elts : List Expr} {kk : Nat} (hg : Gl X "zip") (hm : X.mg "zip" = none) (ha : PA X [e, e2] ta) (hk : PE X c (tC (.bl true)))
    (he : backTo pos (starEach [e, e2] X.env) = (false, eval e X.env) :: backTo pos (starEach [e2] X.env) := by rfl) (hpl : (backTo pos (starEach [e, e2] X.env)).any (·.1) = false := by rfl)
    (hall : (backToKw pos (keywordEach [⟨some "strict", c, kp⟩] X.env)).all (·.1.isSome) = true := by rfl) (hkw : (backToKw pos (keywordEach [⟨some "strict", c, kp⟩] X.env)).any (·.1.isNone) = false := by rfl)
    (hks : (backToKw pos (keywordEach [⟨some "strict", c, kp⟩] X.env)).filterMap (·.1) = [Str.ofString "strict"] := by rfl) :
    PI X (.Tuple elts kk tpos) (.Call (.Name "zip" p) [e, e2] [⟨some "strict", c, kp⟩] pos) (iZ X.K true ta) := by
  refine ⟨fun pins s σ H R I h => wpAny_Call_Name_kw (ld_blt I hg hm PyProof.Rows.boot_zip (kwType (thn (ha.run pos pins s σ H _ I h) fun us s1 ⟨vs, H1, I1, r1, q1⟩ => ?_) he hpl hall hkw))⟩
  refine thn ((pk_cons (nm := some "strict") (kpos := kp) hk pk_nil).run pos pins s1 σ H1 (fun vs' H2 => vs' = [.bl true] ∧ H2 = H1) I1 ⟨rfl, rfl⟩) fun ws s2 ⟨zs, H2, I2, r2, q2⟩ => ?_
  obtain ⟨rfl, rfl⟩ := q2
  rw [hks]
  obtain ⟨S1, S2, rfl, d1, d2, hn, q⟩ := q1
  cases r2 with
  | cons rb r2 =>
    cases r2
    cases rb
    cases r1 with
    | cons r rr =>
      cases rr with
      | cons r' rr =>
        cases rr
        obtain ⟨_, B1, b1, k1⟩ := S1.begins I2 d1 r
        obtain ⟨_, B2, b2, k2⟩ := S2.begins I2 d2 r'
        refine szBegins B1 B2 b1 b2 fun h' hz hI hO h1 h2 hk => szIter hz ?_
        exact ⟨s2.heap.objs.size + 4, zipFp s2.heap.objs.size, _, _, H2, rfl, I2.kept (t' := s2.toks) hk, turnZS S1 S2 (hn rfl) _, ⟨hz, hI, ⟨_, _, hO⟩, k1 _ _ h1, k2 _ _ h2⟩, freshFp I2, q⟩

/-! ### over data -/
theorem srcOf {g : Gd} {F : Hp} {v : V} {d : D} {ds : List D} (r : Rep g.K F v d) (e : itemsD d = some ds) : ∃ S : Sk, S.v = v ∧ S.side g.K F ∧ S.n = ds.length ∧ ∀ i x, S.at_ i x → ∃ y, ds[i]? = some y ∧ Rep g.K F x y := by
  cases r with
  | lst h rs => cases e; exact ⟨.lst _ _, rfl, .of h, rs.length, fun i x hx => rs.getV hx⟩
  | scr h =>
    rename_i a ns
    cases e
    have rr : Reps g.K F (ns.map V.int) (ns.map fun n => D.sc (.int n)) := by
      rw [show (fun n => D.sc (.int n)) = D.sc ∘ V.int from rfl, ← List.map_map]; exact Reps.scs _
    exact ⟨.lst _ _, rfl, h, rr.length, fun i x hx => rr.getV hx⟩
  | tup h rs => cases e; exact ⟨.tup _ _, rfl, h, rs.length, fun i x hx => rs.getV hx⟩
  | dic h rs => cases e
  | sc v =>
    cases v with
    | str z =>
      cases e
      refine ⟨.txt z, rfl, trivial, by show z.cps.size = _; simp, fun i x ⟨c, hc, hx⟩ => ⟨.sc (.str (sign c)), ?_, by rw [hx]; exact .sc _⟩⟩
      rw [List.getElem?_map, Array.getElem?_toList, hc]
      rfl
    | _ => cases e
theorem Sk.sub {S : Sk} {K : PySem.W.Frag} {F H : Hp} (s : Sub F H) (h : S.side K F) : S.side K H := by
  cases S with
  | lst a vs => exact Sub.sqL s h
  | tup a vs => exact Sub.sqT s h
  | txt x => trivial
theorem yieldsJt {g : Gd} {F0 : Hp} {n : Nat} {side : Hp → Prop} {At : Nat → List V → Prop} {ds : List D} (hn : ds.length = n) (hs : ∀ H, Sub F0 H → side H) (h : ∀ i vs, i < n → At i vs → ∃ es, ds[i]? = some (.tup es) ∧ Reps g.K F0 vs es) : Yields g (Jt n side At) ds F0 := fun F H s1 s2 i => by
  refine ⟨fun hi => ⟨by omega, hs H (s1.trans s2)⟩, fun hi => ⟨by omega, hs H (s1.trans s2)⟩, fun x H' d O σ δ hd hy r => ?_⟩
  obtain ⟨T, vs, rfl, hT, rfl, ha⟩ := hy
  have hi : i < n := by rw [← hn]; exact (List.getElem?_eq_some_iff.mp hd).1
  obtain ⟨es, e1, e2⟩ := h i vs hi ha
  rw [hd] at e1
  cases e1
  exact r.newT hT (e2.sub s1)
def zipD : List D → List D → List D
  | x :: xs, y :: ys => .tup [x, y] :: zipD xs ys
  | _, _ => []
theorem zipD_len : ∀ xs ys : List D, (zipD xs ys).length = min xs.length ys.length
  | [], _ => by simp [zipD]
  | x :: xs, [] => by simp [zipD]
  | x :: xs, y :: ys => by simp [zipD, zipD_len xs ys, Nat.add_min_add_right]
theorem zipD_get : ∀ {xs ys : List D} {i : Nat} {x y : D}, xs[i]? = some x → ys[i]? = some y → (zipD xs ys)[i]? = some (.tup [x, y])
  | [], _, _, _, _, w, _ => by simp at w
  | x :: xs, [], _, _, _, _, h => by simp at h
  | x :: xs, y :: ys, 0, _, _, h, h' => by
    simp at h h'
    subst h h'
    rfl
  | x :: xs, y :: ys, i + 1, _, _, h, h' => by
    simp at h h'
    show (zipD xs ys)[i]? = _
    exact zipD_get (xs := xs) (ys := ys) h h'
def dZip (st : Bool) (tA : DTA) : DTI := fun δ Q Y => tA δ (fun ws δ1 => ∃ d1 d2, pures ws = some [d1, d2] ∧ ∃ ds1, itemsD d1 = some ds1 ∧ ∃ ds2, itemsD d2 = some ds2 ∧ (st = true → ds1.length = ds2.length) ∧ Q (zipD ds1 ds2) δ1) Y
section
variable {X : Cx} {g : Gd} {Wx : WX} {e e2 c : Expr} {tA : DTA} {p pos tpos kp : Pos} {elts : List Expr} {kk : Nat} {st : Bool}
theorem dZip_mono (ha : MonoA tA) : MonoI (dZip st tA) := fun δ Q Q' Y Y' hQ hY h => ha _ _ _ _ _ (fun w δ1 ⟨d1, d2, e1, ds1, e2, ds2, e3, hn, q⟩ => ⟨d1, d2, e1, ds1, e2, ds2, e3, hn, hQ _ _ q⟩) hY h
theorem zipCan (gK : g.K = X.K) (ha : MonoA tA) (σ : L2.St) (H : Hp) (Q : It → Hp → Prop) : canI g Wx (dZip st tA) σ H Q → iZ X.K st (canA g Wx tA) σ H Q := by
  rintro ⟨F, O, δ, r, q⟩
  refine ⟨F, O, δ, r, ha _ _ _ _ _ (fun ws δ1 q vs F1 H1 O1 s1 r1 x1 => ?_) (fun _ _ z => z) q⟩
  obtain ⟨d1, d2, e1, ds1, e2, ds2, e3, hn, q⟩ := q
  have rs := pures_reps x1 e1
  rw [← gK]
  cases rs with
  | cons ra rs =>
    cases rs with
    | cons rb rs =>
      cases rs
      obtain ⟨S1, v1, sd1, n1, a1⟩ := srcOf ra e2
      obtain ⟨S2, v2, sd2, n2, a2⟩ := srcOf rb e3
      refine ⟨S1, S2, by rw [v1, v2], Sk.sub r1.sub sd1, Sk.sub r1.sub sd2, fun h => by rw [n1, n2]; exact hn h, q _ F1 H1 O1 s1 r1 (yieldsJt (by rw [zipD_len, n1, n2]) (fun H s => ⟨Sk.sub s sd1, Sk.sub s sd2⟩) fun i vs hi h => ?_)⟩
      obtain ⟨x, y, rfl, h1, h2⟩ := h
      obtain ⟨dx, g1, k1⟩ := a1 i x h1
      obtain ⟨dy, g2, k2⟩ := a2 i y h2
      exact ⟨[dx, dy], zipD_get g1 g2, .cons k1 (.cons k2 .nil)⟩
theorem di_zip (gK : g.K = X.K) (hg : Gl X "zip") (hm : X.mg "zip" = none) (ha : DA X g Wx [e, e2] tA) (hs : starEach [e, e2] X.env = (false, eval e X.env) :: starEach [e2] X.env := by rfl) (hpl : (backTo pos (starEach [e2] X.env)).any (·.1) = false := by rfl) :
    DI X g Wx (.Tuple elts kk tpos) (.Call (.Name "zip" p) [e, e2] [] pos) (dZip false tA) :=
  ⟨dZip_mono ha.mono, piMono (pi_zipN hm hg ha.pa hpl hs) (zipCan gK ha.mono)⟩
theorem di_zipS (gK : g.K = X.K) (hg : Gl X "zip") (hm : X.mg "zip" = none) (ha : DA X g Wx [e, e2] tA) (hk : PE X c (tC (.bl true)))
    (he : backTo pos (starEach [e, e2] X.env) = (false, eval e X.env) :: backTo pos (starEach [e2] X.env) := by rfl) (hpl : (backTo pos (starEach [e, e2] X.env)).any (·.1) = false := by rfl)
    (hall : (backToKw pos (keywordEach [⟨some "strict", c, kp⟩] X.env)).all (·.1.isSome) = true := by rfl) (hkw : (backToKw pos (keywordEach [⟨some "strict", c, kp⟩] X.env)).any (·.1.isNone) = false := by rfl)
    (hks : (backToKw pos (keywordEach [⟨some "strict", c, kp⟩] X.env)).filterMap (·.1) = [Str.ofString "strict"] := by rfl) :
    DI X g Wx (.Tuple elts kk tpos) (.Call (.Name "zip" p) [e, e2] [⟨some "strict", c, kp⟩] pos) (dZip true tA) :=
  ⟨dZip_mono ha.mono, piMono (pi_zipS hg hm ha.pa hk he hpl hall hkw hks) (zipCan gK ha.mono)⟩
end

/-! ### enumerate -/
def tnE (S : Sk) (k0 : Int) (N : Nat) : Nat → Heap → Prop := fun i h => (∃ old, IsEnum h (N + 1) N (k0 + (i : Int)) old) ∧ S.core N i h
theorem turnE {P : Program} {w : World} {K : PySem.W.Frag} {elts : List Expr} {kk : Nat} {tpos : Pos} (S : Sk) (k0 : Int) (N : Nat) :
    Turn P w K (.Tuple elts kk tpos) (Jt S.n (S.side K) fun i vs => ∃ x, vs = [.int (k0 + (i : Int)), x] ∧ S.at_ i x) [N + 1, N] (N + 1) (tnE S k0 N) := by
  refine turn_walk (by simp) (fun i h t b hb => ?_) (fun i h h' t k => ?_) (fun A i s Q E t h => ?_) fun X hP hw hK hc pins s σ H I hf sd i t => ?_
  · obtain ⟨⟨old, he⟩, c⟩ := t
    rw [List.mem_cons, List.mem_singleton] at hb
    rcases hb with e | e
    · rw [e]; exact ⟨_, he, fun v q => nomatch q⟩
    · rw [e]; exact Sk.core_obj c
  · obtain ⟨⟨old, he⟩, c⟩ := t
    exact ⟨⟨old, k _ (by simp) _ he⟩, Sk.core_keep c (k _ (by simp))⟩
  · obtain ⟨⟨old, he⟩, c⟩ := t
    exact wpAny_pyIter_enum he h
  · subst hP hw hK
    obtain ⟨he, c⟩ := t
    obtain ⟨fp1, P1, St1, D1, t1, b1, v1, m1, f1⟩ := S.draws (A := X.A.in1) I (I.ok.hd hc) sd (hf N (by simp)) c
    refine ⟨_, _, _, _, _, WalksT.enumFrom k0 D1 (N + 1) (show (N + 1 : Nat) ≠ N by omega) (f1 _ (hf _ (by simp)) (show (N + 1 : Nat) ≠ N by omega)) m1, ⟨he, t1⟩, fun b hb => hb, fun j h ⟨z, q⟩ => ⟨z, b1 _ _ q⟩, fun j vals h => ?_⟩
    obtain ⟨t, x, hx, rfl⟩ := h
    obtain ⟨v, a, r⟩ := v1 j x hx
    exact ⟨[.int (k0 + (j : Int)), v], ⟨v, rfl, a⟩, .cons ⟨t, rfl⟩ (.cons r .nil), by show 2 ≤ sizeLine; decide⟩

theorem enNew {v : Value} {o : Obj} {H : Heap → Prop} (B : Begins v o H) :
    Meets (Builtin.«enumerate.__new__» ⟨[.type "enumerate", v], []⟩) (fun _ R s => H s.heap ∧
      R (.ok (.ret (.ref (s.heap.push o).objs.size))) { s with heap := (s.heap.push o).push { cls := .type "enumerate", data := .fields #[.none, .bool false, .ref s.heap.objs.size, rawInt 0, .none, .none] } }) :=
  .of_wp fun prog w A R ⟨hp, g, d, tk, os⟩ ⟨beg, wish⟩ => by
    have hsub := sub_enumerate
    have fresh : ∀ {A' : Around} {Y Q : Value → Shared → Prop}, Q (.ref hp.objs.size) ⟨hp.push o, g, d, tk, os⟩ → wpAny (model prog w) A' (pyIter v) Q Y ⟨hp, g, d, tk, os⟩ := B.iter prog w _ _ ⟨hp, g, d, tk, os⟩ _ beg
    wp_walk using fresh
    refine wpAny_stack_any fun st => wpAny_pure (?_ : _)
    split
    · next c _ _ _ _ _ =>
      cases (c == Value.type "enumerate") <;> (wp_walk using fresh; exact ⟨_, rfl, wish⟩)
    · wp_walk using fresh
      exact ⟨_, rfl, wish⟩

theorem enBegins {prog : Program} {w : World} {A : Around} {E : Value → Shared → Prop} {s : Shared} {v : Value} {o : Obj} {H : Heap → Prop} {Q : Value → Shared → Prop} (B : Begins v o H) (h1 : H s.heap)
    (h : ∀ h', IsEnum h' (s.heap.objs.size + 1) s.heap.objs.size 0 .none → h'.get? s.heap.objs.size = some o → (∀ b o, s.heap.get? b = some o → h'.get? b = some o) → Q (.ref (s.heap.objs.size + 1)) { s with heap := h' }) :
    wpAny (model prog w) A (call (.type "enumerate") [v]) Q E s := by
  refine callType_new F.called_enumerate (by decide) (F.typeCall_enumerate_1 _) (F.newCall_enumerate_1 _) (fun obj => F.args_object_init_2 obj _) F.entry_enumerate_new (enNew B) ⟨h1, ?_⟩
  have hz : (s.heap.push o).objs.size = s.heap.objs.size + 1 := Heap.size_push s.heap o
  have he := Heap.get?_push_size (s.heap.push o) (o := { cls := .type "enumerate", data := .fields #[.none, .bool false, .ref s.heap.objs.size, rawInt 0, .none, .none] }) rfl
  show _ ∧ _
  rw [hz] at he ⊢
  exact ⟨⟨_, he, rfl⟩, h _ he (Heap.get?_push_of_some _ (Heap.get?_push_size _ B.free)) fun b o x => Heap.get?_push_of_some _ (Heap.get?_push_of_some _ x)⟩

abbrev enAt (S : Sk) (k0 : Int) : Nat → List V → Prop := fun i vs => ∃ x, vs = [.int (k0 + (i : Int)), x] ∧ S.at_ i x
def iE (K : PySem.W.Frag) (ta : TA) : TI := fun σ H R => ta σ H fun vs H1 => ∃ S : Sk, vs = [S.v] ∧ S.side K H1 ∧ R (Jt S.n (S.side K) (enAt S 0)) H1
theorem pi_en {X : Cx} {e : Expr} {ta : TA} {p pos tpos : Pos} {elts : List Expr} {kk : Nat} (hg : Gl X "enumerate") (hm : X.mg "enumerate" = none) (ha : PA X [e] ta) (hs : starEach [e] X.env = [(false, eval e X.env)] := by rfl) :
    PI X (.Tuple elts kk tpos) (.Call (.Name "enumerate" p) [e] [] pos) (iE X.K ta) := by
  refine ⟨fun pins s σ H R I h => PyProof.Rows.Call_ (ld_blt I hg hm PyProof.Rows.boot_enumerate (PyProof.Rows.callWith_type1 (thn (ha.run pos pins s σ H _ I h) fun us s1 ⟨vs, H1, I1, r1, q1⟩ => ?_) hs rfl))⟩
  obtain ⟨S, rfl, sd, q⟩ := q1
  cases r1 with
  | cons r rr =>
    cases rr
    obtain ⟨_, B, b, k⟩ := S.begins I1 sd r
    refine enBegins B b fun h' he h1 hk => wpAny_pyIter_enum he ?_
    refine ⟨s1.heap.objs.size + 1, [s1.heap.objs.size + 1, s1.heap.objs.size], _, _, H1, rfl, I1.kept (t' := s1.toks) hk, turnE S 0 _, ⟨⟨_, by simpa using he⟩, k _ _ h1⟩, fun b hb => ?_, q⟩
    refine freshFp I1 b ?_
    rw [List.mem_cons, List.mem_singleton] at hb
    rcases hb with e | e <;> simp [zipFp, e]
def enD : Nat → List D → List D
  | _, [] => []
  | k, d :: ds => .tup [.sc (.int (k : Nat)), d] :: enD (k + 1) ds
theorem enD_len : ∀ k ds, (enD k ds).length = ds.length
  | _, [] => rfl
  | k, d :: ds => by simp [enD, enD_len (k + 1) ds]
theorem enD_get : ∀ {k : Nat} {ds : List D} {i : Nat} {d : D}, ds[i]? = some d → (enD k ds)[i]? = some (.tup [.sc (.int ((k + i : Nat) : Int)), d])
  | k, [], i, d, h => by simp at h
  | k, x :: ds, 0, d, h => by
    simp at h
    subst h
    rfl
  | k, x :: ds, i + 1, d, h => by
    simp at h
    show (enD (k + 1) ds)[i]? = _
    rw [enD_get (k := k + 1) (ds := ds) h, show k + 1 + i = k + (i + 1) by omega]
def dEnum (tA : DTA) : DTI := fun δ Q Y => tA δ (fun ws δ1 => ∃ d, pures ws = some [d] ∧ ∃ ds, itemsD d = some ds ∧ Q (enD 0 ds) δ1) Y
theorem di_en {X : Cx} {g : Gd} {Wx : WX} {e : Expr} {tA : DTA} {p pos tpos : Pos} {elts : List Expr} {kk : Nat} (gK : g.K = X.K) (hg : Gl X "enumerate") (hm : X.mg "enumerate" = none) (ha : DA X g Wx [e] tA) (hs : starEach [e] X.env = [(false, eval e X.env)] := by rfl) :
    DI X g Wx (.Tuple elts kk tpos) (.Call (.Name "enumerate" p) [e] [] pos) (dEnum tA) := by
  refine ⟨fun δ Q Q' Y Y' hQ hY h => ha.mono _ _ _ _ _ (fun w δ1 ⟨d, e1, ds, e2, q⟩ => ⟨d, e1, ds, e2, hQ _ _ q⟩) hY h, piMono (pi_en hg hm ha.pa hs) ?_⟩
  rintro σ H Q ⟨F, O, δ, r, q⟩
  refine ⟨F, O, δ, r, ha.mono _ _ _ _ _ (fun ws δ1 q vs F1 H1 O1 s1 r1 x1 => ?_) (fun _ _ z => z) q⟩
  obtain ⟨d, e1, ds, e2, q⟩ := q
  have rs := pures_reps x1 e1
  rw [← gK]
  cases rs with
  | cons ra rs =>
    cases rs
    obtain ⟨S, v1, sd, n1, a1⟩ := srcOf ra e2
    refine ⟨S, by rw [v1], Sk.sub r1.sub sd, q _ F1 H1 O1 s1 r1 (yieldsJt (by rw [enD_len, n1]) (fun H s => Sk.sub s sd) fun i vs hi h => ?_)⟩
    obtain ⟨x, rfl, h1⟩ := h
    obtain ⟨dx, g1, k1⟩ := a1 i x h1
    refine ⟨_, enD_get g1, .cons ?_ (.cons k1 .nil)⟩
    simp only [Nat.zero_add, Int.zero_add]
    exact .sc _
end DL

/-! text DLI -/
set_option Elab.async false
set_option linter.all false
set_option maxRecDepth 100000
namespace DL
open PySem PySem.Spec L2

/-! ### objects of one's own, changed in place -/
def getM (δ : DS) : Wv → Option M
  | .pl i => match δ.sl[i]? with
    | some (some (.ow m)) => some m
    | some (some (.io k)) => match δ.an[k]? with
      | some (.ow m) => some m
      | _ => none
    | _ => none
  | .io k => match δ.an[k]? with
    | some (.ow m) => some m
    | _ => none
  | _ => none
def setM (δ : DS) (w : Wv) (m : M) : DS := match w with
  | .pl i => match δ.sl[i]? with
    | some (some (.io k)) => ⟨δ.sl, δ.an.set k (.ow m)⟩
    | _ => δ.put i (some (.ow m))
  | .io k => ⟨δ.sl, δ.an.set k (.ow m)⟩
  | _ => δ
section
variable {g : Gd} {F H H0 : Hp} {O O0 : Own} {σ : L2.St} {δ : DS} {v : V} {w : Wv} {m : M}
theorem own_nt {K : PySem.W.Frag} {F H : Hp} {a : Addr} {o : HO} {m : M} (x : OwnM K F (upd H a o) a m) : ∀ ps, o ≠ .tbl ps := by
  obtain ⟨u, e, t⟩ := x.there
  rw [upd_same] at e
  cases e
  exact t
/-- the object at a, owned by p, gets another content -/
theorem R.change (r : R g F H O σ δ) {a : Addr} {p : Owner} {o' : HO} {δ2 : DS} {m0 : M} (hm0 : OwnM g.K F H a m0) (ha : O a = some p) (hn : δ2.sl.length = δ.sl.length) (nt : ∀ ps, o' ≠ .tbl ps)
    (h1 : ∀ i w, δ2.sl[i]? = some (some w) → (δ.sl[i]? = some (some w) ∧ p ≠ .inl i) ∨ (p = .inl i ∧ ∃ m v, w = .ow m ∧ σ[i]? = some (some v) ∧ v = .ref a ∧ OwnM g.K F (upd H a o') a m))
    (h2 : ∀ i w, δ2.an[i]? = some w → (δ.an[i]? = some w ∧ p ≠ .inr i) ∨ (p = .inr i ∧ ∃ m v, w = .ow m ∧ g.A[i]? = some v ∧ v = .ref a ∧ OwnM g.K F (upd H a o') a m)) :
    R g F (upd H a o') O σ δ2 ∧ Step F H O F (upd H a o') O := by
  obtain ⟨ha1, ha2⟩ := r.inh a (by rw [ha]; intro z; cases z)
  have sub : Sub F (upd H a o') := fun b u e => by
    rw [upd_ne (fun z => by rw [z, ha2] at e; cases e)]
    exact r.sub b u e
  have oth : ∀ {q : Owner} {v : V} {m : M}, q ≠ p → Hold g.K F H O q v m → Hold g.K F (upd H a o') O q v m := fun hq ⟨b, e1, e2, x⟩ => ⟨b, e1, e2, x.sub (Sub.refl _) fun o h _ => by
    rw [upd_ne (fun z => by rw [z, ha] at e2; cases e2; exact hq rfl)]
    exact h⟩
  refine ⟨⟨sub, fun i w h => ?_, fun i w h => ?_, fun b hb => ?_, r.ntb, ?_, by rw [hn]; exact r.len⟩, ⟨Sub.refl _, fun b u h n _ => ?_, fun b h => ?_, fun b h => .inl h, fun b h => .inl h⟩⟩
  · rcases h1 i w h with ⟨h, hp⟩ | ⟨rfl, m, v, rfl, hv, rfl, x⟩
    · obtain ⟨v, e1, e2⟩ := r.sl i w h
      refine ⟨v, e1, ?_⟩
      cases w with
      | ow m => exact oth (Ne.symm hp) e2
      | _ => exact e2
    · exact ⟨_, hv, a, rfl, ha, x⟩
  · rcases h2 i w h with ⟨h, hp⟩ | ⟨rfl, m, v, rfl, hv, rfl, x⟩
    · obtain ⟨v, e1, e2⟩ := r.an i w h
      refine ⟨v, e1, ?_⟩
      cases w with
      | ow m => exact oth (Ne.symm hp) e2
      | _ => exact e2
    · exact ⟨_, hv, a, rfl, ha, x⟩
  · obtain ⟨q1, q2⟩ := r.inh b hb
    exact ⟨q1.upd nt, q2⟩
  · have neT : ∀ {b : Addr} {u : HO}, H b = some u → (∃ ps, u = .tbl ps) ∨ (∃ c q, u = LamX.CodeO c q) → b ≠ a := fun hb hu z => by
      subst z
      cases m0 with
      | lst xs => obtain ⟨vs, h, _⟩ := hm0; rw [hb] at h; cases h; rcases hu with ⟨ps, e⟩ | ⟨c, q, e⟩ <;> cases e
      | dic xs => obtain ⟨vs, h, _⟩ := hm0; rw [hb] at h; cases h; rcases hu with ⟨ps, e⟩ | ⟨c, q, e⟩ <;> cases e
    intro x hx
    obtain ⟨ps, q1, q2, q3⟩ := r.tab x hx
    refine ⟨ps, by rw [upd_ne (neT q1 (.inl ⟨_, rfl⟩))]; exact q1, q2, fun pos cv hc => ?_⟩
    obtain ⟨c, e1, e2⟩ := q3 pos cv hc
    exact ⟨c, e1, by rw [upd_ne (neT e2 (.inr ⟨_, _, rfl⟩))]; exact e2⟩
  · rw [upd_ne (fun z => by rw [z, ha] at n; cases n)]
    exact h
  · exact h.upd nt

theorem R.place (r : R g F H O σ δ) (x : VR g F H O H0 O0 σ v w) (e : getM δ w = some m) : ∃ a p, v = .ref a ∧ O a = some p ∧ OwnM g.K F H a m ∧
    ∀ o' m', OwnM g.K F (upd H a o') a m' → R g F (upd H a o') O σ (setM δ w m') ∧ Step F H O F (upd H a o') O := by
  have atIo : ∀ {k : Nat} {wm : M}, δ.an[k]? = some (.ow wm) → g.A[k]? = some v → ∃ a p, v = .ref a ∧ O a = some p ∧ OwnM g.K F H a wm ∧ ∀ o' m', OwnM g.K F (upd H a o') a m' → R g F (upd H a o') O σ ⟨δ.sl, δ.an.set k (.ow m')⟩ ∧ Step F H O F (upd H a o') O := fun {k wm} hk hv => by
    obtain ⟨v2, e1, a, rfl, ho, y⟩ := r.an k _ hk
    rw [hv] at e1
    cases e1
    refine ⟨a, .inr k, rfl, ho, y, fun o' m' y' => r.change y ho rfl (own_nt y') (fun i w h => .inl ⟨h, fun z => by cases z⟩) fun i w h => ?_⟩
    by_cases hi : i = k
    · subst hi
      rw [List.getElem?_set_self (List.getElem?_eq_some_iff.mp hk).1] at h
      cases h
      exact .inr ⟨rfl, m', _, rfl, hv, rfl, y'⟩
    · rw [List.getElem?_set_ne (Ne.symm hi)] at h
      exact .inl ⟨h, fun z => hi (Sum.inr.inj z).symm⟩
  cases w with
  | pu d => cases e
  | ow m => cases e
  | io k =>
    dsimp only [getM] at e
    cases h : δ.an[k]? with
    | none => simp only [h] at e; cases e
    | some w =>
      cases w with
      | ow m2 => simp only [h] at e; cases e; exact atIo h x
      | _ => simp only [h] at e; cases e
  | pl i =>
    have x : σ[i]? = some (some v) := x
    dsimp only [getM] at e
    cases h : δ.sl[i]? with
    | none => simp only [h] at e; cases e
    | some o =>
    cases o with
    | none => simp only [h] at e; cases e
    | some w =>
    obtain ⟨v2, q1, q2⟩ := r.sl i w h
    rw [x] at q1
    cases q1
    cases w with
    | pu d => simp only [h] at e; cases e
    | pl j => exact q2.elim
    | io k =>
      simp only [h] at e
      cases h2 : δ.an[k]? with
      | none => simp only [h2] at e; cases e
      | some w2 =>
        cases w2 with
        | ow m2 =>
          simp only [h2] at e
          cases e
          have := atIo h2 q2
          simpa only [setM, h] using this
        | _ => simp only [h2] at e; cases e
    | ow m2 =>
      simp only [h] at e
      cases e
      obtain ⟨a, rfl, ho, y⟩ := q2
      refine ⟨a, .inl i, rfl, ho, y, fun o' m' y' => ?_⟩
      have es : setM δ (.pl i) m' = δ.put i (some (.ow m')) := by simp only [setM, h]
      rw [es]
      refine r.change y ho (by simp [DS.put]) (own_nt y') (fun j w hj => ?_) fun j w hj => .inl ⟨hj, fun z => by cases z⟩
      simp only [DS.put] at hj
      by_cases hji : j = i
      · subst hji
        rw [List.getElem?_set_self (List.getElem?_eq_some_iff.mp h).1] at hj
        cases hj
        exact .inr ⟨rfl, m', _, rfl, x, rfl, y'⟩
      · rw [List.getElem?_set_ne (Ne.symm hji)] at hj
        exact .inl ⟨hj, fun z => hji (Sum.inl.inj z).symm⟩
/-- what stands at a place does not depend on what is laid -/
theorem getM_io (δ : DS) (w : Wv) : ∀ m, getM δ w = some m → ∃ k, (w = .pl k ∨ w = .io k) := by
  intro m h
  cases w with
  | pl i => exact ⟨i, .inl rfl⟩
  | io k => exact ⟨k, .inr rfl⟩
  | _ => cases h

/-! ### o.m(e, ..) of a list of one's own -/
abbrev PL := List D → List D → (D → List D → Prop) → Prop
structure PrL (g : Gd) (r : V → List V → Hp → VK → Prop) (p : PL) : Prop where
  mono : ∀ xs ds Q Q', (∀ d ys, Q d ys → Q' d ys) → p xs ds Q → p xs ds Q'
  ok : ∀ {F H : Hp} {a : Addr} {vs us : List V} {xs ds : List D} {Q : VK} {Qd : D → List D → Prop}, H a = some (.lst vs) → Reps g.K F vs xs → Reps g.K F us ds → p xs ds Qd →
    (∀ z vs' d xs', Rep g.K F z d → Reps g.K F vs' xs' → Qd d xs' → Q z (upd H a (.lst vs'))) → r (.ref a) us H Q
end
section
variable {X : Cx} {g : Gd} {Wx : WX} {e a b c : Expr} {es : List Expr} {ta tb tc : DTE} {tA : DTA} {pos : Pos}
def dMi (p : PL) (ta : DTE) (tA : DTA) : DTE := fun δ Q Y => ta δ (fun x δ1 => (∃ ys, getM δ1 x = some (.lst ys)) ∧ tA δ1 (fun ws δ2 => ∃ xs, getM δ2 x = some (.lst xs) ∧ ∃ ds, pures ws = some ds ∧ p xs ds fun d xs' => Q (.pu d) (setM δ2 x (.lst xs'))) Y) Y
theorem dMi_mono {p : PL} (hp : ∀ xs ds Q Q', (∀ d ys, Q d ys → Q' d ys) → p xs ds Q → p xs ds Q') (ha : MonoE ta) (hA : MonoA tA) : MonoE (dMi p ta tA) := fun δ Q Q' Y Y' hQ hY h =>
  ha _ _ _ _ _ (fun x δ1 ⟨z, h⟩ => ⟨z, hA _ _ _ _ _ (fun ws δ2 ⟨xs, e1, ds, e2, h⟩ => ⟨xs, e1, ds, e2, hp _ _ _ _ (fun d ys => hQ _ _) h⟩) hY h⟩) hY h
theorem miCan {r : V → List V → Hp → VK → Prop} {p : PL} (pr : PrL g r p) (gK : g.K = X.K) (ha : MonoE ta) (hA : MonoA tA) (σ : L2.St) (H : Hp) (Q : VK) :
    canE g Wx (dMi p ta tA) σ H Q → tBM X.K "list" r (canE g Wx ta) (canA g Wx tA) σ H Q := by
  rintro ⟨F, O, δ, r0, q⟩
  refine ⟨F, O, δ, r0, ha _ _ _ _ _ (fun x δ1 q v F1 H1 O1 s1 r1 x1 => ?_) (fun _ _ z => z) q⟩
  obtain ⟨⟨ys, ey⟩, q⟩ := q
  obtain ⟨a0, p0, rfl, _, y0, _⟩ := r1.place x1 ey
  obtain ⟨us, hu, _⟩ := y0
  refine ⟨.inl ⟨rfl, us, .of hu⟩, F1, O1, δ1, r1, hA _ _ _ _ _ (fun ws δ2 q vs F2 H2 O2 s2 r2 x2 => ?_) (fun c δ z => z.step s1) q⟩
  obtain ⟨xs, e1, ds, e2, q⟩ := q
  obtain ⟨a1, p1, e3, _, ⟨us1, hu1, ru1⟩, up⟩ := r2.place (x1.step s2) e1
  cases e3
  refine pr.ok hu1 ru1 (pures_reps x2 e2) q fun z vs' d xs' rz rx qd => ?_
  obtain ⟨r3, s3⟩ := up (.lst vs') (.lst xs') ⟨vs', upd_same, rx⟩
  exact qd z F2 _ O2 ((s1.trans s2).trans s3) r3 rz
theorem de_mi {r : V → List V → Hp → VK → Prop} {p : PL} (hp : PE X e (tBM X.K "list" r (canE g Wx ta) (canA g Wx tA))) (pr : PrL g r p) (gK : g.K = X.K) (ha : DE X g Wx a ta) (hA : DA X g Wx es tA) : DE X g Wx e (dMi p ta tA) :=
  ⟨dMi_mono pr.mono ha.mono hA.mono, peMono hp (miCan pr gK ha.mono hA.mono)⟩
def appP : PL := fun xs ds Q => ∃ d, ds = [d] ∧ xs.length < sizeLine ∧ Q (.sc .non) (xs ++ [d])
theorem pr_app : PrL g rAppend appP := by
  refine ⟨fun xs ds Q Q' h ⟨d, e, z, q⟩ => ⟨d, e, z, h _ _ q⟩, fun {F H a vs us xs ds Q Qd} ha rv ru hp k => ?_⟩
  obtain ⟨d, rfl, z, q⟩ := hp
  cases ru with
  | cons r1 r2 =>
    cases r2
    exact ⟨a, vs, _, rfl, rfl, ha, by rw [rv.length]; exact z, k _ _ _ _ (.sc _) (rv.append (.one r1)) q⟩
def insP : PL := fun xs ds Q => ∃ i d, ds = [.sc (.int i), d] ∧ xs.length < sizeLine ∧ 0 ≤ i ∧ i < 2 ^ 63 ∧ Q (.sc .non) (xs.take i.toNat ++ [d] ++ xs.drop i.toNat)
theorem pr_ins : PrL g (fun x vs H Q => ∃ (l : Addr) (xs : List V) (i : Int) (y : V), x = .ref l ∧ vs = [.int i, y] ∧ H l = some (.lst xs) ∧ xs.length < sizeLine ∧ 0 ≤ i ∧ i < 2 ^ 63 ∧
    Q .non (upd H l (.lst (xs.take i.toNat ++ [y] ++ xs.drop i.toNat)))) insP := by
  refine ⟨fun xs ds Q Q' h ⟨i, d, e, z, z1, z2, q⟩ => ⟨i, d, e, z, z1, z2, h _ _ q⟩, fun {F H a vs us xs ds Q Qd} ha rv ru hp k => ?_⟩
  obtain ⟨i, d, rfl, z, z1, z2, q⟩ := hp
  cases ru with
  | cons r1 r2 =>
    cases r1
    cases r2 with
    | cons r2 r3 =>
      cases r3
      exact ⟨a, vs, i, _, rfl, rfl, ha, by rw [rv.length]; exact z, z1, z2, k _ _ _ _ (.sc _) (((rv.take _).append (.one r2)).append (rv.drop _)) q⟩

/-! ### xs[i] = v of a list of one's own -/
def dgSet (to ti : DTE) : DTG := fun d δ Q => to δ (fun x δ1 => ti δ1 (fun y δ2 => ∃ xs, getM δ2 x = some (.lst xs) ∧ ∃ k, val δ2 y = some (.sc (.int k)) ∧ ∃ j, ixN xs.length k = some j ∧ Q (setM δ2 x (.lst (xs.set j d)))) fun _ _ => False) fun _ _ => False
theorem dg_set {o i : Expr} {to ti : DTE} (ho : DE X g Wx o to) (hi : DE X g Wx i ti)
    (ha : ∀ v, assign (.Subscript o i pos) X.env v = (do
      let ov ← holding [v] (eval o X.env)
      let iv ← holding [v, ov] (eval i X.env)
      standAt pos
      holding [v, ov, iv] (setItem ov iv v)
      release [v, ov, iv] []) := by intro _; rfl) : DG X g (.Subscript o i pos) (dgSet to ti) [] := by
  refine ⟨fun d δ Q Q' h q => ho.mono _ _ _ _ _ (fun x δ1 q => hi.mono _ _ _ _ _ (fun y δ2 ⟨xs, e1, k, e2, j, e3, q⟩ => ⟨xs, e1, k, e2, j, e3, h _ q⟩) (fun _ _ z => z) q) (fun _ _ z => z) q, pgMono (pg_sub ho.pe hi.pe set_list ha) ?_⟩
  rintro v σ H Q ⟨F, O, δ, d, r, rd, q⟩
  refine ⟨F, O, δ, r, ho.mono _ _ _ _ _ (fun x δ1 q v1 F1 H1 O1 s1 r1 x1 => ?_) (fun _ _ z => z.elim) q⟩
  refine ⟨F1, O1, δ1, r1, hi.mono _ _ _ _ _ (fun y δ2 q v2 F2 H2 O2 s2 r2 x2 => ?_) (fun _ _ z => z.elim) q⟩
  obtain ⟨xs, e1, k, e2, j, e3, q⟩ := q
  obtain ⟨a1, p1, rfl, _, ⟨us1, hu1, ru1⟩, up⟩ := r2.place (x1.step s2) e1
  have hk : v2 = .int k := r2.cont x2 e2
  have rd2 := (rd.sub s1.ff).sub s2.ff
  have rs : Reps g.K F2 (us1.set j v) (xs.set j d) := Reps.set rd2 j ru1
  obtain ⟨r3, s3⟩ := up (.lst (us1.set j v)) (.lst (xs.set j d)) ⟨_, upd_same, rs⟩
  exact ⟨a1, us1, k, j, rfl, hk, hu1, by rw [ru1.length]; exact e3, q F2 _ O2 σ ((s1.trans s2).trans s3) r3 rfl fun _ _ => rfl⟩
end
end DL

/-! text DLT -/
set_option Elab.async false
set_option linter.all false
set_option maxRecDepth 100000
namespace DL
open PySem PySem.Spec
open PyProof.Rows L2
/-! ### clauses 'except x as n' behind each other: each caught exception is of one of them -/
/-- a suite's reading: of the exception's address, its class, its dict -/
abbrev SuT := Addr → Value → Option Addr → TS
/-- behind the suite the name is gone -/
def goneAt (D : Ends) (i : Nat) : Ends where
  nx := fun σ H => D.nx (σ.set i none) H
  rt := D.rt
  bk := fun σ H => D.bk (σ.set i none) H
  ct := fun σ H => D.ct (σ.set i none) H
def wNamed (K : PySem.W.Frag) (i : Nat) (D : Ends) : List (Value × SuT) → WX
  | [], _, _, _, _ => False
  | (c, ts) :: l, cls, d, σ, H => ∃ b, PySem.W.exmOne K cls c = some b ∧ (b = true → ∀ a, H a = none → ts a cls d (goneAt D i) (σ.set i (some (.ref a))) H) ∧ (b = false → wNamed K i D l cls d σ H)
/-- a suite that reads so in the state of the caught exception -/
def Suite (X : Cx) (ss : List Stmt) (ts : SuT) : Prop := ∀ (a : Addr) (o : Obj) (cls : Value) (d : Option Addr) (pn : List (Addr × Obj)), Zc cls d o → (∃ us, o.data = .fields us) → PSs (X.suite a ((a, o) :: pn)) ss (ts a cls d)
inductive Named (X : Cx) (n : Str) : List ExceptHandler → List (Value × SuT) → Prop
  | nil : Named X n [] []
  | cons {x : Str} {c : Value} {ts : SuT} {b : Stmt} {ss : List Stmt} {p q : Pos} {hds : List ExceptHandler} {l : List (Value × SuT)} (name : Names X x c) (suite : Suite X (b :: ss) ts) (rest : Named X n hds l) :
      Named X n (.ExceptHandler (some (.Name x p)) (some n) (b :: ss) q :: hds) ((c, ts) :: l)
/-- the exception at a has landed in X's def: t is the state, sI the one without it -/
structure Landed (X : Cx) (pins : List (Addr × Obj)) (σ : L2.St) (H : Hp) (B : Heap) (a : Addr) (cls : Value) (d : Option Addr) (sI t : Shared) : Prop where
  inv : Inv X pins σ H sI
  old : ∀ b o, sI.heap.get? b = some o → b ∉ frs X.stack → B.get? b = some o
  up : sI.heap.UpToSlots t.heap
  fly : HandSPX.FlyingZ B X.stack a (Zc cls d) t.heap
  new : H a = none
  os : t.os = sI.os
  bare : AllBare t.gens
namespace Landed
variable {X : Cx} {pins : List (Addr × Obj)} {σ : L2.St} {H : Hp} {B : Heap} {a : Addr} {cls : Value} {d : Option Addr} {sI t : Shared}
theorem now (x : Landed X pins σ H B a cls d sI t) : Inv X pins σ H t := x.inv.landed x.old x.fly.1 x.up x.os x.bare
theorem noFrame (x : Landed X pins σ H B a cls d sI t) : a ∉ frs X.stack := fun m => by
  obtain ⟨o, us, e, -, du⟩ := x.fly.there
  obtain ⟨-, o2, e2, nf⟩ := x.fly.2.2.1.mem m
  cases e.symm.trans e2
  exact nf us du
/-- the state in which a suite begins -/
theorem enter (x : Landed X pins σ H B a cls d sI t) (hs : X.stack = X.env :: X.outer) (hf : X.env.frame = some X.env.locals) :
    ∃ o, Zc cls d o ∧ (∃ us, o.data = .fields us) ∧ Inv (X.suite a ((a, o) :: (X.pn ++ pins))) [] σ H t := by
  obtain ⟨o, us, e, z, du⟩ := x.fly.there
  have nf := x.noFrame
  rw [hs] at nf
  refine ⟨o, z, ⟨us, du⟩, x.now.suite e du x.new (fun q => nf ?_) fun m => nf ?_⟩
  · show a ∈ (X.env :: X.outer).filterMap _
    rw [List.filterMap_cons_some hf, q]
    exact List.mem_cons_self
  · show a ∈ (X.env :: X.outer).filterMap _
    rw [List.filterMap_cons_some hf]
    exact List.mem_cons_of_mem _ m
theorem again (x : Landed X pins σ H B a cls d sI t) {M : Model} {A : Around} {Q : Unit → Shared → Prop} {E : Value → Shared → Prop} (h : ∀ t2, Landed X pins σ H B a cls d sI t2 → Q () t2) : wpAny M A (setFlight (.ref a) none) Q E t :=
  HandSPX.lands_againZ x.fly fun h2 f u => h _ ⟨x.inv, x.old, x.up.trans u, f, x.new, x.os, x.bare⟩
theorem looks (x : Landed X pins σ H B a cls d sI t) {M : Model} : PySem.W.Looks M t.heap (typeOf (.ref a)) cls := by
  obtain ⟨o, us, e, z, du⟩ := x.fly.there
  intro A Q E s k q
  refine wpAny_typeOf_ref (k _ _ e) ?_
  rw [z.1]
  exact q
/-- one clause: it is asked for its class -/
theorem clause (x : Landed X pins σ H B a cls d sI t) (hs : X.stack = X.env :: X.outer) (hf : X.env.frame = some X.env.locals) {i : Nat} {y n : Str} {c : Value} {ts : SuT} {b₀ : Stmt} {ss : List Stmt} {p q : Pos} {hds : List ExceptHandler} {b : Bool} {D : Ends}
    (nd : X.N.Nodup) (hi : X.N[i]? = some n) (hn : X.env.kindOf n = some .local) (name : Names X y c) (suite : Suite X (b₀ :: ss) ts) (hb : PySem.W.exmOne X.K cls c = some b)
    (yes : b = true → ts a cls d (goneAt D i) (σ.set i (some (.ref a))) H) (no : b = false → wpAny (model X.prog X.w) X.A (handleBy (.ref a) X.env hds) (SP X pins D) X.xe t) :
    wpAny (model X.prog X.w) X.A (handleBy (.ref a) X.env (.ExceptHandler (some (.Name y p)) (some n) (b₀ :: ss) q :: hds)) (SP X pins D) X.xe t := by
  have ok := x.inv.ok
  refine wpAny_handleBy_cons (codeAny_handlers_test ?_) (fun z => nomatch z)
  obtain ⟨o, -, -, J⟩ := x.enter hs hf
  have load : ∀ {Q E : Value → Shared → Prop}, Q c t → wpAny (model X.prog X.w) (X.A.mark (some (.ref a))) (eval (.Name y p) X.env) Q E t := fun {Q E} w => match name with
    | ⟨g, db, .inl m⟩ => ld_glob (X := X.suite a ((a, o) :: (X.pn ++ pins))) J g m w db
    | ⟨g, db, .inr ⟨m, v, nn⟩⟩ => ld_blt (X := X.suite a ((a, o) :: (X.pn ++ pins))) J g m v w nn db
  refine load ((PySem.W.exm_one x.now.kIn x.looks hb).here ?_)
  cases b with
  | false => exact no rfl
  | true =>
    refine codeAny_handlers_suite_as (x.again fun t2 x2 => ?_)
    obtain ⟨o2, z2, d2, J2⟩ := x2.enter hs hf
    refine store_ok (X := X.suite a ((a, o2) :: (X.pn ++ pins))) (v := .ref a) J2 nd hi (.inl hn) rfl (fun t3 J3 => ?_) (.inr hn)
    refine wpAny_mono ((suite a o2 cls d (X.pn ++ pins) z2 d2).run [] t3 _ H _ J3 (yes rfl)) (fun f t4 => ?_) fun _ _ => False.elim
    have out : ∀ {σ4 : L2.St} {H4 : Hp} {Q : Shared → Prop}, (∀ t5, Inv X pins (σ4.set i none) H4 t5 → Q t5) → Inv (X.suite a ((a, o2) :: (X.pn ++ pins))) [] σ4 H4 t4 →
        wpAny (model X.prog X.w) X.A (do bindName X.env n .none; unbindBehindTheSuite X.env n q) (fun _ t5 => Q t5) X.xe t4 := fun w J4 => gone_ok (J4.unsuite ok) nd hi hn w
    match f with
    | .ret u => exact fun ⟨v, σ4, H4, J4, rv, w⟩ => out (fun t5 J5 => ⟨v, _, H4, J5, rv, w⟩) J4
    | .next => exact fun ⟨σ4, H4, J4, w⟩ => out (fun t5 J5 => ⟨_, H4, J5, w⟩) J4
    | .cont => exact fun ⟨σ4, H4, J4, w⟩ => out (fun t5 J5 => ⟨_, H4, J5, w⟩) J4
    | .brk => exact fun ⟨σ4, H4, J4, w⟩ => out (fun t5 J5 => ⟨_, H4, J5, w⟩) J4
theorem clauses (x : Landed X pins σ H B a cls d sI t) (hs : X.stack = X.env :: X.outer) (hf : X.env.frame = some X.env.locals) {i : Nat} {n : Str} (nd : X.N.Nodup) (hi : X.N[i]? = some n) (hn : X.env.kindOf n = some .local) {D : Ends} :
    ∀ {hds : List ExceptHandler} {l : List (Value × SuT)}, Named X n hds l → wNamed X.K i D l cls d σ H → wpAny (model X.prog X.w) X.A (handleBy (.ref a) X.env hds) (SP X pins D) X.xe t
  | _, _, .nil, w => w.elim
  | _, _, .cons name suite rest, ⟨_, hb, yes, no⟩ => x.clause hs hf nd hi hn name suite hb (fun z => yes z a x.new) fun z => clauses x hs hf nd hi hn rest (no z)
end Landed
/-- THE RULE: a try whose clauses all bear the same name -/
theorem ps_try_named {X : Cx} {body : List Stmt} {h₀ : ExceptHandler} {hds : List ExceptHandler} {l : List (Value × SuT)} {pos : Pos} {tb : WX → TS} {i : Nat} {n : Str} (hs : X.stack = X.env :: X.outer) (hf : X.env.frame = some X.env.locals) (nd : X.N.Nodup) (hi : X.N[i]? = some n) (hn : X.env.kindOf n = some .local)
    (hh : Named X n (h₀ :: hds) l) (hb : ∀ (W : WX) (pn : List (Addr × Obj)) (xe : Value → Shared → Prop), PassesOwn (model X.prog X.w) X.A X.env xe → Takes (X.tr pn xe) W → PSs (X.tr pn xe) body (tb W)) :
    PS X (.Try body (h₀ :: hds) [] [] pos) (fun D => tb (wNamed X.K i D l) D) where
  run := fun pins s σ H D I h => by
    have ok := I.ok
    have frames := ok.frames
    rw [hs] at frames
    refine wpAny_Try_except (wpAny_mono ((hb (wNamed X.K i D l) (X.pn ++ pins) _ PassesOwn.looking fun u t x => ?_).run [] s σ H D (I.toTry _) h) (fun f t x => ?_) fun _ _ => id)
    · obtain ⟨a, B, sI, pins2, σ2, H2, cls, d, rfl, J, old, up, sky, new, os, bare, w⟩ := x
      have sky2 : Sky B (X.env :: X.outer) a (Zc cls d) X.env.locals t.heap := hs ▸ sky
      refine Sky.land Zc.steady frames hf sky2 fun h2 fly up2 => ?_
      have x : Landed X pins σ2 H2 B a cls d sI { t with heap := h2 } := ⟨J.ofTry ok, old, up.trans up2, hs ▸ fly, new, os, bare⟩
      exact x.clauses hs hf nd hi hn hh w
    · match f, x with
      | .ret u, ⟨v, σ2, H2, J, rv, w⟩ => exact ⟨v, σ2, H2, J.ofTry ok, rv, w⟩
      | .brk, ⟨σ2, H2, J, w⟩ => exact ⟨σ2, H2, J.ofTry ok, w⟩
      | .cont, ⟨σ2, H2, J, w⟩ => exact ⟨σ2, H2, J.ofTry ok, w⟩
      | .next, ⟨σ2, H2, J, w⟩ => exact wpAny_execs_nil ⟨σ2, H2, J.ofTry ok, w⟩
end DL

/-! text DLU -/
set_option Elab.async false
set_option linter.all false
set_option maxRecDepth 100000
set_option maxHeartbeats 3000000
namespace DL
open PySem PySem.Spec
open PyProof.Rows L2
open LamX
/-! ### the def that tells an error's kind -/
/-- of the class cls: the first clause's word -/
def pickK (K : PySem.W.Frag) (cls : Value) (k : Str → Prop) : List (Addr × Str) → Prop
  | [] => False
  | (c, r) :: l => ∃ b, PySem.W.exmOne K cls (.ref c) = some b ∧ (b = true → k r) ∧ (b = false → pickK K cls k l)
theorem pickK_mono {K : PySem.W.Frag} {cls : Value} {k k' : Str → Prop} (h : ∀ r, k r → k' r) : ∀ l, pickK K cls k l → pickK K cls k' l
  | [], z => z
  | (c, r) :: l, ⟨b, e, h1, h2⟩ => ⟨b, e, fun hb => h _ (h1 hb), fun hb => pickK_mono h l (h2 hb)⟩
def TTw (K : PySem.W.Frag) (cl : List (Addr × Str)) (last : Str) : (XK → Hp → VK → Prop) → Hp → VK → Prop := fun tl H Q => tl (fun cls _ H' => pickK K cls (fun r => Q (.str r) H') cl) H fun _ H' => Q (.str last) H'
/-- the clauses 'except C as e: return ..' over and over -/
inductive WHds (mg : Str → Option Value) (sg : Scope) (n : Str) : List ExceptHandler → List (Addr × Str) → Prop
  | nil : WHds mg sg n [] []
  | cons {x r : Str} {c : Addr} {j : Nat} {np p1 p2 p3 : Pos} {hds : List ExceptHandler} {l : List (Addr × Str)} (h1 : sg.names.lookup x = some .globalImplicit) (h2 : (x == ("__debug__" : Str)) = false) (h3 : mg x = some (.ref c)) (r' : WHds mg sg n hds l) :
      WHds mg sg n (.ExceptHandler (some (.Name x np)) (some n) [.Return (some (.Constant (.str r) j p1)) p2] p3 :: hds) ((c, r) :: l)
theorem word_gives {X : Cx} {Ng : List Str} {x a n q last : Str} {sg : Scope} {g : Addr} {cdg : Value} {j i : Nat} {p1 p2 p3 p4 p5 p6 : Pos} {h₀ : ExceptHandler} {hds : List ExceptHandler} {cl : List (Addr × Str)} (hh : WHds X.mg sg n (h₀ :: hds) cl) (hN : Ng.Nodup) (hi : Ng[i]? = some n) (hi0 : i ≠ 0) (hln : sg.names.lookup n = some .local)
    (h0 : ∀ f : Addr, (L2.start Ng [V.ref f])[0]? = some (some (V.ref f))) (hs : ∀ env : Env, swapsWith (.Call (.Name a p1) [] [] p2) none p3.line env = pure false := by intro _; rfl) :
    GivesTo X Ng x sg g cdg [.Try [.Expr (.Call (.Name a p1) [] [] p2) p3] (h₀ :: hds) [] [] p4, .Return (some (.Constant (.str last) j p5)) p6] a q (TTw X.K cl last) := by
  intro f c' s H Q tl act hc h
  have hm : ∀ {hds' : List ExceptHandler} {cl' : List (Addr × Str)}, WHds X.mg sg n hds' cl' → ∃ l', Named (cxOf C8.CX0 X.prog X.w X.K X.mg X.base Ng x sg g cdg X.A X.stack s H C8.E0).nox n hds' l' ∧
      ∀ (D : Ends) cls d (σ : L2.St) (H' : Hp), D.rt = Q → pickK X.K cls (fun r => Q (.str r) H') cl' → wNamed X.K i D l' cls d σ H' := by
    intro hds' cl' w
    induction w with
    | nil => exact ⟨[], .nil, fun D cls d σ H' _ z => z⟩
    | @cons x' r c j np p1 p2 p3 hds2 l2 h1 h2 h3 r' ih =>
      obtain ⟨l', k1, k2⟩ := ih
      refine ⟨_, .cons (c := .ref c) ⟨h1, h2, .inl h3⟩ (fun a oe cls d pn _ _ => pss_one (ps_ret (pe_str (x := r)))) k1, fun D cls d σ H' hD ⟨b, e1, e2, e3⟩ => ⟨b, e1, fun hb a _ => ?_, fun hb => k2 D cls d σ H' hD (e3 hb)⟩⟩
      show D.rt (.str r) H'
      rw [hD]
      exact e2 hb
  obtain ⟨l', k1, k2⟩ := hm hh
  refine ⟨_, pss_cons (ps_try_named (X := (cxOf C8.CX0 X.prog X.w X.K X.mg X.base Ng x sg g cdg X.A X.stack s H C8.E0).nox) (i := i)
      (tb := fun W D σ H => ∃ Ech : XK, (∀ cls d σ' H', Ech cls d H' → W cls d σ' H') ∧ σ[0]? = some (some (.ref f)) ∧ H c' = some (CodeO c' q) ∧ tl Ech H fun _ H' => D.nx σ H')
      rfl rfl hN hi hln k1 fun W pn xe _ tk => ?_) (pss_one (ps_ret (pe_str (x := last)))), ?_⟩
  · exact ⟨fun pins s1 σ1 H1 D1 J ⟨Ech, sub, inSlot, inCode, told⟩ => (pss_one (ps_expr (pos := p3) (act W pn xe Ech p1 p2 tk sub) (hs _))).run pins s1 σ1 H1 D1 J ⟨inSlot, inCode, told⟩⟩
  · exact ⟨fun cls _ H' => pickK X.K cls (fun r => Q (.str r) H') cl, fun cls d σ' H' w => k2 _ cls d σ' H' rfl w, h0 f, hc, h⟩

/-! ### over data -/
/-- what is no table stays: the owned and the frozen too -/
theorem R.stays {g : Gd} {F H H1 : Hp} {O : Own} {σ : L2.St} {δ : DS} (r : R g F H O σ δ) (st : ExtN H H1) (tb : Tabs g.T H1) : R g F H1 O σ δ ∧ Step F H O F H1 O := by
  have live : ∀ a, Live H a → Live H1 a := fun a ⟨o, e, t⟩ => ⟨o, st a o e t, t⟩
  have fz : Sub F H1 := fun a o e => st a o (r.sub a o e) fun ps z => r.ntb a ps (by rw [e, z])
  have hl : ∀ {q : Owner} {v : V} {m : M}, Hold g.K F H O q v m → Hold g.K F H1 O q v m := fun ⟨a, e, h, x⟩ => ⟨a, e, h, x.sub (Sub.refl _) fun o h n => st a o h n⟩
  constructor
  · exact {
      sub := fz
      sl := fun i w h => (r.sl i w h).imp fun v ⟨p, q⟩ => ⟨p, match w, q with
        | .pu _, q => q
        | .ow _, q => hl q
        | .pl _, q => q
        | .io _, q => q⟩
      an := fun i w h => (r.an i w h).imp fun v ⟨p, q⟩ => ⟨p, match w, q with
        | .pu _, q => q
        | .ow _, q => hl q
        | .pl _, q => q
        | .io _, q => q⟩
      inh := fun a h => (r.inh a h).imp (live a) id
      ntb := r.ntb
      tab := tb
      len := r.len }
  · exact { ff := Sub.refl _, fr := fun a o h _ n => st a o h n, th := live, nf := fun a h => .inl h, no := fun a h => .inl h }
def dLam (K : PySem.W.Frag) (cl : List (Addr × Str)) (last : Str) (te : DTE) : DTE := fun δ Q Y => te δ (fun _ δ1 => Q (.pu (.sc (.str last))) δ1) (fun c δ1 => pickK K c (fun r => Q (.pu (.sc (.str r))) δ1) cl)
theorem de_lam {X : Cx} {gd : Gd} {Wx : WX} {x a n last : Str} {g c P : Addr} {k i j : Nat} {pg : Arguments} {h₀ : ExceptHandler} {hds : List ExceptHandler} {cl : List (Addr × Str)} {p1 p2 p3 p4 p5 p6 : Pos} {sg : Scope} {dV kV doc pm cdv ct oc : Value} {an od : Option Addr} {osl : Array (Option Value)} {Ng : List Str}
    {params : Arguments} {body : Expr} {scope : Scope} {te : DTE} {p lpos pos : Pos} (gK : gd.K = X.K) (hg : Gl X x) (hm : X.mg x = some (.ref g)) (hk : PySem.W.keepIn X.K (.ref g) = true)
    (lk : X.K.lookup g = some ⟨oc, od, .func (PySem.W.fnOf x x pg [.Try [.Expr (.Call (.Name a p1) [] [] p2) p3] (h₀ :: hds) [] [] p4, .Return (some (.Constant (.str last) j p5)) p6] sg dV kV doc pm an cdv ct), osl⟩)
    (hcg : PySem.W.codeIn X.K cdv x = true) (hb : L2.Binds X.K (PySem.W.fnOf x x pg [.Try [.Expr (.Call (.Name a p1) [] [] p2) p3] (h₀ :: hds) [] [] p4, .Return (some (.Constant (.str last) j p5)) p6] sg dV kV doc pm an cdv ct) [a] []) (Sg : FnScope Ng [a] sg) (hNg : Ng[0]? = some a) (hva : Vis sg a)
    (hh : WHds X.mg sg n (h₀ :: hds) cl) (hN : Ng.Nodup) (hi : Ng[i]? = some n) (hi0 : i ≠ 0) (hln : sg.names.lookup n = some .local)
    (TB : TabB X.base X.mg c P) (hcode : X.env.code = .ref c) (hmT : (P, X.env.qual ++ "<lambda>") ∈ gd.T) (hu : ∀ p ∈ gd.T, p.1 = P → p.2 = X.env.qual ++ "<lambda>") (hr : Room (k + 2) X.A) (L : LamS X.env.scope scope) (me : MonoE te)
    (hbody : ∀ (A : Around) (outer : List Env) (s : Shared) (H : Hp) (E : XK) (f c' : Addr), Room k (A.deeper (lamEnv X scope s.heap.objs.size f c')) → DE (lamCx X A outer s H E scope f c') gd (fun c d _ H => E c d H) body te)
    (hdef : defaultsOf params X.env = ([], []) := by rfl)
    (hbind : ∀ (q : Str) (cl : List (Str × Addr)) (pm cv ctv : Value), bindArgs (PySem.W.kla_fn "<lambda>" q params body scope cl pm cv ctv) ⟨[], []⟩ = pure [] := by intros; rfl)
    (h0 : ∀ f : Addr, (L2.start Ng [V.ref f])[0]? = some (some (V.ref f)) := by intro _; rfl) (hs : ∀ env : Env, swapsWith (.Call (.Name a p1) [] [] p2) none p3.line env = pure false := by intro _; rfl)
    (hd : (a == ("__debug__" : Str)) = false := by decide) (hcd : (a == ("__classdict__" : Str)) = false := by decide) (hdb : (x == ("__debug__" : Str)) = false := by decide) :
    DE X gd Wx (.Call (.Name x p) [.Lambda params body scope lpos] [] pos) (dLam X.K cl last te) := by
  refine ⟨fun δ Q Q' Y Y' hQ hY h => me _ _ _ _ _ (fun w δ1 h => hQ _ _ h) (fun c δ1 h => pickK_mono (fun r h => hQ _ _ h) _ h) h, ?_⟩
  refine peMono (pe_lamcall (T := gd.T) hg hm hk lk hcg hb Sg hNg hva (word_gives hh hN hi hi0 hln h0 hs) TB hcode hmT hu hr L hdef hbind (fun A outer s H E f c' hr' => (hbody A outer s H E f c' hr').pe) hdb hd hcd) ?_
  rintro σ H Q ⟨F, O, δ, r, q⟩
  refine ⟨r.tab, fun H1 st tb => ?_⟩
  obtain ⟨r1, s1⟩ := r.stays st tb
  refine ⟨F, O, δ, r1, me _ _ _ _ _ (fun w δ1 q v F2 H2 O2 s2 r2 x2 => ?_) (fun c δ1 q F2 H2 O2 s2 r2 => ?_) q⟩
  · exact q _ F2 H2 O2 (s1.trans s2) r2 (.sc _)
  · exact pickK_mono (fun r q => q _ F2 H2 O2 (s1.trans s2) r2 (.sc _)) _ q
end DL

/-! text DLV -/
set_option Elab.async false
set_option linter.all false
set_option maxRecDepth 100000
set_option maxHeartbeats 2000000
namespace DL
open PySem PySem.Spec PyProof.Rows L2 He
/-! ### the head's facts: names, defs, tuples, the code objects whose lambdas are made -/
def codeAd (K : PySem.W.Frag) (p : Str × Option Str) : Addr := match K.lookup (fAd K p) with
  | some ⟨_, _, .func fd, _⟩ => (match fd.code with
    | .ref c => c
    | _ => 0)
  | _ => 0
def tabAd (K : PySem.W.Frag) (p : Str × Option Str) : Addr := match K.lookup (codeAd K p) with
  | some ⟨_, _, .fields vs, _⟩ => (match (vs[11]? : Option Value) with
    | some (.ref P) => P
    | _ => 0)
  | _ => 0
def emptyTab (o : Option Obj) : Bool := match o with
  | some ⟨.none, none, .fields vs, sl⟩ => vs.isEmpty && sl.isEmpty
  | _ => false
theorem emptyTab_ok {o : Option Obj} (h : emptyTab o = true) : o = some { cls := .none, data := .fields #[] } := by
  unfold emptyTab at h
  split at h
  · rename_i vs sl
    obtain ⟨h1, h2⟩ := Bool.and_eq_true_iff.mp h
    rw [Array.isEmpty_iff.mp h1, Array.isEmpty_iff.mp h2]
  · cases h
/-- more facts: tuples by names, defs with lambdas -/
structure Ex where
  tups : List (Str × List Dv) := []
  lams : List (Str × Option Str) := []
  /-- dicts of the top: names, texts and numbers -/
  tabs : List (Str × List (Str × Int)) := []
/-- an entry: its key, its hash, its number -/
def entI (e : DictEntry) : Option (Str × Int × Int) := match e.key, e.val with
  | .str x _, .int i _ => some (x, e.hash, i)
  | _, _ => none
def dicI (K : PySem.W.Frag) (a : Addr) : Option (List (Option (Str × Int × Int))) := match K.lookup a with
  | some ⟨.type c, none, .dict es _, sl⟩ => (match decide (c = "dict") && (sl.isEmpty && !(a == sysModules)) with
    | true => some (es.toList.map entI)
    | false => none)
  | _ => none
def entsI (P : Params) (kvs : List (Str × Int)) : List (Option (Str × Int × Int)) := kvs.map fun q => some (q.1, PyData.keyHash P q.1, q.2)
/-- at d stands a written dict with these numbers -/
structure TabOk (w : World) (K : PySem.W.Frag) (d : Addr) (kvs : List (Str × Int)) : Prop where
  kd : ∃ es n, L2.KDict K w d es n
  get : ∀ z : Str, ∃ r, PySem.W.nsIn K d z = some r ∧ (match (kvs.find? fun q => q.1 == z) with
    | some q => ∃ t, r = some (.int q.2 t)
    | none => r = none)
theorem ents_ok {P : Params} : ∀ {es : List DictEntry} {kvs : List (Str × Int)}, es.map entI = entsI P kvs → PySem.W.KeysLit P es ∧ (es.any fun e => e.refKey) = false ∧ ∀ z : Str, (match (kvs.find? fun q => q.1 == z) with
    | some q => ∃ e t, es.find? (fun e => e.key.isStr z) = some e ∧ e.val = .int q.2 t
    | none => es.find? (fun e => e.key.isStr z) = none)
  | [], [], _ => ⟨trivial, rfl, fun z => rfl⟩
  | [], _ :: _, h => by cases h
  | _ :: _, [], h => by cases h
  | e :: es, q :: kvs, h => by
    have h1 : entI e :: es.map entI = some (q.1, PyData.keyHash P q.1, q.2) :: entsI P kvs := h
    injection h1 with h2 h3
    obtain ⟨i1, i2, i3⟩ := ents_ok h3
    unfold entI at h2
    split at h2
    · rename_i x t i t' ek ev
      have h4 := Option.some.inj h2
      obtain ⟨h5, h6⟩ := Prod.mk.inj h4
      obtain ⟨h7, h8⟩ := Prod.mk.inj h6
      refine ⟨⟨⟨x, t, ek, by rw [h7, h5]⟩, i1⟩, ?_, fun z => ?_⟩
      · rw [List.any_cons, i2, Bool.or_false]
        unfold DictEntry.refKey
        rw [ek]
      · have e1 : e.key.isStr z = (q.1 == z) := by
          rw [ek, ← h5]
          rfl
        have i3 := i3 z
        rw [List.find?_cons, List.find?_cons, e1]
        cases hz : q.1 == z with
        | true => exact ⟨e, t', rfl, by rw [ev, h8]⟩
        | false => exact i3
    · cases h2
theorem dicI_ok {K : PySem.W.Frag} {w : World} {a : Addr} {kvs : List (Str × Int)} (h : dicI K a = some (entsI w.params kvs)) : TabOk w K a kvs := by
  unfold dicI at h
  split at h
  · rename_i c es n sl lk
    split at h
    · rename_i z
      obtain ⟨z1, z2⟩ := Bool.and_eq_true_iff.mp z
      obtain ⟨z3, z4⟩ := Bool.and_eq_true_iff.mp z2
      have e1 : c = "dict" := of_decide_eq_true z1
      have e2 : sl = #[] := Array.isEmpty_iff.mp z3
      have e3 : (a == sysModules) = false := by simpa using z4
      subst e1 e2
      obtain ⟨k1, k2, k3⟩ := ents_ok (Option.some.inj h)
      refine ⟨⟨es, n, lk, k1, e3⟩, fun z => ?_⟩
      have k3 := k3 z
      unfold PySem.W.nsIn
      rw [lk]
      simp only
      cases hf : kvs.find? fun q => q.1 == z with
      | some q =>
        rw [hf] at k3
        obtain ⟨e, t, h1, h2⟩ := k3
        rw [h1]
        exact ⟨_, rfl, t, by rw [h2]⟩
      | none =>
        rw [hf] at k3
        rw [k3, k2]
        exact ⟨_, rfl, rfl⟩
    · cases h
  · cases h
def lamOk (g : Addr → Option Obj) (K : PySem.W.Frag) (p : Str × Option Str) : Bool := PySem.W.codeHdIn K (codeAd K p) (tabAd K p) && (emptyTab (g (tabAd K p)) && ((K.lookup (tabAd K p)).isNone && !decide (tabAd K p = mainGlobals)))
def Ex.ok (x : Ex) (g : Addr → Option Obj) (K : PySem.W.Frag) : Bool := (x.tups.all fun q => tupB K q.1 q.2) && ((x.lams.all fun p => lamOk g K p) && decide ((x.lams.map (tabAd K)).Nodup))
abbrev AlL : Type := (Bool × List (Option (List (Option (Str × Int × Int))))) × AlD
def obsLG (n : Nat) (fa : List Fa) (fn : List DefD) (x : Ex) (g : Addr → Option Obj) : AlL := ((x.ok g (frG g (asD g n)), x.tabs.map fun t => dicI (frG g (asD g n)) (ga (frG g (asD g n)) t.1)), obsD fa fn (frG g (asD g n)))
def SaysL (fa : List Fa) (fn : List DefD) (x : Ex) (h : Heap) (K : PySem.W.Frag) : Prop := K.In h ∧ SaysD fa fn K ∧ (∀ q ∈ x.tups, tupB K q.1 q.2 = true) ∧ ∀ p ∈ x.lams, PySem.W.codeHdIn K (codeAd K p) (tabAd K p) = true ∧ h.get? (tabAd K p) = some { cls := .none, data := .fields #[] } ∧ K.lookup (tabAd K p) = none ∧ tabAd K p ≠ mainGlobals ∧ ∀ q ∈ x.lams, tabAd K q = tabAd K p → q = p
theorem nodup_inj {α β : Type} {f : α → β} : ∀ {l : List α}, (l.map f).Nodup → ∀ {a b}, a ∈ l → b ∈ l → f a = f b → a = b
  | [], _, _, _, h, _, _ => by cases h
  | x :: l, hn, a, b, ha, hb, e => by
    rw [List.map_cons, List.nodup_cons] at hn
    obtain ⟨n1, n2⟩ := hn
    rcases List.mem_cons.mp ha with ea | ea
    · rcases List.mem_cons.mp hb with eb | eb
      · rw [ea, eb]
      · exact (n1 (List.mem_map.mpr ⟨b, eb, by rw [← e, ea]⟩)).elim
    · rcases List.mem_cons.mp hb with eb | eb
      · exact (n1 (List.mem_map.mpr ⟨a, ea, by rw [e, eb]⟩)).elim
      · exact nodup_inj n2 ea eb e
def hookL (n : Nat) (fa : List Fa) (fn : List DefD) (x : Ex) : PySem.W.Hook where
  α := AlL
  obs := fun s => obsLG n fa fn x s.heap.get?
  val := fun w => ((true, x.tabs.map fun t => some (entsI w.params t.2)), valD fn)
  says := fun w h => ∃ K : PySem.W.Frag, SaysL fa fn x h K ∧ ∀ t ∈ x.tabs, TabOk w K (ga K t.1) t.2
  of := fun w s e => by
    have e1 := congrArg (fun z => z.1.1) e
    have e3 : (x.tabs.map fun t => dicI (frG s.heap.get? (asD s.heap.get? n)) (ga (frG s.heap.get? (asD s.heap.get? n)) t.1)) = x.tabs.map fun t => some (entsI w.params t.2) := congrArg (fun z => z.1.2) e
    have e2 := congrArg Prod.snd e
    obtain ⟨h1, h2⟩ := Bool.and_eq_true_iff.mp (show ((x.tups.all fun q => tupB (frG s.heap.get? (asD s.heap.get? n)) q.1 q.2) && ((x.lams.all fun p => lamOk s.heap.get? (frG s.heap.get? (asD s.heap.get? n)) p) && decide ((x.lams.map (tabAd (frG s.heap.get? (asD s.heap.get? n)))).Nodup))) = true from e1)
    obtain ⟨h2, h3⟩ := Bool.and_eq_true_iff.mp h2
    refine ⟨_, ⟨frG_in, e2, fun q hq => List.all_eq_true.mp h1 q hq, fun p hp => ?_⟩, fun t ht => dicI_ok (List.map_inj_left.mp e3 t ht)⟩
    obtain ⟨k1, k2⟩ := Bool.and_eq_true_iff.mp (List.all_eq_true.mp h2 p hp)
    obtain ⟨k2, k3⟩ := Bool.and_eq_true_iff.mp k2
    obtain ⟨k3, k4⟩ := Bool.and_eq_true_iff.mp k3
    exact ⟨k1, emptyTab_ok k2, Option.isNone_iff_eq_none.mp k3, by simpa using k4, fun q hq eq => nodup_inj (of_decide_eq_true h3) hq hp eq⟩
  keeps := fun _ _ _ ⟨K, ⟨hK, c, t, l⟩, tb⟩ k => ⟨K, ⟨PySem.W.Frag.In.keeps hK k, c, t, fun p hp => ⟨(l p hp).1, k _ _ (l p hp).2.1, (l p hp).2.2⟩⟩, tb⟩
theorem obsLG_eq {n : Nat} {fa : List Fa} {fn : List DefD} {x : Ex} {g : Addr → Option Obj} {s : Shared} (h : ∀ a, g a = s.heap.get? a) : obsLG n fa fn x g = (hookL n fa fn x).obs s := by
  have e : g = s.heap.get? := funext h
  rw [e] <;> rfl
theorem funOf {K : PySem.W.Frag} {x qual : Str} {st : Stmt} {kws : List (Str × V)} {f : Addr} {fd : FuncData} (F : FunD K x qual (defArgs st) (defBody st) (defScope st) [] kws f fd) : Fun K x qual st f fd := by
  obtain ⟨⟨oc, od, dV, kV, doc, pm, an, cdv, ct, osl, rfl, lk, hcd, hD, hK⟩, kp⟩ := F
  rcases hD with ⟨_, rfl⟩ | ⟨e, _⟩
  · exact ⟨⟨oc, od, kV, doc, pm, an, cdv, ct, osl, rfl, lk, hcd⟩, kp⟩
  · exact absurd rfl e
end DL

/-! text DLK -/
set_option Elab.async false
set_option linter.all false
set_option maxRecDepth 100000
set_option maxHeartbeats 3000000
namespace DL
open PySem PySem.Spec
open PyProof.Rows L2
open LamX
/-! ### defs that are only called where no repr is under way -/
/-- what such a def promises where A is around it: the library's FnOk.run with the guards told -/
structure GFn (P : Program) (w : World) (K : PySem.W.Frag) (mg : Str → Option Value) (base : Heap) (CX : CXT) (k : Nat) (f : Addr) (fd : FuncData) (ps : List Str) (sp : Sp) : Prop where
  len : ∀ vs H Q Y, sp vs H Q Y → vs.length = ps.length
  run : ∀ (A : Around) (out : List Env) (s : Shared) (H : Hp) (args : Args) (us : List Value) (vs : List V) (Q : VK) (Y : XK), A.guards = some [] → Room k A → Env0 P w K mg base A out s H → BindsTo s fd args (ps.zip us) → Vals vs us → sp vs H Q Y → codeAny (model P w) A (.call (.ref f) args) (CR CX out P w H s Q Y) s
section
variable {P : Program} {w : World} {K : PySem.W.Frag} {mg : Str → Option Value} {base : Heap} {CX : CXT} {j k : Nat} {f : Addr} {fd : FuncData} {ps : List Str} {sp sp' : Sp}
theorem GFn.mono (F : GFn P w K mg base CX j f fd ps sp) (h : j ≤ k) : GFn P w K mg base CX k f fd ps sp := ⟨F.len, fun A out s H args us vs Q Y hg hr => F.run A out s H args us vs Q Y hg (hr.mono h)⟩
theorem GFn.of (F : FnOk P w K mg base CX k f fd ps sp) : GFn P w K mg base CX k f fd ps sp := ⟨F.len, fun A out s H args us vs Q Y _ hr => F.run A out s H args us vs Q Y hr⟩
end
section
variable {P : Program} {w : World} {base : Heap} {K : PySem.W.Frag} {mg : Str → Option Value}
/-- THE RULE for such a def: by the library's run_ofS, of the very state -/
theorem gdfn {x qual : Str} {st : Stmt} {f : Addr} {fd : FuncData} {N ps : List Str} {k : Nat} {T : List (Addr × Str)} {sp : DSp} (F : Fun K x qual st f fd) (S : FnScope N ps (defScope st)) (hlen : ∀ ws Q Y, sp ws Q Y → ws.length = ps.length)
    (body : ∀ (cdv : Value) (A : Around) (outer : List Env) (s : Shared) (H : Hp) (vs : List V) (E : XK), A.guards = some [] → Room k (A.deeper (PyProof.Rows.envOfC qual (defScope st) s.heap.objs.size f cdv)) → vs.length = ps.length → (∃ c, cdv = .ref c ∧ PySem.W.codeIn K cdv qual = true ∧ ∃ oc od fd' osl, K.lookup f = some ⟨oc, od, .func fd', osl⟩ ∧ fd'.code = cdv) →
      ∃ t, DSs (cxOf (L2.CX P w) P w K mg base N qual (defScope st) f cdv A outer s H E) ⟨K, T, vs⟩ (fun c d _ H' => E c d H') (defBody st) t ∧ ∀ ws Q Y, sp ws Q Y → t (dEnds Q Y) (start0 N ws)) :
    GFn P w K mg base (L2.CX P w) (k + 1) f fd ps (lift K T sp) := by
  obtain ⟨oc, od, kV, doc, pm, ann, cdv, ct, osl, rfl, lk, hcd⟩ := F.ex
  have wide : ∀ {vs : List V} {H : Hp} {Q : VK} {E : XK}, lift K T sp vs H Q E → vs.length = ps.length := fun ⟨_, _, _, _, hl, h⟩ => hl ▸ hlen _ _ _ h
  refine ⟨fun vs H Q E => wide, fun A outer s H args us vs Q E hg room e0 hb rv h => run_ofS lk hcd S room e0 hb rv (wide h) fun hr => ?_⟩
  · obtain ⟨F0, O, ws, r, hl, h⟩ := h
    have hc : ∃ c, cdv = .ref c := by
      unfold PySem.W.codeIn at hcd
      cases cdv with
      | ref c => exact ⟨c, rfl⟩
      | _ => first | cases hcd | simp at hcd
    obtain ⟨c, rfl⟩ := hc
    obtain ⟨t, ht, hb⟩ := body (.ref c) A outer s H vs E hg hr (by rw [← hl]; exact hlen _ _ _ h) ⟨c, rfl, hcd, _, _, _, _, lk, rfl⟩
    refine ⟨_, ht.ps, F0, O, start0 N ws, _, r.start hl, ?_, hb ws _ _ h⟩
    refine ⟨fun δ' F' H' O' σ' s' r' q => ?_, fun w δ' v F' H' O' σ' s' r' x q => ?_, fun δ' F' H' O' σ' s' r' q => q.elim, fun δ' F' H' O' σ' s' r' q => q.elim, fun c δ' F' H' O' σ' s' r' q => ?_⟩
    · exact q .non F' H' O' s' r'.bare (Rep.sc _)
    · obtain ⟨hr, q⟩ := q
      refine q v F' H' O' s' r'.bare ?_
      cases w with
      | pu d => exact x
      | ow m => exact x
      | _ => exact hr.elim
    · exact q F' H' O' s' r'.bare
end
section
variable {X : Cx} {g : Gd} {Wx : WX} {e a b c : Expr} {es rest : List Expr} {ta tb tc : DTE} {tA : DTA} {t u : DTT} {pos : Pos}
theorem de_callG {sp : DSp} {k : Nat} {f : Addr} {fd : FuncData} {ps : List Str} {x : Str} {p : Pos} (hgd : X.A.guards = some []) (mp : MonoP sp) (F : GFn X.prog X.w X.K X.mg X.base (L2.CX X.prog X.w) k f fd ps (lift g.K g.T sp)) (hr : Room k X.A) (hg : Gl X x) (hm : X.mg x = some (.ref f))
    (hk : PySem.W.keepIn X.K (.ref f) = true) (hb : Binds X.K fd ps []) (tk : Takes X Wx) (ha : DA X g Wx (a :: es) tA) (hdb : (x == ("__debug__" : Str)) = false := by decide) (he : starEach (a :: es) X.env = (false, eval a X.env) :: starEach es X.env := by rfl)
    (hpl : (backTo pos (starEach es X.env)).any (·.1) = false := by rfl) : DE X g Wx (.Call (.Name x p) (a :: es) [] pos) (dCall sp tA) := by
  refine ⟨dCall_mono mp ha.mono, peMono (t := fun σ H Q => canA g Wx tA σ H fun vs H1 => lift g.K g.T sp vs H1 Q (WE Wx σ)) ?_ (callCanS mp ha.mono)⟩
  refine ⟨fun pins s σ H Q I h => wpAny_Call_Name_kw (ld_glob I hg hm ?_ hdb)⟩
  refine PySem.W.callWith_K (h₀ := X.base) I.ok.mod.kin hk (thn (ha.pa.run pos pins s σ H _ I h) fun us s1 ⟨vs, H1, I1, r, q⟩ => ⟨I1.kIn, ?_⟩) he hpl
  have hl : us.length = ps.length := by rw [← r.length]; exact F.len _ _ _ _ q
  have b := hb s1 us I1.kIn (by rw [List.append_nil]; exact hl)
  rw [List.append_nil] at b
  refine wpAny_call (codeAny_mono (F.run X.A X.stack s1 H1 ⟨us, []⟩ us vs Q (WE Wx σ) hgd hr I1.env0 b r q) fun r s' hq => ?_)
  match r, hq with
  | .error e, hq => exact passAt tk σ pins H1 s1 e s' I1 hq
  | .ok (.ret u), hq => exact I1.after hq
/-! ### repr -/
def reprP : PN := fun ds Q => match ds with
  | [d] => ∃ p, toPD d = some p ∧ PyData.showable p = true ∧ p.depth ≤ 64 ∧ p.shown.length ≤ sizeLine ∧ Q (.pu (.sc (.str p.shown)))
  | _ => False
theorem toPD_noDict : (∀ (d : D) (p : PyData), toPD d = some p → p.hasDict = false) := by
  have : ∀ n, (∀ (d : D) (p : PyData), sizeOf d ≤ n → toPD d = some p → p.hasDict = false) ∧ (∀ (ds : List D) (ps : List PyData), sizeOf ds ≤ n → toPDs ds = some ps → PyData.hasDictAll ps = false) := by
    intro n
    induction n with
    | zero =>
      refine ⟨fun d p h => ?_, fun ds ps h => ?_⟩
      · cases d <;> simp at h
      · cases ds <;> simp at h
    | succ n ih =>
      refine ⟨fun d p h e => ?_, fun ds ps h e => ?_⟩
      · cases d with
        | sc v => cases v <;> simp only [toPD] at e <;> first | (cases e; done) | (cases e; rfl)
        | tup xs =>
          simp only [toPD, Option.map_eq_some_iff] at e
          obtain ⟨ps, e, rfl⟩ := e
          exact ih.2 xs ps (by simp at h; omega) e
        | lst xs =>
          simp only [toPD, Option.map_eq_some_iff] at e
          obtain ⟨ps, e, rfl⟩ := e
          exact ih.2 xs ps (by simp at h; omega) e
        | dic xs => simp [toPD] at e
        | scr xs => simp [toPD] at e
      · cases ds with
        | nil => simp only [toPDs] at e; cases e; rfl
        | cons x xs =>
          simp only [toPDs] at e
          cases e1 : toPD x with
          | none => simp only [e1] at e; cases e
          | some a =>
            cases e2 : toPDs xs with
            | none => simp only [e1, e2] at e; cases e
            | some as =>
              simp only [e1, e2] at e
              cases e
              have h1 := ih.1 x a (by simp at h; omega) e1
              have h2 := ih.2 xs as (by simp at h; omega) e2
              simp [PyData.hasDictAll, h1, h2]
  exact fun d p e => (this (sizeOf d)).1 d p (Nat.le_refl _) e
def rRepr (K : PySem.W.Frag) : List V → Hp → VK → Prop := fun xs H Q => ∃ x p, xs = [x] ∧ Dp K H x p ∧ p.hasDict = false ∧ PyData.showable p = true ∧ p.depth ≤ 64 ∧ p.shown.length ≤ sizeLine ∧ Q (.str p.shown) H
theorem call_reprD (hgd : X.A.guards = some []) (hu : X.A.units + 66 < cLine) : CallR X (.builtin "repr") (rRepr X.K) := by
  rintro pins s σ H xs us Q I r ⟨x, p, rfl, hd, nd, hs, h64, hz, q⟩
  obtain ⟨u, rfl, ru⟩ : ∃ u, us = [u] ∧ RelV x u := vals1 r
  obtain ⟨as, rd⟩ := Dp.reads I p x u hd ru
  have fin : ∀ h' tk t, (∀ b o, s.heap.get? b = some o → h'.get? b = some o) → EP X pins σ Q (.str p.shown t) { s with heap := h', toks := tk } := fun h' tk t k => ⟨.str p.shown, H, I.kept k, ⟨t, rfl⟩, q⟩
  cases u with
  | ref a => exact repr_of_reads' rd hs (fun z => by rw [nd] at z; cases z) hgd (by omega) (fun _ _ e => e) (fun h' u tk k => fin h' tk u k) hz
  | none =>
    cases rd
    exact PySem.P.repr_of_none (fin _ _ _ fun _ _ e => e)
  | bool b =>
    cases rd
    exact PySem.P.repr_of_bool (fin _ _ _ fun _ _ e => e)
  | int i t =>
    cases rd
    exact PySem.P.repr_of_int (by simpa [PyData.showable] using hs) (fin _ _ _ fun _ _ e => e)
  | str z t =>
    cases rd
    exact PySem.P.repr_of_str (fin _ _ _ fun _ _ e => e) hz
  | _ => cases rd

theorem pr_repr : PrN g (rRepr g.K) reprP := by
  refine PrN.sc (fun ds Q Q' h q => ?_) fun {F H xs ds Q Qd} sb hx hp k => ?_
  · unfold reprP at q ⊢
    split at q
    · obtain ⟨p, e, h1, h2, h3, q⟩ := q; exact ⟨p, e, h1, h2, h3, h _ q⟩
    · exact q.elim
  · unfold reprP at hp
    split at hp
    · obtain ⟨p, e, h1, h2, h3, q⟩ := hp
      obtain ⟨y, rfl, hy⟩ := Paired.c1 hx
      exact ⟨y, p, rfl, Rep.dp (Cont.rep sb hy) e, toPD_noDict _ _ e, h1, h2, h3, k _ q⟩
    · exact hp.elim
end
end DL

/-! text DLW -/
set_option Elab.async false
set_option linter.all false
set_option maxRecDepth 100000
set_option maxHeartbeats 3000000
namespace DL
open PySem PySem.Spec
open PyProof.Rows L2
open LamX
/-! ### the heap at the law's entry: the tables are tracked, and the script where it is no part of the fixed heap -/
section
def entHp (K : PySem.W.Frag) (T : List Addr) (a : Addr) (z : HO) : Hp := fun b => if T.elem b then some (.tbl #[]) else if b == a && (K.lookup a).isNone then some z else none
variable {K : PySem.W.Frag} {T : List Addr} {a b : Addr} {z : HO}
theorem entHp_tab (h : b ∈ T) : entHp K T a z b = some (.tbl #[]) := by
  simp only [entHp, List.elem_eq_mem, h, decide_true, if_true]
theorem entHp_scr (h : a ∉ T) (k : K.lookup a = none) : entHp K T a z a = some z := by
  simp only [entHp, List.elem_eq_mem, h, decide_false, k, Option.isNone_none, beq_self_eq_true, Bool.and_self, if_true]
  rfl
theorem entHp_in {u : HO} (e : entHp K T a z b = some u) : (b ∈ T ∧ u = .tbl #[]) ∨ (b = a ∧ K.lookup a = none ∧ u = z) := by
  unfold entHp at e
  split at e
  · next m => exact .inl ⟨List.elem_iff.mp m, (Option.some.inj e).symm⟩
  · split at e
    · next m =>
      rw [Bool.and_eq_true] at m
      exact .inr ⟨eq_of_beq m.1, Option.isNone_iff_eq_none.mp m.2, (Option.some.inj e).symm⟩
    · cases e
end
def tabOb : Obj := { cls := .none, data := .fields #[] }
def scrOb (vs : List Value) : Obj := { cls := .type "list", data := .seq vs.toArray }
/-- what the head has laid when the law is entered -/
structure Laid (K : PySem.W.Frag) (mg : Str → Option Value) (cs : List (Addr × Addr)) (a : Addr) (vs : List Value) (h : Heap) : Prop where
  top : L2.Mod K mg h
  tab : ∀ p ∈ cs, h.get? p.2 = some tabOb
  loose : ∀ p ∈ cs, K.lookup p.2 = none
  code : ∀ p ∈ cs, PySem.W.CodeHd h p.1 p.2
  main : ∃ (m : Addr) (o : Obj), mg "__builtins__" = some (.ref m) ∧ m ≠ builtinsNs ∧ h.get? m = some o ∧ (o.cls = .type "module" ∧ o.dict = some builtinsNs ∧ o.data = .plain)
  scr : h.get? a = some (scrOb vs)
namespace Laid
variable {K : PySem.W.Frag} {mg : Str → Option Value} {cs : List (Addr × Addr)} {a b : Addr} {vs : List Value} {h : Heap} {o : Obj} {z : HO}
def tabs (cs : List (Addr × Addr)) : List Addr := cs.map Prod.snd
theorem of_tabs (m : b ∈ tabs cs) : ∃ p ∈ cs, p.2 = b := List.mem_map.mp m
theorem in_tabs {p : Addr × Addr} (m : p ∈ cs) : p.2 ∈ tabs cs := List.mem_map.mpr ⟨p, m, rfl⟩
/-- data that is neither a script's nor an empty table's -/
def Other (d : Data) : Prop := d ≠ .fields #[] ∧ ∀ us n, d ≠ .seq us n
theorem other_dict {es : Array DictEntry} {ep : Nat} (e : o.data = .dict es ep) : Other o.data := by
  rw [e]
  exact ⟨fun q => Data.noConfusion q, fun _ _ q => Data.noConfusion q⟩
theorem other_plain (e : o.data = .plain) : Other o.data := by
  rw [e]
  exact ⟨fun q => Data.noConfusion q, fun _ _ q => Data.noConfusion q⟩
theorem scr_out (L : Laid K mg cs a vs h) : a ∉ tabs cs := fun m => by
  obtain ⟨p, hp, e⟩ := of_tabs m
  have q := L.tab p hp
  rw [e, L.scr] at q
  exact Data.noConfusion (congrArg Obj.data (Option.some.inj q))
/-- such an object is not tracked -/
theorem away (L : Laid K mg cs a vs h) (e : h.get? b = some o) (x : Other o.data) : entHp K (tabs cs) a z b = none := by
  cases q : entHp K (tabs cs) a z b with
  | none => rfl
  | some u =>
    exfalso
    rcases entHp_in q with ⟨m, -⟩ | ⟨rfl, -⟩
    · obtain ⟨p, hp, rfl⟩ := of_tabs m
      have w := Option.some.inj ((L.tab p hp).symm.trans e)
      exact x.1 (by rw [← w]; rfl)
    · have w := Option.some.inj (L.scr.symm.trans e)
      exact x.2 _ _ (by rw [← w]; rfl)
theorem seen (L : Laid K mg cs a vs h) (e : h.get? b = some o) (x : Other o.data) : (hidT h (entHp K (tabs cs) a z)).get? b = some o := hidT_get e (L.away e x)
theorem ns (L : Laid K mg cs a vs h) {m : Str → Option Value} (N : h.Ns b m) : (hidT h (entHp K (tabs cs) a z)).Ns b m := by
  obtain ⟨o, es, ep, e, d, r⟩ := N
  exact ⟨o, es, ep, L.seen e (other_dict d), d, r⟩
theorem kin (L : Laid K mg cs a vs h) : K.In (hidT h (entHp K (tabs cs) a z)) := fun c o e => by
  refine hidT_get (L.top.kin c o e) ?_
  cases q : entHp K (tabs cs) a z c with
  | none => rfl
  | some u =>
    rcases entHp_in q with ⟨m, -⟩ | ⟨rfl, k, -⟩
    · obtain ⟨p, hp, rfl⟩ := of_tabs m
      exact nomatch (L.loose p hp).symm.trans e
    · exact nomatch k.symm.trans e
theorem mod (L : Laid K mg cs a vs h) : L2.Mod K mg (hidT h (entHp K (tabs cs) a z)) where
  kin := L.kin
  glob := L.ns L.top.glob
  blt := let ⟨m, x, y⟩ := L.top.blt; ⟨m, L.ns x, y⟩
  nolimit := let ⟨m, x, y⟩ := L.top.nolimit; ⟨m, L.ns x, y⟩
theorem tabB (L : Laid K mg cs a vs h) {p : Addr × Addr} (hp : p ∈ cs) : TabB (hidT h (entHp K (tabs cs) a z)) mg p.1 p.2 where
  code := by
    obtain ⟨o, us, f1, f2, f3, f4, f5, f6, f7, e, c, d, d11, rest⟩ := L.code p hp
    refine ⟨o, us, f1, f2, f3, f4, f5, f6, f7, L.seen e ?_, c, d, d11, rest⟩
    rw [d]
    refine ⟨fun q => ?_, fun _ _ q => Data.noConfusion q⟩
    cases q
    simp at d11
  bm := by
    obtain ⟨m, o, g, nb, e, c, d, x⟩ := L.main
    refine ⟨m, o, g, nb, fun q => ?_, fun q => ?_, L.seen e (other_plain x), c, d, x⟩
    · obtain ⟨o', es, ep, e', d', -⟩ := L.top.glob
      rw [q] at e
      cases e.symm.trans e'
      exact Data.noConfusion (x.symm.trans d')
    · rw [q] at e
      cases e.symm.trans (L.tab p hp)
      exact Data.noConfusion x
  gP := fun q => by
    obtain ⟨o', es, ep, e', d', -⟩ := L.top.glob
    rw [q] at e'
    cases e'.symm.trans (L.tab p hp)
    exact Data.noConfusion d'
variable {ns : List Int}
/-- the script's tracked form -/
def scrHO (vs : List Value) (ns : List Int) : HO := .frz (scrOb vs) (.lst (ns.map V.int))
theorem hok {P : Program} {w : World} (L : Laid K mg cs a vs h) (i : IntsAre vs ns) (l : ns.length ≤ sizeLine) : HOk P w (entHp K (tabs cs) a (scrHO vs ns)) h := fun c u e => by
  rcases entHp_in e with ⟨m, rfl⟩ | ⟨rfl, -, rfl⟩
  · obtain ⟨p, hp, rfl⟩ := of_tabs m
    exact L.tab p hp
  · exact ⟨L.scr, by rw [List.length_map]; exact l, vs, _, vals_ints i, L.scr⟩
theorem sq (L : Laid K mg cs a vs h) (i : IntsAre vs ns) (l : ns.length ≤ sizeLine) : SqL K (entHp K (tabs cs) a (scrHO vs ns)) a (ns.map V.int) := by
  by_cases k : K.lookup a = none
  · exact .inl (.inr ⟨scrOb vs, entHp_scr L.scr_out k⟩)
  · obtain ⟨o, e⟩ := Option.ne_none_iff_exists'.mp k
    cases (L.top.kin a o e).symm.trans L.scr
    refine .inr ⟨scrOb vs, vs.toArray, _, e, rfl, rfl, rfl, ?_, vals_ints i⟩
    have n := i.length
    show vs.length ≤ _
    omega
end Laid
/-- what the law's def promises at the head's heap h -/
structure GLaw (l : PySem.W.OpenLaw) (w : World) (K : PySem.W.Frag) (CX : CXT) (k n : Nat) (x : Str) (mg : Str → Option Value) (fa : Addr) (h : Heap) (fd : FuncData) (cs : List (Addr × Addr)) (sp : Sp) : Prop where
  tab : ∀ p ∈ cs, h.get? p.2 = some tabOb
  loose : ∀ p ∈ cs, K.lookup p.2 = none
  code : ∀ p ∈ cs, PySem.W.CodeHd h p.1 p.2
  bind : ∀ (s : Shared) (u : Value), BindsTo s fd ⟨[u], []⟩ [(x, u)]
  says : ∀ (H : Hp) (a : Addr) (ns : List Int), ns.length ≤ n → (∀ p ∈ cs, H p.2 = some (.tbl #[])) → SqL K H a (ns.map V.int) → sp [.ref a] H (fun v _ => v = .bl true) fun _ _ _ => False
  run : ∀ base : Heap, K.In base → base.Ns mainGlobals mg → (∀ p ∈ cs, TabB base mg p.1 p.2) → GFn l.prog w K mg base CX k fa fd [x] sp
/-- THE END: a law whose def wants that no repr is under way -/
theorem gend {l : PySem.W.OpenLaw} {n k : Nat} {q : Program} {loose : List Str} {XP : (Str → Option Value) → Heap → Prop} {YP : World → Heap → Prop} {d : DefRec} {CX : World → CXT} {x : Str} (hr : Room k callerA) (hn : l.most = some n) (hdf : d.params.defaults = []) (hn2 : n ≤ sizeLine)
    (hCX : ∀ (w : World) (H : Hp) (s : Shared) (e : Value) (s' : Shared), ¬ CX w [] H s (fun _ _ _ => False) e s')
    (F : ∀ (w : World) (mg : Str → Option Value) (fa : Addr) (h : Heap), YP w h → h.Ns mainGlobals mg → mg d.name = some (.ref fa) → ∃ K : PySem.W.Frag, K.In h ∧ ∃ fd cs sp, GLaw l w K (CX w) k n x mg fa h fd cs sp) :
    PySem.W.WalkO q loose XP YP l.row.toRowW d [] (fun f vs => PySem.call f vs) := by
  refine Att.attach_callB hn hdf fun w s₀ s mg mb fa o pm cd doc a vs ns G Y ho hd hcd hmg hobj hints hlen hbits hg => ?_
  obtain ⟨K, KX, fd, cs, sp, D⟩ := F w mg fa _ Y G.T.g hmg
  have L : Laid K mg cs a vs s.heap := ⟨⟨KX, G.T.g, ⟨mb, G.T.b, G.T.builtins⟩, G.T.nolimit⟩, D.tab, D.loose, D.code, G.T.bmain, hobj⟩
  have l1 : ns.length ≤ sizeLine := Nat.le_trans hlen hn2
  have ht : ∀ p ∈ cs, entHp K (Laid.tabs cs) a (Laid.scrHO vs ns) p.2 = some (.tbl #[]) := fun p hp => entHp_tab (Laid.in_tabs hp)
  have e0 : Env0 l.prog w K mg (hidT s.heap (entHp K (Laid.tabs cs) a (Laid.scrHO vs ns))) callerA [] s (entHp K (Laid.tabs cs) a (Laid.scrHO vs ns)) := {
    frames := rfl, mod := L.mod, bs := fun _ _ => of_hidT, bsz := Nat.le_of_eq (hidT_size _ _), funs := trivial, frf := fun _ m => absurd m List.not_mem_nil, hok := L.hok hints l1, bare := .of_eq hg }
  have run := (D.run _ L.kin (L.ns G.T.g) fun p hp => L.tabB hp).run callerA [] s _ ⟨[.ref a], []⟩ [.ref a] [.ref a] _ _ rfl hr e0 (D.bind s _) (.cons rfl .nil) (D.says _ a ns hlen ht (L.sq hints l1))
  refine codeAny_mono run fun r s' res => ?_
  match r, res with
  | .error e, res => exact (hCX w _ s e s' res).elim
  | .ok (.ret u), ⟨v, H', hos, hbare, un, hok', hrv, hv⟩ =>
    subst hv
    cases hrv
    have later : ∀ p ∈ cs, ∃ more : Array Value, s'.heap.get? p.2 = some { cls := .none, data := .fields more } := fun p hp => by
      obtain ⟨more, e⟩ := un.tbls _ _ (ht p hp)
      exact ⟨_, hok' _ _ e⟩
    have kept : ∀ b ob, b ∉ Laid.tabs cs → s.heap.get? b = some ob → s'.heap.get? b = some ob := fun b ob nb e => by
      cases t : entHp K (Laid.tabs cs) a (Laid.scrHO vs ns) b with
      | none => exact un.keep b ob e t List.not_mem_nil List.not_mem_nil
      | some u =>
        rcases entHp_in t with ⟨m, -⟩ | ⟨rfl, -, rfl⟩
        · exact absurd m nb
        · have later := (hok' _ _ (un.frzs _ _ _ t)).1
          rw [later, ← L.scr, e]
    refine ⟨rfl, ⟨fun b ob e => ?_, fun b ob e => ?_⟩, hos, hbare⟩ <;> by_cases m : b ∈ Laid.tabs cs
    · obtain ⟨p, hp, rfl⟩ := Laid.of_tabs m
      obtain ⟨more, e'⟩ := later p hp
      cases (L.tab p hp).symm.trans e
      exact .inr (.inl ⟨((L.code p hp).tab (L.tab p hp)).isCodeTable, rfl, #[], more, rfl, by rw [e', Array.empty_append]; rfl⟩)
    · exact .inl (kept b ob m e)
    · obtain ⟨p, hp, rfl⟩ := Laid.of_tabs m
      exact (later p hp).elim fun _ e' => ⟨_, e'⟩
    · exact ⟨ob, kept b ob m e⟩
end DL

/-! text DLJ -/
set_option Elab.async false
set_option linter.all false
set_option maxRecDepth 100000
set_option maxHeartbeats 2000000
namespace DL
open PySem PySem.Spec PyProof.Rows L2 LamX
/-! ### a, b = a text of two signs -/
section
variable {prog : Program} {w : World} {A : Around} {E : Value → Shared → Prop} {s : Shared}
theorem unpackTxt {c1 c2 : Nat} {t : Tok} {Q : List Value → Shared → Prop} (hh : A.handled = none) (a1 : c1 < 128) (a2 : c2 < 128)
    (hQ : ∀ h' u1 u2 tk, (∀ b o, s.heap.get? b = some o → h'.get? b = some o) → Q [.str (sign c1) u1, .str (sign c2) u2] { s with heap := h', toks := tk }) : wpAny (model prog w) A (unpackItems (.str ⟨#[c1, c2]⟩ t) 2 none) Q E s := by
  have ha : (⟨#[c1, c2]⟩ : Str).cps.all (· < 128) = true := by simp [a1, a2]
  unfold unpackItems
  refine wpAny_bind ?_
  unfold notIterableAtAll
  refine wpAny_bind (wpAny_specialOf (typeIs_str s _ t) F.slot_str_iter.lookup ?_)
  refine wpAny_pure ?_
  simp only [Bool.false_eq_true, if_false]
  refine wpAny_bind (wpAny_holding (wpAny_pyIter_ascii ha ?_))
  have i0 : Heap.IsStrIter (s.heap.push { cls := .type "str_ascii_iterator", data := .fields #[.str ⟨#[c1, c2]⟩ t, .int 0 0] }) s.heap.objs.size "str_ascii_iterator" ⟨#[c1, c2]⟩ t 0 := ⟨_, Heap.get?_push_size _ rfl, rfl, rfl⟩
  refine wpAny_bind (wpAny_holding ?_)
  show wpAny _ _ (pyNext (.ref s.heap.objs.size) >>= _) _ _ _
  refine wpAny_bind (wpAny_pyNext_ascii_item i0 (c := c1) rfl fun h1 i1 e1 => ?_)
  refine wpAny_bind (wpAny_holding ?_)
  show wpAny _ _ (pyNext (.ref s.heap.objs.size) >>= _) _ _ _
  refine wpAny_bind (wpAny_pyNext_ascii_item i1 (c := c2) rfl fun h2 i2 e2 => ?_)
  refine wpAny_bind (wpAny_holding (wpAny_pure (wpAny_pure (wpAny_pure ?_))))
  rw [if_neg (by simp)]
  refine wpAny_bind (wpAny_holding (wpAny_pyNext_ascii_end hh i2 rfl fun h3 e3 => ?_))
  simp only [Option.isSome_none, Bool.false_eq_true, if_false]
  refine wpAny_pure (hQ h3 _ _ _ fun b o e => ?_)
  have ne : b ≠ s.heap.objs.size := Nat.ne_of_lt (Heap.lt_size e)
  exact e3 b o ne (e2.extBut b o ne (e1.extBut b o ne (Heap.get?_push_of_some _ e)))
end

theorem assign_txt {prog : Program} {w : World} {A : Around} {E : Value → Shared → Prop} {s : Shared} {env : Env} {elts : List Expr} {x1} {pos : Pos} {c1 c2 : Nat} {t : Tok} {Q : Unit → Shared → Prop} (hh : A.handled = none) (a1 : c1 < 128) (a2 : c2 < 128)
    (hn : (assignEach elts env).length = 2) (hstar : (assignEach elts env).findIdx? (·.1) = none)
    (h : ∀ h' u1 u2 tk, (∀ b o, s.heap.get? b = some o → h'.get? b = some o) → wpAny (model prog w) A (assignInOrder ((assignEach elts env).map (·.2)) [.str (sign c1) u1, .str (sign c2) u2]) Q E { s with heap := h', toks := tk }) :
    wpAny (model prog w) A (assign (.Tuple elts x1 pos) env (.str ⟨#[c1, c2]⟩ t)) Q E s := by
  rw [assign_Tuple]
  refine wpAny_bind (wpAny_standAt ?_)
  unfold unpack
  rw [hn, hstar]
  exact wpAny_bind (wpAny_holding (unpackTxt hh a1 a2 h))
def two? (z : Str) : Option (Nat × Nat) := match z with
  | ⟨⟨[a, b]⟩⟩ => if a < 128 ∧ b < 128 then some (a, b) else none
  | _ => none
theorem two?_eq {z : Str} {a b : Nat} (h : two? z = some (a, b)) : z = ⟨#[a, b]⟩ ∧ a < 128 ∧ b < 128 := by
  unfold two? at h
  split at h
  · split at h
    · cases h
      rename_i hh
      exact ⟨rfl, hh⟩
    · cases h
  · cases h
def dgTxt (gs : DTGs) : DTG := fun d δ Q => ∃ z a b, d = .sc (.str z) ∧ two? z = some (a, b) ∧ gs [.sc (.str (sign a)), .sc (.str (sign b))] δ Q
section
variable {X : Cx} {g : Gd} {Wx : WX} {e a b c : Expr} {es rest : List Expr} {ta tb tc : DTE} {tA : DTA} {t u : DTT} {pos : Pos}
theorem dg_txt {k : Nat} {gs : DTGs} {is : List Nat} (hc : X.calm = true) (h : DGs X g es gs is) (hn : (assignEach es X.env).length = 2 := by rfl) (hst : (assignEach es X.env).findIdx? (·.1) = none := by rfl) : DG X g (.Tuple es k pos) (dgTxt gs) is := by
  refine ⟨fun d δ Q Q' i ⟨z, a, b, e1, e2, q⟩ => ⟨z, a, b, e1, e2, h.mono _ _ _ _ i q⟩, ⟨fun pins s σ H v u Q I r hw => ?_⟩⟩
  obtain ⟨F, O, δ, d, rr, rp, z, a, b, rfl, e2, q⟩ := hw
  obtain ⟨rfl, ha, hb⟩ := two?_eq e2
  cases rp
  obtain ⟨t, rfl⟩ := r
  refine assign_txt (I.ok.hd hc) ha hb hn hst fun h' u1 u2 tk hk => ?_
  have I1 : Inv X pins σ H { s with heap := h', toks := tk } := I.kept hk
  exact h.pg.run pins _ σ H [.str (sign a), .str (sign b)] [.str (sign a) u1, .str (sign b) u2] Q I1 (.cons ⟨u1, rfl⟩ (.cons ⟨u2, rfl⟩ .nil)) ⟨F, O, δ, _, rr, .cons (.sc _) (.cons (.sc _) .nil), q⟩

/-! ### a, b = x, y of plain local names -/
def dPar (i j : Nat) (tA : DTA) : DTS := fun D δ => tA δ (fun ws δ1 => ∃ d1 d2, pures ws = some [d1, d2] ∧ D.nx ((δ1.put i (some (.pu d1))).put j (some (.pu d2)))) D.ex
theorem ds_par {i j : Nat} {x y : Str} {px py pt : Pos} {kt k2 pt2} (hc : X.calm = true) (hN : X.N.Nodup) (hi : X.N[i]? = some x) (hj : X.N[j]? = some y) (hij : i ≠ j) (hx : X.env.scope.names.lookup x = some .local) (hy : X.env.scope.names.lookup y = some .local) (ha : DA X g Wx [a, b] tA)
    (hw : swappedStores [.Tuple [.Name x px, .Name y py] kt pt] (.Tuple [a, b] k2 pt2) X.env = pure (some [x, y])) (hs : swapsWithSole [.Tuple [.Name x px, .Name y py] kt pt] (.Tuple [a, b] k2 pt2) pos.line X.env = pure false := by rfl) :
    DSt X g Wx (.Assign [.Tuple [.Name x px, .Name y py] kt pt] (.Tuple [a, b] k2 pt2) pos) (dPar i j tA) := by
  refine ⟨fun D D' δ l q => ha.mono _ _ _ _ _ (fun ws δ1 ⟨d1, d2, e, q⟩ => ⟨d1, d2, e, l.nx _ q⟩) l.ex q, psMono (ps_par hc hN hi hj hij hx hy ha.pa hw hs) ?_⟩
  rintro D σ H ⟨F, O, δ, D', r, e, q⟩
  refine ⟨F, O, δ, r, ha.mono _ _ _ _ _ (fun ws δ1 q vs F1 H1 O1 s1 r1 x1 => ?_) (fun c δ q => e.x c δ q) q⟩
  obtain ⟨d1, d2, ep, q⟩ := q
  have rs := pures_reps x1 ep
  cases rs with
  | cons ra rs =>
    cases rs with
    | cons rb rs =>
      cases rs
      obtain ⟨O2, s2, r2⟩ := store1 (w := .pu d1) s1 r1 ra (i := i) rfl
      obtain ⟨O3, s3, r3⟩ := store1 (w := .pu d2) s2 r2 rb (i := j) rfl
      exact ⟨_, _, rfl, e.nx _ F1 H1 O3 _ s3 r3 q⟩
/-! ### x *= e, ints -/
def dMulA (i : Nat) (te : DTE) : DTS := fun D δ => ∃ a, δ.sl[i]? = some (some (.pu (.sc (.int a)))) ∧ te δ (fun w δ1 => ∃ b, val δ1 w = some (.sc (.int b)) ∧ a.natAbs.log2 + b.natAbs.log2 < 1000000 ∧ D.nx (δ1.put i (some (.pu (.sc (.int (a * b))))))) D.ex

/-! ### a tuple of the module -/
def dG (d : D) : DTE := fun δ Q _ => Q (.pu d) δ
theorem de_gtup {x : Str} {vs : List He.Dv} (gK : g.K = X.K) (hg : Gl X x) (hm : X.mg x = some (.ref (He.ga X.K x))) (ht : He.tupB X.K x vs = true) (hd : (x == ("__debug__" : Str)) = false := by decide) : DE X g Wx (.Name x pos) (dG (.tup (vs.map fun v => .sc (v.v X.K)))) := by
  refine ⟨fun δ Q Q' Y Y' hQ hY h => hQ _ _ h, peMono (pe_glob (v := .ref (He.ga X.K x)) hg hm (show L2.RelV (.ref (He.ga X.K x)) (Value.ref (He.ga X.K x)) from rfl) hd) ?_⟩
  rintro σ H Q ⟨F, O, δ, r, q⟩
  refine q _ F H O (Step.refl _ _ _) r ?_
  show Rep g.K F _ _
  refine .tup (vs := vs.map (He.Dv.v X.K)) (by rw [gK]; exact He.tupB_ok ht F) ?_
  have := Reps.scs (K := g.K) (F := F) (vs.map (He.Dv.v X.K))
  rw [List.map_map] at this
  exact this
/-! ### {} -/
def dNewD : DTE := fun δ Q _ => Q (.ow (.dic [])) δ
theorem de_dnew : DE X g Wx (.Dict [] [] pos) dNewD := by
  refine ⟨fun δ Q Q' Y Y' hQ hY h => hQ _ _ h, peMono pe_dnewK ?_⟩
  rintro σ H Q ⟨F, O, δ, r, q⟩ p n
  obtain ⟨r1, s1⟩ := r.laid (o := .dK []) n
  obtain ⟨f1, f2⟩ := r.free n
  exact q (.ref p) F _ O s1 r1 ⟨p, rfl, f1, f2, .inr (Live.not n), [], upd_same, .nil⟩

/-! ### calls by contracts, told once -/
end
/-- the def x keeps the promise sp -/
def CallOk (P : Program) (w : World) (K : PySem.W.Frag) (mg : Str → Option Value) (base : Heap) (T : List (Addr × Str)) (k : Nat) (x : Str) (ps : List Str) (sp : DSp) : Prop :=
  MonoP sp ∧ mg x = some (.ref (He.ga K x)) ∧ PySem.W.keepIn K (.ref (He.ga K x)) = true ∧ ∃ fd, FnOk P w K mg base (L2.CX P w) k (He.ga K x) fd ps (lift K T sp) ∧ Binds K fd ps []
def CallG (P : Program) (w : World) (K : PySem.W.Frag) (mg : Str → Option Value) (base : Heap) (T : List (Addr × Str)) (k : Nat) (x : Str) (ps : List Str) (sp : DSp) : Prop :=
  MonoP sp ∧ mg x = some (.ref (He.ga K x)) ∧ PySem.W.keepIn K (.ref (He.ga K x)) = true ∧ ∃ fd, GFn P w K mg base (L2.CX P w) k (He.ga K x) fd ps (lift K T sp) ∧ Binds K fd ps []
section
variable {X : Cx} {g : Gd} {Wx : WX} {e a b c : Expr} {es rest : List Expr} {ta tb tc : DTE} {tA : DTA} {t u : DTT} {pos : Pos}
theorem de_cf {sp : DSp} {j k : Nat} {ps : List Str} {x : Str} {p : Pos} (C : CallOk X.prog X.w g.K X.mg X.base g.T j x ps sp) (gK : g.K = X.K) (hr : Room k X.A) (hg : Gl X x) (tk : Takes X Wx) (ha : DA X g Wx (a :: es) tA) (hjk : j ≤ k := by decide)
    (hdb : (x == ("__debug__" : Str)) = false := by decide) (he : starEach (a :: es) X.env = (false, eval a X.env) :: starEach es X.env := by rfl)
    (hpl : (backTo pos (starEach es X.env)).any (·.1) = false := by rfl) : DE X g Wx (.Call (.Name x p) (a :: es) [] pos) (dCall sp tA) := by
  obtain ⟨mp, hm, hk, fd, F, hb⟩ := C
  rw [gK] at hm hk hb
  have F' : FnOk X.prog X.w X.K X.mg X.base (L2.CX X.prog X.w) j (He.ga X.K x) fd ps (lift g.K g.T sp) := by rw [← gK]; exact F
  exact de_call mp F' (hr.mono hjk) hg hm hk hb tk ha hdb he hpl
theorem de_cg {sp : DSp} {j k : Nat} {ps : List Str} {x : Str} {p : Pos} (C : CallG X.prog X.w g.K X.mg X.base g.T j x ps sp) (gK : g.K = X.K) (hgd : X.A.guards = some []) (hr : Room k X.A) (hg : Gl X x) (tk : Takes X Wx) (ha : DA X g Wx (a :: es) tA) (hjk : j ≤ k := by decide)
    (hdb : (x == ("__debug__" : Str)) = false := by decide) (he : starEach (a :: es) X.env = (false, eval a X.env) :: starEach es X.env := by rfl)
    (hpl : (backTo pos (starEach es X.env)).any (·.1) = false := by rfl) : DE X g Wx (.Call (.Name x p) (a :: es) [] pos) (dCall sp tA) := by
  obtain ⟨mp, hm, hk, fd, F, hb⟩ := C
  rw [gK] at hm hk hb
  have F' : GFn X.prog X.w X.K X.mg X.base (L2.CX X.prog X.w) j (He.ga X.K x) fd ps (lift g.K g.T sp) := by rw [← gK]; exact F
  exact de_callG hgd mp F' (hr.mono hjk) hg hm hk hb tk ha hdb he hpl
end

/-! ### lambdas, told once -/
/-- the tables of the defs xs -/
def tabsOf (K : PySem.W.Frag) (xs : List (Str × Option Str)) : List (Addr × Str) := xs.map fun p => (tabAd K p, (p.1 ++ ".<locals>.") ++ "<lambda>")
/-- what a def that makes lambdas knows of its code object and table -/
structure LamAt (K : PySem.W.Frag) (mg : Str → Option Value) (base : Heap) (xs : List (Str × Option Str)) (p : Str × Option Str) : Prop where
  mem : p ∈ xs
  tb : TabB base mg (codeAd K p) (tabAd K p)
  inj : ∀ q ∈ xs, tabAd K q = tabAd K p → q = p
theorem codeAd_of {K : PySem.W.Frag} {x : Str} {oc : Value} {od : Option Addr} {fd : FuncData} {osl : Array (Option Value)} {c : Addr} (lk : K.lookup (He.ga K x) = some ⟨oc, od, .func fd, osl⟩) (h : fd.code = .ref c) : codeAd K (x, none) = c := by
  unfold codeAd
  show (match K.lookup (He.ga K x) with
    | some ⟨_, _, .func fd, _⟩ => (match fd.code with
      | .ref c => c
      | _ => 0)
    | _ => 0) = c
  rw [lk]
  show (match fd.code with
      | .ref c => c
      | _ => 0) = c
  rw [h]
/-- the def that gets the lambda: where it stands, its clauses -/
structure WordFn (K : PySem.W.Frag) (mg : Str → Option Value) (x : Str) (st : Stmt) (a n : Str) (i : Nat) (Ng : List Str) (last : Str) (cl : List (Addr × Str)) : Prop where
  gm : mg x = some (.ref (He.ga K x))
  fn : ∃ fd, FunD K x x (defArgs st) (defBody st) (defScope st) [] [] (He.ga K x) fd ∧ Binds K fd [a] []
  body : ∃ p1 p2 p3 p4 p5 p6 j h₀ hds, defBody st = [.Try [.Expr (.Call (.Name a p1) [] [] p2) p3] (h₀ :: hds) [] [] p4, .Return (some (.Constant (.str last) j p5)) p6] ∧ WHds mg (defScope st) n (h₀ :: hds) cl ∧ ∀ env : Env, swapsWith (.Call (.Name a p1) [] [] p2) none p3.line env = pure false
  sc : FnScope Ng [a] (defScope st)
  i0 : Ng[0]? = some a
  ii : Ng[i]? = some n
  ne : i ≠ 0
  va : Vis (defScope st) a
  vn : (defScope st).names.lookup n = some .local
  da : (a == ("__debug__" : Str)) = false
  ca : (a == ("__classdict__" : Str)) = false
theorem de_lamF {X : Cx} {gd : Gd} {Wx : WX} {x a n last : Str} {st : Stmt} {i k : Nat} {Ng : List Str} {cl : List (Addr × Str)} {xs : List (Str × Option Str)} {me : Str} {params : Arguments} {body : Expr} {scope : Scope} {te : DTE} {p lpos pos : Pos}
    (W : WordFn X.K X.mg x st a n i Ng last cl) (M : LamAt X.K X.mg X.base xs (me, none)) (gK : gd.K = X.K) (gT : gd.T = tabsOf X.K xs) (hg : Gl X x) (hq : X.env.qual = me ++ ".<locals>.") (hcode : X.env.code = .ref (codeAd X.K (me, none))) (hr : Room (k + 2) X.A) (L : LamS X.env.scope scope)
    (hbody : ∀ (A : Around) (outer : List Env) (s : Shared) (H : Hp) (E : XK) (f c' : Addr), Room k (A.deeper (lamEnv X scope s.heap.objs.size f c')) → DE (lamCx X A outer s H E scope f c') gd (fun c d _ H => E c d H) body te)
    (hdef : defaultsOf params X.env = ([], []) := by rfl) (hbind : ∀ (q : Str) (cl : List (Str × Addr)) (pm cv ctv : Value), bindArgs (PySem.W.kla_fn "<lambda>" q params body scope cl pm cv ctv) ⟨[], []⟩ = pure [] := by intros; rfl)
    (hdb : (x == ("__debug__" : Str)) = false := by decide) : DE X gd Wx (.Call (.Name x p) [.Lambda params body scope lpos] [] pos) (dLam X.K cl last te) := by
  have m : MonoE te := (hbody X.A [] X.s_0 X.H_0 (fun _ _ _ => False) 0 0 ((hr.deeper _).mono (Nat.le_succ _))).mono
  obtain ⟨fd, F, hb⟩ := W.fn
  obtain ⟨p1, p2, p3, p4, p5, p6, j, h₀, hds, eb, hh, hs⟩ := W.body
  obtain ⟨⟨oc, od, dV, kV, doc, pm, an, cdv, ct, osl, rfl, lk, hcd, _, _⟩, kp⟩ := F
  have h0 : ∀ f : Addr, (L2.start Ng [V.ref f])[0]? = some (some (V.ref f)) := fun f => by simp [L2.start]
  rw [eb] at lk hb
  refine de_lam (P := tabAd X.K (me, none)) gK hg W.gm kp lk hcd hb W.sc W.i0 W.va hh W.sc.nd W.ii W.ne W.vn M.tb hcode ?_ ?_ hr L m hbody hdef hbind h0 hs W.da W.ca hdb
  · rw [gT, hq]
    exact List.mem_map.mpr ⟨(me, none), M.mem, rfl⟩
  · intro q hq2 e
    rw [gT] at hq2
    obtain ⟨r, hr2, rfl⟩ := List.mem_map.mp hq2
    have := M.inj r hr2 e
    rw [this, hq]
end DL

/-! text DLM -/
set_option Elab.async false
set_option linter.all false
set_option maxRecDepth 100000
set_option maxHeartbeats 2000000
namespace DL
open PySem PySem.Spec PyProof.Rows L2 LamX
theorem hu64 {A : Around} {k : Nat} (r : Room k A) : A.units + 64 < cLine := by have := r.un; omega
theorem hu66 {A : Around} {k : Nat} (r : Room k A) : A.units + 66 < cLine := by have := r.un; omega
structure GL (gs : DTGs) (n : Nat) : Prop where
  two : ∀ ds δ Q, gs ds δ Q → ds.length = n ∧ ∃ δ', Q δ'
structure GV (gt : DTG) : Prop where
  v : ∀ d δ Q, gt d δ Q → ∃ δ', Q δ'
theorem GL.len {gs : DTGs} {n : Nat} (h : GL gs n) : ∀ ds δ Q, gs ds δ Q → ds.length = n := fun ds δ Q q => (h.two ds δ Q q).1
theorem gv_name {i : Nat} : GV (dgName i) := ⟨fun d δ Q q => ⟨_, q⟩⟩
theorem gl_nil : GL dgNil 0 := ⟨fun ds δ Q q => ⟨by rw [q.1]; rfl, _, q.2⟩⟩
theorem gl_cons {gt : DTG} {gs : DTGs} {n : Nat} (h : GV gt) (h' : GL gs n) : GL (dgCons gt gs) (n + 1) := ⟨fun ds δ Q ⟨d, r, e, q⟩ => by
  obtain ⟨δ1, q⟩ := h.v _ _ _ q
  obtain ⟨e2, q⟩ := h'.two _ _ _ q
  exact ⟨by rw [e, List.length_cons, e2], q⟩⟩
theorem gv_tup {gs : DTGs} {n : Nat} (h : GL gs n) : GV (dgTup gs) := ⟨fun d δ Q ⟨ds, e, q⟩ => (h.two _ _ _ q).2⟩
theorem gv_lst {gs : DTGs} {n : Nat} (h : GL gs n) : GV (dgLst gs) := ⟨fun d δ Q ⟨ds, e, q⟩ => (h.two _ _ _ q).2⟩
section
variable {X : Cx} {g : Gd} {Wx : WX} {e a b c tg iter elt tg1 iter1 : Expr} {es rest ifs ifs1 : List Expr} {ta tb tc te : DTE} {tA : DTA} {t u tt tt1 : DTT} {ti ti1 : DTI} {gt gt1 : DTG} {is is1 : List Nat} {pos : Pos} {st : Stmt} {sts : List Stmt} {ts us : DTS} {scope : Scope}
theorem de_lcA (own : List (Str × Nat)) (hc : X.calm = true) (hN : X.N.Nodup) (hi : DI X g Wx tg iter ti) (ok : BlkOk X.N X.env.scope scope own) (hv : ∀ i ∈ is, i ∈ own.map (·.2))
    (hg : ∀ (s : Shared) (H : Hp) (C : Addr) (cl : List (Str × Addr)) (fp : List Addr), DG (X.blk s H scope (compEnvC scope cl C X.env) fp) g tg gt is) (ht : ∀ (s : Shared) (H : Hp) (C : Addr) (cl : List (Str × Addr)) (fp : List Addr), DTs (X.blk s H scope (compEnvC scope cl C X.env) fp) g WxF ifs tt)
    (he : ∀ (s : Shared) (H : Hp) (C : Addr) (cl : List (Str × Addr)) (fp : List Addr), DE (X.blk s H scope (compEnvC scope cl C X.env) fp) g WxF elt te)
    (hs : ∀ x, foldedSetIterable iter X.env x = pure x := by intro _; rfl) : DE X g Wx (.ListComp elt [⟨tg, iter, ifs, 0⟩] scope pos) (dLc ti gt tt te (own.map (·.2))) :=
  de_lc hc hN hi ok hv hg ht he (hg X.s_0 X.H_0 0 [] []).mono (ht X.s_0 X.H_0 0 [] []).mono (he X.s_0 X.H_0 0 [] []).mono hs
theorem ds_setLcA (own : List (Str × Nat)) {i : Nat} {y : Str} {py spos : Pos} (hc : X.calm = true) (hN : X.N.Nodup) (hy : X.N[i]? = some y) (hyl : X.env.scope.names.lookup y = some .local)
    (hsw : swapsWith (.ListComp elt [⟨tg, iter, ifs, 0⟩] scope pos) (some (.Name y py)) spos.line X.env = pure true) (hi : DI X g Wx tg iter ti) (ok : BlkOk X.N X.env.scope scope own) (hv : ∀ i ∈ is, i ∈ own.map (·.2))
    (hg : ∀ (s : Shared) (H : Hp) (C : Addr) (cl : List (Str × Addr)) (fp : List Addr), DG (X.blk s H scope (compEnvC scope cl C X.env) fp) g tg gt is) (ht : ∀ (s : Shared) (H : Hp) (C : Addr) (cl : List (Str × Addr)) (fp : List Addr), DTs (X.blk s H scope (compEnvC scope cl C X.env) fp) g WxF ifs tt)
    (he : ∀ (s : Shared) (H : Hp) (C : Addr) (cl : List (Str × Addr)) (fp : List Addr), DE (X.blk s H scope (compEnvC scope cl C X.env) fp) g WxF elt te)
    (hs : ∀ x, foldedSetIterable iter X.env x = pure x := by intro _; rfl) : DSt X g Wx (.Assign [.Name y py] (.ListComp elt [⟨tg, iter, ifs, 0⟩] scope pos) spos) (dSet i (dLc ti gt tt te (own.map (·.2)))) :=
  ds_setLc hc hN hy hyl hsw hi ok hv hg ht he (hg X.s_0 X.H_0 0 [] []).mono (ht X.s_0 X.H_0 0 [] []).mono (he X.s_0 X.H_0 0 [] []).mono hs
theorem de_lc2A (own : List (Str × Nat)) (vs1 : List Nat) (hc : X.calm = true) (hN : X.N.Nodup) (hi : DI X g Wx tg iter ti) (ok : BlkOk X.N X.env.scope scope own) (hv : ∀ i ∈ is, i ∈ own.map (·.2)) (hv1 : ∀ i ∈ is1, i ∈ vs1) (hvv : ∀ i ∈ vs1, i ∈ own.map (·.2))
    (hg : ∀ (s : Shared) (H : Hp) (C : Addr) (cl : List (Str × Addr)) (fp : List Addr), DG (X.blk s H scope (compEnvC scope cl C X.env) fp) g tg gt is) (ht : ∀ (s : Shared) (H : Hp) (C : Addr) (cl : List (Str × Addr)) (fp : List Addr), DTs (X.blk s H scope (compEnvC scope cl C X.env) fp) g WxF ifs tt)
    (hi1 : ∀ (s : Shared) (H : Hp) (C : Addr) (cl : List (Str × Addr)) (fp : List Addr), DI (X.blk s H scope (compEnvC scope cl C X.env) fp) g WxF tg1 iter1 ti1)
    (hg1 : ∀ (s : Shared) (H : Hp) (C : Addr) (cl : List (Str × Addr)) (fp : List Addr), DG (X.blk s H scope (compEnvC scope cl C X.env) fp) g tg1 gt1 is1) (ht1 : ∀ (s : Shared) (H : Hp) (C : Addr) (cl : List (Str × Addr)) (fp : List Addr), DTs (X.blk s H scope (compEnvC scope cl C X.env) fp) g WxF ifs1 tt1)
    (he : ∀ (s : Shared) (H : Hp) (C : Addr) (cl : List (Str × Addr)) (fp : List Addr), DE (X.blk s H scope (compEnvC scope cl C X.env) fp) g WxF elt te)
    (hs : ∀ x, foldedSetIterable iter X.env x = pure x := by intro _; rfl) (hs1 : ∀ env x, foldedSetIterable iter1 env x = pure x := by intro _ _; rfl) : DE X g Wx (.ListComp elt [⟨tg, iter, ifs, 0⟩, ⟨tg1, iter1, ifs1, 0⟩] scope pos) (dLc2 ti gt tt ti1 gt1 tt1 te (own.map (·.2)) vs1) :=
  de_lc2 hc hN hi ok hv hv1 hvv hg ht hi1 hg1 ht1 he (hg X.s_0 X.H_0 0 [] []).mono (ht X.s_0 X.H_0 0 [] []).mono (hi1 X.s_0 X.H_0 0 [] []).mono (hg1 X.s_0 X.H_0 0 [] []).mono (ht1 X.s_0 X.H_0 0 [] []).mono (he X.s_0 X.H_0 0 [] []).mono hs hs1
theorem ds_setLc2A (own : List (Str × Nat)) (vs1 : List Nat) {i : Nat} {y : Str} {py spos : Pos} (hc : X.calm = true) (hN : X.N.Nodup) (hy : X.N[i]? = some y) (hyl : X.env.scope.names.lookup y = some .local)
    (hsw : swapsWith (.ListComp elt [⟨tg, iter, ifs, 0⟩, ⟨tg1, iter1, ifs1, 0⟩] scope pos) (some (.Name y py)) spos.line X.env = pure true)
    (hi : DI X g Wx tg iter ti) (ok : BlkOk X.N X.env.scope scope own) (hv : ∀ i ∈ is, i ∈ own.map (·.2)) (hv1 : ∀ i ∈ is1, i ∈ vs1) (hvv : ∀ i ∈ vs1, i ∈ own.map (·.2))
    (hg : ∀ (s : Shared) (H : Hp) (C : Addr) (cl : List (Str × Addr)) (fp : List Addr), DG (X.blk s H scope (compEnvC scope cl C X.env) fp) g tg gt is) (ht : ∀ (s : Shared) (H : Hp) (C : Addr) (cl : List (Str × Addr)) (fp : List Addr), DTs (X.blk s H scope (compEnvC scope cl C X.env) fp) g WxF ifs tt)
    (hi1 : ∀ (s : Shared) (H : Hp) (C : Addr) (cl : List (Str × Addr)) (fp : List Addr), DI (X.blk s H scope (compEnvC scope cl C X.env) fp) g WxF tg1 iter1 ti1)
    (hg1 : ∀ (s : Shared) (H : Hp) (C : Addr) (cl : List (Str × Addr)) (fp : List Addr), DG (X.blk s H scope (compEnvC scope cl C X.env) fp) g tg1 gt1 is1) (ht1 : ∀ (s : Shared) (H : Hp) (C : Addr) (cl : List (Str × Addr)) (fp : List Addr), DTs (X.blk s H scope (compEnvC scope cl C X.env) fp) g WxF ifs1 tt1)
    (he : ∀ (s : Shared) (H : Hp) (C : Addr) (cl : List (Str × Addr)) (fp : List Addr), DE (X.blk s H scope (compEnvC scope cl C X.env) fp) g WxF elt te)
    (hs : ∀ x, foldedSetIterable iter X.env x = pure x := by intro _; rfl) (hs1 : ∀ env x, foldedSetIterable iter1 env x = pure x := by intro _ _; rfl) :
    DSt X g Wx (.Assign [.Name y py] (.ListComp elt [⟨tg, iter, ifs, 0⟩, ⟨tg1, iter1, ifs1, 0⟩] scope pos) spos) (dSet i (dLc2 ti gt tt ti1 gt1 tt1 te (own.map (·.2)) vs1)) :=
  ds_setLc2 hc hN hy hyl hsw hi ok hv hv1 hvv hg ht hi1 hg1 ht1 he (hg X.s_0 X.H_0 0 [] []).mono (ht X.s_0 X.H_0 0 [] []).mono (hi1 X.s_0 X.H_0 0 [] []).mono (hg1 X.s_0 X.H_0 0 [] []).mono (ht1 X.s_0 X.H_0 0 [] []).mono (he X.s_0 X.H_0 0 [] []).mono hs hs1
/-! - of an int; [::-1] -/
def negP : P1 := fun d Q => match d with
  | .sc (.int i) => Q (.pu (.sc (.int (-i))))
  | _ => False
theorem pr_neg : Pr1 g (rU fun i => .int (-i)) negP := by
  refine Pr1.sc (fun d Q Q' h q => ?_) fun {F H x dx Q Qd} sb hx hp k => ?_
  · unfold negP at q ⊢
    split at q
    · exact h _ q
    · exact q.elim
  · unfold negP at hp
    split at hp
    · cases hx
      exact ⟨_, rfl, k _ hp⟩
    · exact hp.elim
theorem bootL : bootBuiltins "list" = some (.type "list") := by decide +kernel
theorem bootT : bootBuiltins "tuple" = some (.type "tuple") := by decide +kernel
theorem bootD : bootBuiltins "dict" = some (.type "dict") := by decide +kernel
/-! an own error -/
structure ExcOk (K : PySem.W.Frag) (mg : Str → Option Value) (x : Str) : Prop where
  gm : mg x = some (.ref (He.ga K x))
  ex : PySem.W.excIn K (He.ga K x) He.veBase "ValueError.__new__" = true
  kp : PySem.W.keepIn K (.ref (He.ga K x)) = true
  sb : PySem.W.subIn K (.ref (He.ga K x)) (.type "BaseException") = some true
  ty : PySem.W.typeIn K (.ref (He.ga K x)) = some (.type "type")
theorem ds_raiseE {x m : Str} {j : Nat} {p p2 : Pos} {pos2 : Pos} (Z : ExcOk X.K X.mg x) (hc : X.calm = true) (tk : Takes X Wx) (hg : Gl X x) (hdb : (x == ("__debug__" : Str)) = false := by decide) :
    DSt X g Wx (.Raise (some (.Call (.Name x p) [.Constant (.str m) j p2] [] pos2)) none pos) (dRaise (He.ga X.K x)) :=
  ds_raise hc tk PySem.F.excBase_ValueError Z.ex Z.gm Z.kp (raises_own Z.sb Z.ty) hg hdb

/-! calls of built-ins, told once -/
theorem de_blt {id : String} {x : Str} {p : Pos} {r : List V → Hp → VK → Prop} {q : PN} (hc : CallR X (.builtin id) r) (hg : Gl X x) (hm : X.mg x = none) (hv : bootBuiltins x = some (.builtin id)) (pr : PrN g r q) (ha : DA X g Wx (e :: es) tA) (hn : x ≠ "__name__" := by decide) (hdb : (x == ("__debug__" : Str)) = false := by decide)
    (he : starEach (e :: es) X.env = (false, eval e X.env) :: starEach es X.env := by rfl) (hpl : (backTo pos (starEach es X.env)).any (·.1) = false := by rfl) : DE X g Wx (.Call (.Name x p) (e :: es) [] pos) (dCallP q tA) :=
  de_callP (pe_callB hc hg hm hv ha.pa hn hdb he hpl) pr ha
theorem de_bty {T : String} {x : Str} {p : Pos} {r : List V → Hp → VK → Prop} {q : PN} (hc : CallR X (.type T) r) (hg : Gl X x) (hm : X.mg x = none) (hv : bootBuiltins x = some (.type T)) (pr : PrN g r q) (ha : DA X g Wx (e :: es) tA) (hn : x ≠ "__name__" := by decide) (hdb : (x == ("__debug__" : Str)) = false := by decide)
    (he : starEach (e :: es) X.env = (false, eval e X.env) :: starEach es X.env := by rfl) (hpl : (backTo pos (starEach es X.env)).any (·.1) = false := by rfl) : DE X g Wx (.Call (.Name x p) (e :: es) [] pos) (dCallP q tA) :=
  de_callP (pe_callTy hc hg hm hv ha.pa hn hdb he hpl) pr ha
theorem de_mt {id : String} {name : Str} {apos cpos : Pos} {o : Expr} {r : V → List V → Hp → VK → Prop} {q : PM} (pa : PlainAttrs "str") (slot : Slot "str" name id) (hty : typeOf (.builtin id) = pure (.type "method_descriptor")) (hm : MtR X id r) (pr : PrM g r q) (ho : DE X g Wx o ta) (ha : DA X g Wx (e :: es) tA)
    (hbase : attributeBase o name X.env (eval o X.env) = eval o X.env := by rfl)
    (hfew : ((backTo cpos (starEach (e :: es) X.env)).all (fun x => !x.1) && (backToKw cpos (keywordEach [] X.env)).all (fun x => x.1.isSome)
      && decide ((e :: es).length + ([] : List Keyword).length + (if ([] : List Keyword).isEmpty then 0 else 1) < 30)) = true := by rfl)
    (hline : (apos.endLine == cpos.line) = true := by rfl) (hs : starEach (e :: es) X.env = (false, eval e X.env) :: starEach es X.env := by rfl) (hplain : (backTo cpos (starEach es X.env)).any (·.1) = false := by rfl) :
    DE X g Wx (.Call (.Attribute o name apos) (e :: es) [] cpos) (dMs q ta tA) := de_ms (pe_bm pa slot hty hm ho.pe ha.pa hbase hfew hline hs hplain) pr ho ha
theorem de_ml {id : String} {name : Str} {apos cpos : Pos} {o : Expr} {r : V → List V → Hp → VK → Prop} {q : PL} (pa : PlainAttrs "list") (slot : Slot "list" name id) (hty : typeOf (.builtin id) = pure (.type "method_descriptor")) (hm : MtR X id r) (pr : PrL g r q) (gK : g.K = X.K) (ho : DE X g Wx o ta) (ha : DA X g Wx (e :: es) tA)
    (hbase : attributeBase o name X.env (eval o X.env) = eval o X.env := by rfl)
    (hfew : ((backTo cpos (starEach (e :: es) X.env)).all (fun x => !x.1) && (backToKw cpos (keywordEach [] X.env)).all (fun x => x.1.isSome)
      && decide ((e :: es).length + ([] : List Keyword).length + (if ([] : List Keyword).isEmpty then 0 else 1) < 30)) = true := by rfl)
    (hline : (apos.endLine == cpos.line) = true := by rfl) (hs : starEach (e :: es) X.env = (false, eval e X.env) :: starEach es X.env := by rfl) (hplain : (backTo cpos (starEach es X.env)).any (·.1) = false := by rfl) :
    DE X g Wx (.Call (.Attribute o name apos) (e :: es) [] cpos) (dMi q ta tA) := de_mi (pe_bm pa slot hty hm ho.pe ha.pa hbase hfew hline hs hplain) pr gK ho ha
end
end DL

/-! text DLX -/
set_option Elab.async false
set_option linter.all false
set_option maxRecDepth 100000
set_option maxHeartbeats 2000000
namespace DL
open PySem PySem.Spec PyProof.Rows L2
/-! ### a[::-1] of texts and lists -/
def revS (z : Str) : Str := ⟨z.cps.toList.reverse.toArray⟩
def rRev (K : PySem.W.Frag) : V → Hp → VK → Prop := fun x H Q => (∃ z, x = .str z ∧ z.length ≤ sizeLine ∧ Q (.str (revS z)) H) ∨ (∃ a xs, x = .ref a ∧ SqL K H a xs ∧ ∀ p, H p = none → Q (.ref p) (upd H p (.lst xs.reverse))) ∨ ∃ a xs, x = .ref a ∧ SqT K H a xs ∧ ∀ p, H p = none → Q (.ref p) (upd H p (.tup xs.reverse))
theorem strRev (n : Nat) : Builtin.Str.strSliceIndices none none (-1) n = (List.range n).reverse := by
  rw [← PySem.W.krv_range]
  exact PySem.W.krv_sliceRange n
theorem pickRev (z : Str) : (((Builtin.Str.strSliceIndices none none (-1) z.length).filterMap (z.cps[·]?)).toArray) = z.cps.toList.reverse.toArray := by
  rw [strRev, List.filterMap_reverse]
  have : (List.range z.length).filterMap (z.cps[·]?) = z.cps.toList := PySem.W.krv_all z.cps
  rw [this]
theorem backs (its : Array Value) : ((List.range its.size).filterMap fun (m : Nat) => its[((its.size : Int) - 1 + (m : Int) * -1).toNat]?) = its.toList.reverse := by
  have e : (fun (m : Nat) => its[((its.size : Int) - 1 + (m : Int) * -1).toNat]?) = (its[·]?) ∘ fun m => its.size - 1 - m := by
    funext m
    have : ((its.size : Int) - 1 + (m : Int) * -1).toNat = its.size - 1 - m := by omega
    rw [this]
    rfl
  rw [e, ← List.filterMap_map, PySem.W.krv_range, List.filterMap_reverse, PySem.W.krv_all]
section
variable {prog : Program} {w : World} {A : Around} {E : Value → Shared → Prop} {s : Shared}
/-- the slice [::-1] over n items: from the last down, n of them -/
theorem backSl {sl : Addr} {tk : Tok} {n : Nat} {Q : Int × Int × Nat → Shared → Prop} (hs : s.heap.IsSliceOf sl .none .none (.int (-1) tk)) (h : Q ((n : Int) - 1, -1, n) s) :
    wpAny (model prog w) A (Builtin.Slice.sliceApplied (.ref sl) (pure (n : Int))) Q E s := by
  obtain ⟨o, h1, h2, h3⟩ := id hs
  have hp : Builtin.Slice.slicePlaces ((n : Int) - 1) (-1) (-1) = n := by
    unfold Builtin.Slice.slicePlaces
    rw [if_neg (by decide)]
    by_cases z : (n : Int) - 1 > -1
    · rw [if_pos z, show (- -1 : Int) = 1 from rfl, Int.ediv_one]
      omega
    · rw [if_neg z]
      omega
  have parts : ∀ {Q' : Value × Value × Value → Shared → Prop}, Q' (.none, .none, .int (-1) tk) s → wpAny (model prog w) A (Builtin.Slice.sliceFields (.ref sl)) Q' E s := fun q =>
    wpAny_bind (wpAny_field h1 h3 (x := .none) rfl (wpAny_bind (wpAny_field h1 h3 (x := .none) rfl (wpAny_bind (wpAny_field h1 h3 (x := .int (-1) tk) rfl (wpAny_pure q))))))
  unfold Builtin.Slice.sliceApplied
  refine wpAny_bind (parts (wpAny_bind (HT.slicePart_ (.int (-1) tk) ?_)))
  refine wpAny_ite_false (by decide) ?_
  refine wpAny_bind (HT.slicePart_ .none (wpAny_bind (HT.slicePart_ .none (wpAny_bind (wpAny_pure ?_)))))
  show wpAny _ _ (pure ((n : Int) - 1, (-1 : Int), Builtin.Slice.slicePlaces ((n : Int) - 1) (-1) (-1))) _ _ s
  rw [hp]
  exact wpAny_pure h
/-- t[slice] where the slice is not the whole: a new tuple of what stands at its places -/
theorem tup_slice {t sl : Addr} {its : Array Value} {lo st : Int} {n : Nat} {ys : List Value} {Q : Value → Shared → Prop} (ht : IsTup s.heap t its) (hT : s.TypeIs (.ref sl) "slice")
    (ha : ∀ {A' : Around} {Q' : Int × Int × Nat → Shared → Prop}, Q' (lo, st, n) s → wpAny (model prog w) A' (Builtin.Slice.sliceApplied (.ref sl) (pure (its.size : Int))) Q' E s)
    (hno : (lo == 0 && st == 1 && n == its.size) = false) (hy : ((List.range n).filterMap fun (m : Nat) => its[(lo + (m : Int) * st).toNat]?) = ys) (hz : ys.length ≤ sizeLine)
    (h : Q (.ref s.heap.objs.size) { s with heap := s.heap.push { cls := .type "tuple", data := .seq ys.toArray } }) : wpAny (model prog w) A (getItem (.ref t) (.ref sl)) Q E s := by
  have code : ∀ {A' : Around} {R : PySem.Fin → Shared → Prop}, R (.done (.ret (.ref s.heap.objs.size))) { s with heap := s.heap.push { cls := .type "tuple", data := .seq ys.toArray } } → wpAny (model prog w) A' (Builtin.«tuple.__getitem__» ⟨[.ref t, .ref sl], []⟩) R E s := by
    intro A' R q
    show wpAny _ _ (Builtin.Tuple.tupleItemsOf (.ref t) >>= _) _ _ s
    refine wpAny_bind (tupleItemsOf_ ht (wpAny_bind (wpAny_typeOf hT ?_)))
    refine wpAny_ite_true (by decide) (wpAny_bind (ha ?_))
    show wpAny _ _ (if (lo == 0 && st == 1 && n == its.size) = true then _ else _) _ _ s
    rw [hno, hy]
    refine wpAny_ite_false rfl (wpAny_bind (m := Builtin.Tuple.tupleExact _) (wpAny_newObj_type (wpAny_pure q) ?_))
    show ys.toArray.size ≤ sizeLine
    rw [List.size_toArray]
    exact hz
  have called : ∀ {A' : Around} {R : Value → Shared → Prop}, R (.ref s.heap.objs.size) { s with heap := s.heap.push { cls := .type "tuple", data := .seq ys.toArray } } → wpAny (model prog w) A' (call (.builtin "tuple.__getitem__") [.ref t, .ref sl]) R E s := fun q =>
    wpAny_call_entry slot_tuple_getitem ht.typeIs entry_tuple_getitem (code ⟨_, rfl, q⟩) (args_tuple_getitem _ _)
  unfold getItem
  refine wpAny_holding (wpAny_bind (wpAny_sequenceKey ht.typeIs (by decide) ?_))
  exact wpAny_bind (wpAny_callSpecial?_slot (name := Str.ofString "__getitem__") ht.typeIs slot_tuple_getitem (called (wpAny_pure h)))
end
section
variable {X : Cx} {g : Gd} {Wx : WX} {e a : Expr} {te : TE} {ta : DTE} {pos p2 p3 p4 : Pos} {j : Nat}
theorem pe_rev (he : PE X e te) : PE X (.Subscript e (.Slice none none (some (.UnaryOp .USub (.Constant (.int 1) j p3) p4)) p2) pos) (fun σ H Q => te σ H fun x H1 => rRev X.K x H1 Q) := by
  refine ⟨fun pins s σ H Q I h => ?_⟩
  refine Subscript_ (thn (he.run pins s σ H _ I h) fun v s1 ⟨x, H1, I1, r1, q1⟩ => ?_)
  refine wpAny_Slice ?_
  rw [evalPart_none]
  refine wpAny_pure ?_
  rw [evalPart_some]
  have hs : PE X (.UnaryOp .USub (.Constant (.int 1) j p3) p4) (fun σ H Q => Q (.int (-1)) H) := peMono (pe_un un_neg pe_int) fun σ H Q q => ⟨1, rfl, q⟩
  refine wpAny_pure (thn (hs.run pins s1 σ H1 (fun z H2 => z = .int (-1) ∧ H2 = H1) I1 ⟨rfl, rfl⟩) fun u s3 ⟨z, H3, I3, r3, ez, eH⟩ => ?_)
  subst ez eH
  obtain ⟨tk, rfl⟩ := r3
  have I4 : Inv X pins σ H3 { s3 with heap := s3.heap.push { cls := .type "slice", data := .fields #[.none, .none, .int (-1) tk] } } := I3.kept (t' := s3.toks) fun b ob q => Heap.get?_push_of_some _ q
  have sl : Heap.IsSliceOf (s3.heap.push { cls := .type "slice", data := .fields #[.none, .none, .int (-1) tk] }) s3.heap.objs.size .none .none (.int (-1) tk) := Heap.IsSliceOf.new ..
  show wpAny (model X.prog X.w) X.A (subscriptTail e (.Slice none none (some (.UnaryOp .USub (.Constant (.int 1) j p3) p4)) p2) v (.ref s3.heap.objs.size)) (EP X pins σ Q) X.xe { s3 with heap := s3.heap.push { cls := .type "slice", data := .fields #[.none, .none, .int (-1) tk] } }
  rcases q1 with ⟨z, rfl, hz, q⟩ | ⟨a, xs, rfl, hx, q⟩ | ⟨a, xs, rfl, hx, q⟩
  · obtain ⟨t, rfl⟩ := r1
    obtain ⟨os, hos, hcs, hds⟩ := sl
    refine tail_any (ops := [.str z t, .ref s3.heap.objs.size]) (T := "str") (typeIs_str _ _ _) F.slot_str_getitem.lookup ?_ (by with_unfolding_all rfl)
    refine wpAny_getItem_str_slice (l := none) (u := none) (st := some (-1, tk)) ⟨os, hos, hcs, hds⟩ rfl ?_
    show Made.post (if (((-1 : Int) == 1) && (Builtin.Str.strSliceIndices none none (-1) z.length).length == z.length) = true then Made.val (.str z t) else Made.str ⟨((Builtin.Str.strSliceIndices none none (-1) z.length).filterMap (z.cps[·]?)).toArray⟩) (EP X pins σ Q) _
    rw [if_neg (by simp), pickRev]
    exact ⟨by
      have e : (z.cps.toList.reverse.toArray).size = z.length := by simp [Str.length]
      show (z.cps.toList.reverse.toArray).size ≤ _
      rw [e]; exact hz, .str (revS z), _, I4.tok _, ⟨_, rfl⟩, q⟩
  · cases r1
    obtain ⟨its, r, ht, hz⟩ := I4.list hx
    refine tail_any (ops := [.ref a, .ref s3.heap.objs.size]) (T := "list") ht.isList.typeIs slot_list_getitem.lookup ?_ (by with_unfolding_all rfl)
    refine wpAny_getItem_list_slice ht.isList sl .none .none (.int _ _) (by decide) ?_ (by rw [List.size_toArray, ← r.length]; exact hz)
    rw [PySem.W.krv_pick]
    refine ⟨.ref _, _, I4.laid (t' := s3.toks) (o := .lst xs.reverse) (fun b ob q => Heap.get?_push_of_some _ q) (Nat.le_refl _) ?_, rfl, q _ (I4.hok.fresh (Nat.le_refl _))⟩
    exact ⟨by rw [List.length_reverse]; exact hz, its.reverse, 0, r.reverse, Heap.get?_push_size _ rfl⟩
  · cases r1
    obtain ⟨its, r, ht, hz⟩ := I4.tuple hx
    refine tail_any (ops := [.ref a, .ref s3.heap.objs.size]) ht.typeIs slot_tuple_getitem.lookup ?_ (by with_unfolding_all rfl)
    have e : its.toArray.size = xs.length := by rw [List.size_toArray]; exact r.length.symm
    refine tup_slice (n := its.toArray.size) ht (let ⟨o, h1, h2, _⟩ := sl; ⟨o, h1, h2⟩) (fun q => backSl sl q) (by rw [Bool.and_assoc]; simp) (backs _) (by rw [List.length_reverse, Array.length_toList, e]; exact hz) ?_
    refine ⟨.ref _, _, I4.laid (t' := s3.toks) (o := .tup xs.reverse) (fun b ob q => Heap.get?_push_of_some _ q) (Nat.le_refl _) ?_, rfl, q _ (I4.hok.fresh (Nat.le_refl _))⟩
    exact ⟨by rw [List.length_reverse]; exact hz, its.reverse, r.reverse, IsTup.new _ _⟩
def revP : P1 := fun d Q => match d with
  | .sc (.str z) => z.length ≤ sizeLine ∧ Q (.pu (.sc (.str (revS z))))
  | .lst xs => Q (.ow (.lst xs.reverse))
  | .tup xs => Q (.pu (.tup xs.reverse))
  | _ => False
theorem pr_rev : Pr1 g (rRev g.K) revP := by
  refine ⟨fun d Q Q' h q => ?_, fun {F H O σ δ x dx Q Qd} r0 hx hp k => ?_⟩
  · unfold revP at q ⊢
    split at q
    · exact ⟨q.1, h _ q.2⟩
    · exact h _ q
    · exact h _ q
    · exact q.elim
  · unfold revP at hp
    split at hp
    · cases hx
      exact .inl ⟨_, rfl, hp.1, k _ H F _ (Step.refl _ _ _) r0 (VR.sc _) hp.2⟩
    · obtain ⟨a, vs, rfl, h1, h2⟩ := hx
      refine .inr (.inl ⟨a, vs, rfl, .of h1, fun p n => ?_⟩)
      obtain ⟨s, r1, x1⟩ := r0.newL n h2.reverse
      exact k _ _ F _ s r1 x1 hp
    · obtain ⟨a, vs, rfl, h1, h2⟩ := hx
      refine .inr (.inr ⟨a, vs, rfl, r0.sub.sqT h1, fun p n => ?_⟩)
      obtain ⟨F', s, r1, x1⟩ := r0.newT n h2.reverse
      exact k _ _ F' _ s r1 (VR.rep x1) hp
    · exact hp.elim
theorem de_rev (gK : g.K = X.K) (ha : DE X g Wx a ta) : DE X g Wx (.Subscript a (.Slice none none (some (.UnaryOp .USub (.Constant (.int 1) j p3) p4)) p2) pos) (dUn revP ta) :=
  ⟨dUn_mono (pr_rev (g := g)).mono ha.mono, peMono (pe_rev ha.pe) fun σ H Q h => by rw [← gK]; exact unCan (pr_rev (g := g)) ha.mono σ H Q h⟩
end
end DL

/-! text DLN -/
set_option Elab.async false
set_option linter.all false
set_option maxRecDepth 100000
set_option maxHeartbeats 2000000
namespace DL
open PySem PySem.Spec PyProof.Rows L2 LamX PySem.SeqAt
/-! ### methods of lists that change nothing: count -/
section
variable {X : Cx} {g : Gd} {Wx : WX} {e a b c : Expr} {es rest : List Expr} {ta tb tc : DTE} {tA : DTA} {pos : Pos}
def dMl (p : PM) (ta : DTE) (tA : DTA) : DTE := fun δ Q Y => ta δ (fun x δ1 => (∃ xs, val δ1 x = some (.lst xs)) ∧ tA δ1 (fun ws δ2 => ∃ dx, val δ2 x = some dx ∧ ∃ ds, vals δ2 ws = some ds ∧ p dx ds fun w => Q w δ2) Y) Y
theorem de_mlc {r : V → List V → Hp → VK → Prop} {p : PM} {tA : DTA} (hp : PE X e (tBM X.K "list" r (canE g Wx ta) (canA g Wx tA))) (gK : g.K = X.K) (pr : PrM g r p) (ha : DE X g Wx a ta) (hA : DA X g Wx es tA) : DE X g Wx e (dMl p ta tA) := by
  refine ⟨fun δ Q Q' Y Y' hQ hY h => ha.mono _ _ _ _ _ (fun x δ1 ⟨z, h⟩ => ⟨z, hA.mono _ _ _ _ _ (fun ws δ2 ⟨dx, e1, ds, e2, h⟩ => ⟨dx, e1, ds, e2, pr.mono _ _ _ _ (fun w => hQ w δ2) h⟩) hY h⟩) hY h, peMono hp ?_⟩
  rintro σ H Q ⟨F, O, δ, r0, q⟩
  refine ⟨F, O, δ, r0, ha.mono _ _ _ _ _ (fun x δ1 q v F1 H1 O1 s1 r1 x1 => ?_) (fun _ _ z => z) q⟩
  obtain ⟨⟨xs, ez⟩, q⟩ := q
  obtain ⟨l, vs, rfl, h1, h2⟩ := r1.cont x1 ez
  refine ⟨.inl ⟨rfl, vs, .of h1⟩, F1, O1, δ1, r1, hA.mono _ _ _ _ _ (fun ws δ2 q vs F2 H2 O2 s2 r2 x2 => ?_) (fun c δ z => z.step s1) q⟩
  obtain ⟨dx, e1, ds, e2, q⟩ := q
  have s02 := s1.trans s2
  exact pr.ok r2 (r2.cont (x1.step s2) e1) (r2.conts x2 e2) q fun z H4 F4 w s4 r4 x4 q => q z F4 H4 O2 (s02.trans s4) r4 (x4.back s02)
theorem de_mlr {id : String} {name : Str} {apos cpos : Pos} {o : Expr} {r : V → List V → Hp → VK → Prop} {q : PM} (pa : PlainAttrs "list") (slot : Slot "list" name id) (hty : typeOf (.builtin id) = pure (.type "method_descriptor")) (hm : MtR X id r) (gK : g.K = X.K) (pr : PrM g r q) (ho : DE X g Wx o ta) (ha : DA X g Wx (e :: es) tA)
    (hbase : attributeBase o name X.env (eval o X.env) = eval o X.env := by rfl)
    (hfew : ((backTo cpos (starEach (e :: es) X.env)).all (fun x => !x.1) && (backToKw cpos (keywordEach [] X.env)).all (fun x => x.1.isSome)
      && decide ((e :: es).length + ([] : List Keyword).length + (if ([] : List Keyword).isEmpty then 0 else 1) < 30)) = true := by rfl)
    (hline : (apos.endLine == cpos.line) = true := by rfl) (hs : starEach (e :: es) X.env = (false, eval e X.env) :: starEach es X.env := by rfl) (hplain : (backTo cpos (starEach es X.env)).any (·.1) = false := by rfl) :
    DE X g Wx (.Call (.Attribute o name apos) (e :: es) [] cpos) (dMl q ta tA) := de_mlc (pe_bm pa slot hty hm ho.pe ha.pa hbase hfew hline hs hplain) gK pr ho ha
def rCntS (K : PySem.W.Frag) : V → List V → Hp → VK → Prop := fun x xs H Q => ∃ (p : Addr) (ns : List Str) (k : Str), x = .ref p ∧ xs = [.str k] ∧ SqL K H p (ns.map V.str) ∧ Q (.int (ns.count k : Nat)) H
theorem strs_count (k : Str) : ∀ {vs : List Value} {ys : List Str}, StrsAre vs ys → vs.countP (isStrOf k) = ys.count k
  | _, _, .nil => rfl
  | _, _, .cons n u h => by
    rw [List.countP_cons, List.count_cons, strs_count k h]
    rfl
theorem mt_lcountS : MtR X "list.count" (rCntS X.K) := by
  intro pins s σ H x xs v us Q I rx rxs h
  obtain ⟨p, ns, k, rfl, rfl, hs, q⟩ := h
  cases rx
  obtain ⟨u, rfl, ru⟩ := rxs.one
  obtain ⟨t, rfl⟩ := ru
  obtain ⟨its, rv, hl, hlen⟩ := I.list hs
  have hi := strs_of_vals rv
  obtain ⟨⟨cls, dd, data, sl⟩, n, ho, hc, hdn, hd⟩ := hl
  simp only at hc hd
  subst hc hd
  refine call_meets PySem.F.slot_list_count ⟨_, ho, rfl⟩ PySem.F.entry_list_count (PySem.F.args_list_count_2 _ _) (list_countAt p its.toArray n dd sl (.str k t) (isStrOf k)) ⟨ho, fun y hy => (eq_isStrOf k t hi y (by simpa using hy)).at _ _, ?_⟩
  have ec : its.toArray.toList.countP (isStrOf k) = ns.count k := strs_count k hi
  refine ⟨.int (ns.count k : Nat), H, I.tok _, ⟨s.toks, ?_⟩, q⟩
  show Value.int ((its.toArray.toList.countP (isStrOf k) : Nat) : Int) s.toks = Value.int ((ns.count k : Nat) : Int) s.toks
  rw [ec]
theorem MtR.is {id : String} {r r' : V → List V → Hp → VK → Prop} (h : MtR X id r) (i : ∀ x xs H Q, r' x xs H Q → r x xs H Q) : MtR X id r' := fun pins s σ H x xs v us Q I rx rs q => h pins s σ H x xs v us Q I rx rs (i _ _ _ _ q)
/-- count of an int among ints, of a text among texts -/
def intsD : List D → Option (List Int)
  | [] => some []
  | .sc (.int i) :: r => (intsD r).map (i :: ·)
  | _ => none
def lcountP : PM := fun d ds Q => match d, ds with
  | .lst xs, [.sc (.str z)] => ∃ ys, strsD xs = some ys ∧ Q (.pu (.sc (.int (ys.count z : Nat))))
  | .lst xs, [.sc (.int z)] => ∃ ys, intsD xs = some ys ∧ Q (.pu (.sc (.int (ys.count z : Nat))))
  | _, _ => False
theorem ints_eq : ∀ {xs : List D} {ys : List Int}, intsD xs = some ys → xs = ys.map fun i => .sc (.int i)
  | [], ys, e => by cases e; rfl
  | x :: xs, ys, e => by
    unfold intsD at e
    split at e
    · rename_i h; cases h
    · rename_i i r h
      cases h
      cases h2 : intsD xs with
      | none => rw [h2] at e; cases e
      | some zs =>
        rw [h2] at e
        cases e
        rw [ints_eq h2]
        rfl
    · cases e
theorem scI_int {K : PySem.W.Frag} {F : Hp} : ∀ {ys : List Int} {vs : List V}, Reps K F vs (ys.map fun i => .sc (.int i)) → vs = ys.map V.int
  | [], _, .nil => rfl
  | i :: ys, _, .cons h r => by
    cases h
    rw [scI_int r]
    rfl
def rCntA (K : PySem.W.Frag) : V → List V → Hp → VK → Prop := fun x xs H Q => rCntS K x xs H Q ∨ rCntI K x xs H Q
theorem mt_lcountA : MtR X "list.count" (rCntA X.K) := MtR.or mt_lcountS mt_lcount
theorem pr_lcount : PrM g (rCntA g.K) lcountP := by
  refine ⟨fun d ds Q Q' h q => ?_, fun {F H O σ δ x dx xs ds Q Qd} r0 hx hxs hp k => ?_⟩
  · unfold lcountP at q ⊢
    split at q
    · obtain ⟨ys, e, q⟩ := q; exact ⟨ys, e, h _ q⟩
    · obtain ⟨ys, e, q⟩ := q; exact ⟨ys, e, h _ q⟩
    · exact q.elim
  · unfold lcountP at hp
    split at hp
    · obtain ⟨ys, e, q⟩ := hp
      obtain ⟨y, rfl, hy⟩ := Paired.c1 hxs
      obtain ⟨p, vs, rfl, h1, h2⟩ := hx
      have e1 := strs_eq e
      subst e1
      have e2 := h2.scI
      subst e2
      cases hy
      exact .inl ⟨p, ys, _, rfl, rfl, .of h1, k _ H F _ (Step.refl _ _ _) r0 (VR.sc _) q⟩
    · obtain ⟨ys, e, q⟩ := hp
      obtain ⟨y, rfl, hy⟩ := Paired.c1 hxs
      obtain ⟨p, vs, rfl, h1, h2⟩ := hx
      have e1 := ints_eq e
      subst e1
      have e2 := scI_int h2
      subst e2
      cases hy
      exact .inr ⟨p, ys, _, rfl, rfl, .of h1, k _ H F _ (Step.refl _ _ _) r0 (VR.sc _) q⟩
    · exact hp.elim
/-! ### is True, is False -/
def isBP (neg : Bool) : P2 := fun dx dy Q => match dx, dy with
  | .sc (.bl a), .sc (.bl b) => Q (.pu (.sc (.bl (neg ^^ decide (a = b)))))
  | _, _ => False
theorem isBP_mono (neg : Bool) : Mo2 (isBP neg) := fun dx dy Q Q' h q => by
  unfold isBP at q ⊢
  split at q <;> first
    | exact h _ q
    | exact q.elim
theorem pr_isB : Pr2 g (fun x y H Q => ∃ a b, x = .bl a ∧ y = .bl b ∧ Q (.bl (decide (a = b))) H) (isBP false) := by
  refine Pr2.sc (isBP_mono _) fun {F H x y dx dy Q Qd} sb hx hy hp k => ?_
  unfold isBP at hp
  split at hp
  · cases hx; cases hy; exact ⟨_, _, rfl, rfl, k _ (by simpa using hp)⟩
  · exact hp.elim
theorem pr_notB : Pr2 g (fun x y H Q => ∃ a b, x = .bl a ∧ y = .bl b ∧ Q (.bl (!decide (a = b))) H) (isBP true) := by
  refine Pr2.sc (isBP_mono _) fun {F H x y dx dy Q Qd} sb hx hy hp k => ?_
  unfold isBP at hp
  split at hp
  · cases hx; cases hy; exact ⟨_, _, rfl, rfl, k _ (by simpa using hp)⟩
  · exact hp.elim
/-! ### what simp leaves alone: the rest behind a call, behind a comprehension -/
theorem call_o {sp : DSp} {tA : DTA} {δ : DS} {Q : Wv → DS → Prop} {Y : Value → DS → Prop} (h : ∀ R : Wv → DS → Prop, R = Q → dCall sp tA δ R Y) : dCall sp tA δ Q Y := h _ rfl
end
end DL

/-! text RL -/
set_option Elab.async false
set_option linter.all false
set_option maxRecDepth 100000
set_option maxHeartbeats 2000000
namespace DL
open PySem PySem.Spec PyProof.Rows L2
/-! ### readings: loops and comprehensions -/
theorem for_k {gt : DTG} {tb : DTS} {D : DEnds} (I : Nat → DS → Prop) : ∀ (ds : List DL.D) (i : Nat) (δ : DS),
    (∀ j d δ K, ds[j]? = some d → I (i + j) δ → (∀ δ', I (i + j + 1) δ' → K δ') → gt d δ fun δ1 => tb { D with nx := K, ct := K, bk := D.nx } δ1) → (∀ δ, I (i + ds.length) δ → D.nx δ) → I i δ → dForL gt tb D ds δ
  | [], i, δ, _, fin, h => fin δ h
  | d :: ds, i, δ, step, fin, h => step 0 d δ _ rfl h fun δ' h' => for_k I ds (i + 1) δ' (fun j d δ K e hI k => step (j + 1) d δ K (by simpa using e) (by rw [show i + (j + 1) = i + 1 + j by omega]; exact hI) fun δ' h' => k δ' (by rw [show i + 1 + j + 1 = i + (j + 1) + 1 by omega]; exact h'))
      (fun δ hI => fin δ (by rw [List.length_cons, show i + (ds.length + 1) = i + 1 + ds.length by omega]; exact hI)) h'
theorem for_i {gt : DTG} {tb : DTS} {D : DEnds} (I : Nat → DS → Prop) {ds : List DL.D} {δ : DS} (h : I 0 δ)
    (step : ∀ j d δ K, ds[j]? = some d → I j δ → (∀ δ', I (j + 1) δ' → K δ') → gt d δ fun δ1 => tb { D with nx := K, ct := K, bk := D.nx } δ1) (fin : ∀ δ, I ds.length δ → D.nx δ) : dForL gt tb D ds δ :=
  for_k I ds 0 δ (fun j d δ K e hI k => step j d δ K e (by simpa using hI) fun δ' h' => k δ' (by simpa using h')) (fun δ hI => fin δ (by simpa using hI)) h
/-- an element, told by a function -/
theorem comp_map {gt : DTG} {te : DTE} {vs : List Nat} (f : DL.D → DL.D) {δ : DS} : ∀ (ds acc : List DL.D) (Q : List DL.D → DS → Prop),
    (∀ d ∈ ds, ∀ K : Wv → DS → Prop, (∀ δ3, δ3.wipe vs = δ → K (.pu (f d)) δ3) → gt d δ fun δ1 => te δ1 K fun _ _ => False) → acc.length + ds.length ≤ sizeLine → Q (acc ++ ds.map f) δ → dComp gt dYes te vs ds acc δ Q
  | [], acc, Q, _, _, q => by show Q acc δ; simpa using q
  | d :: ds, acc, Q, h, hz, q => by
    have hz' : acc.length + (ds.length + 1) ≤ sizeLine := hz
    have := h d (List.mem_cons_self ..) (fun w δ3 => ∃ y, w = .pu y ∧ acc.length < sizeLine ∧ dComp gt dYes te vs ds (acc ++ [y]) (δ3.wipe vs) Q) fun δ3 e => ⟨_, rfl, by omega, by
      rw [e]
      exact comp_map f ds (acc ++ [f d]) Q (fun d hd => h d (List.mem_cons_of_mem _ hd)) (by rw [List.length_append, List.length_singleton]; omega) (by simpa using q)⟩
    exact this
/-- .. with a test -/
theorem comp_filt {gt : DTG} {tt : DTT} {te : DTE} {vs : List Nat} (p : DL.D → Bool) (f : DL.D → DL.D) {δ : DS} : ∀ (ds acc : List DL.D) (Q : List DL.D → DS → Prop),
    (∀ d ∈ ds, ∀ K : Bool → DS → Prop, (∀ δ2, δ2.wipe vs = δ → (p d = true → ∀ K' : Wv → DS → Prop, (∀ δ3, δ3.wipe vs = δ → K' (.pu (f d)) δ3) → te δ2 K' fun _ _ => False) → K (p d) δ2) → gt d δ fun δ1 => tt δ1 K fun _ _ => False) →
    acc.length + ds.length ≤ sizeLine → Q (acc ++ (ds.filter p).map f) δ → dComp gt tt te vs ds acc δ Q
  | [], acc, Q, _, _, q => by show Q acc δ; simpa using q
  | d :: ds, acc, Q, h, hz, q => by
    have hz' : acc.length + (ds.length + 1) ≤ sizeLine := hz
    refine h d (List.mem_cons_self ..) _ fun δ2 e2 he => ?_
    cases hp : p d with
    | true =>
      rw [if_pos rfl]
      refine he hp _ fun δ3 e => ⟨_, rfl, by omega, ?_⟩
      rw [e]
      refine comp_filt p f ds (acc ++ [f d]) Q (fun d hd => h d (List.mem_cons_of_mem _ hd)) (by rw [List.length_append, List.length_singleton]; omega) ?_
      rw [List.filter_cons_of_pos hp] at q
      simpa using q
    | false =>
      rw [if_neg Bool.false_ne_true, e2]
      refine comp_filt p f ds acc Q (fun d hd => h d (List.mem_cons_of_mem _ hd)) (by omega) ?_
      rw [List.filter_cons_of_neg (by simp [hp])] at q
      exact q
/-- .. with a state that goes on: J i acc δ -/
theorem comp_st {gt : DTG} {te : DTE} {vs : List Nat} (J : Nat → List DL.D → DS → Prop) {Q : List DL.D → DS → Prop} : ∀ (ds acc : List DL.D) (i : Nat) (δ : DS),
    (∀ j d acc δ (K : Wv → DS → Prop), ds[j]? = some d → J (i + j) acc δ → (∀ y δ3, acc.length < sizeLine ∧ J (i + j + 1) (acc ++ [y]) (δ3.wipe vs) → K (.pu y) δ3) → gt d δ fun δ1 => te δ1 K fun _ _ => False) → (∀ acc δ, J (i + ds.length) acc δ → Q acc δ) → J i acc δ → dComp gt dYes te vs ds acc δ Q
  | [], acc, i, δ, _, fin, h => fin _ _ h
  | d :: ds, acc, i, δ, step, fin, h => by
    refine step 0 d acc δ (fun w δ3 => ∃ y, w = .pu y ∧ acc.length < sizeLine ∧ dComp gt dYes te vs ds (acc ++ [y]) (δ3.wipe vs) Q) rfl h fun y δ3 ⟨hz, hJ⟩ => ⟨y, rfl, hz, ?_⟩
    exact comp_st J ds (acc ++ [y]) (i + 1) (δ3.wipe vs) (fun j d acc δ K e hI k => step (j + 1) d acc δ K (by simpa using e) (by rw [show i + (j + 1) = i + 1 + j by omega]; exact hI) fun y δ3 ⟨h1, h2⟩ => k y δ3 ⟨h1, by rw [show i + 1 + j + 1 = i + (j + 1) + 1 by omega]; exact h2⟩)
      (fun acc δ hI => fin acc δ (by rw [List.length_cons, show i + (ds.length + 1) = i + 1 + ds.length by omega]; exact hI)) hJ
/-! ### contracts -/
abbrev DI' (i : Int) : DL.D := .sc (.int i)
abbrev DS' (z : Str) : DL.D := .sc (.str z)
abbrev DB' (b : Bool) : DL.D := .sc (.bl b)
abbrev DN' : DL.D := .sc .non
/-- frozen arguments, a result or an error by a function -/
def spX (K : PySem.W.Frag) (n : Nat) (pre : List DL.D → Prop) (f : List DL.D → Except Str Wv) : DSp := fun ws Q Y => ∃ ds, pures ws = some ds ∧ ds.length = n ∧ pre ds ∧ match f ds with
  | .ok w => isRes w ∧ Q w ws
  | .error c => Y (.ref (He.ga K c)) ws
theorem spX_mono {K : PySem.W.Frag} {n : Nat} {pre : List DL.D → Prop} {f : List DL.D → Except Str Wv} : MonoP (spX K n pre f) := fun ws Q Q' Y Y' hQ hY ⟨ds, e, l, p, q⟩ => ⟨ds, e, l, p, by
  cases h : f ds with
  | ok w => rw [h] at q; exact ⟨q.1, hQ _ _ q.2⟩
  | error c => rw [h] at q; exact hY _ _ q⟩
theorem spX_len {K : PySem.W.Frag} {n : Nat} {pre : List DL.D → Prop} {f : List DL.D → Except Str Wv} {ws : List Wv} {Q : Wv → List Wv → Prop} {Y : Value → List Wv → Prop} (h : spX K n pre f ws Q Y) : ws.length = n := by
  obtain ⟨ds, e, l, p, q⟩ := h
  rw [pures_len e, List.length_map, l]
theorem kb_NoneType_bool : kitB "NoneType" "bool" = some false := by kernel_rfl
theorem kb_NoneType_int : kitB "NoneType" "int" = some false := by kernel_rfl
theorem kb_NoneType_str : kitB "NoneType" "str" = some false := by kernel_rfl
theorem kb_NoneType_tuple : kitB "NoneType" "tuple" = some false := by kernel_rfl
theorem kb_NoneType_list : kitB "NoneType" "list" = some false := by kernel_rfl
theorem kb_NoneType_dict : kitB "NoneType" "dict" = some false := by kernel_rfl
theorem kb_bool_bool : kitB "bool" "bool" = some true := by kernel_rfl
theorem kb_bool_int : kitB "bool" "int" = some true := by kernel_rfl
theorem kb_bool_str : kitB "bool" "str" = some false := by kernel_rfl
theorem kb_bool_tuple : kitB "bool" "tuple" = some false := by kernel_rfl
theorem kb_bool_list : kitB "bool" "list" = some false := by kernel_rfl
theorem kb_bool_dict : kitB "bool" "dict" = some false := by kernel_rfl
theorem kb_int_bool : kitB "int" "bool" = some false := by kernel_rfl
theorem kb_int_int : kitB "int" "int" = some true := by kernel_rfl
theorem kb_int_str : kitB "int" "str" = some false := by kernel_rfl
theorem kb_int_tuple : kitB "int" "tuple" = some false := by kernel_rfl
theorem kb_int_list : kitB "int" "list" = some false := by kernel_rfl
theorem kb_int_dict : kitB "int" "dict" = some false := by kernel_rfl
theorem kb_str_bool : kitB "str" "bool" = some false := by kernel_rfl
theorem kb_str_int : kitB "str" "int" = some false := by kernel_rfl
theorem kb_str_str : kitB "str" "str" = some true := by kernel_rfl
theorem kb_str_tuple : kitB "str" "tuple" = some false := by kernel_rfl
theorem kb_str_list : kitB "str" "list" = some false := by kernel_rfl
theorem kb_str_dict : kitB "str" "dict" = some false := by kernel_rfl
theorem kb_tuple_bool : kitB "tuple" "bool" = some false := by kernel_rfl
theorem kb_tuple_int : kitB "tuple" "int" = some false := by kernel_rfl
theorem kb_tuple_str : kitB "tuple" "str" = some false := by kernel_rfl
theorem kb_tuple_tuple : kitB "tuple" "tuple" = some true := by kernel_rfl
theorem kb_tuple_list : kitB "tuple" "list" = some false := by kernel_rfl
theorem kb_tuple_dict : kitB "tuple" "dict" = some false := by kernel_rfl
theorem kb_list_bool : kitB "list" "bool" = some false := by kernel_rfl
theorem kb_list_int : kitB "list" "int" = some false := by kernel_rfl
theorem kb_list_str : kitB "list" "str" = some false := by kernel_rfl
theorem kb_list_tuple : kitB "list" "tuple" = some false := by kernel_rfl
theorem kb_list_list : kitB "list" "list" = some true := by kernel_rfl
theorem kb_list_dict : kitB "list" "dict" = some false := by kernel_rfl
theorem kb_dict_bool : kitB "dict" "bool" = some false := by kernel_rfl
theorem kb_dict_int : kitB "dict" "int" = some false := by kernel_rfl
theorem kb_dict_str : kitB "dict" "str" = some false := by kernel_rfl
theorem kb_dict_tuple : kitB "dict" "tuple" = some false := by kernel_rfl
theorem kb_dict_list : kitB "dict" "list" = some false := by kernel_rfl
theorem kb_dict_dict : kitB "dict" "dict" = some true := by kernel_rfl
theorem ex2a {α β : Type} {a : α} {b : β} {P : α → β → Prop} : (∃ x y, (a, b) = (x, y) ∧ P x y) ↔ P a b := ⟨fun ⟨x, y, e, h⟩ => by cases e; exact h, fun h => ⟨a, b, rfl, h⟩⟩
theorem ex2b {α β : Type} {a : α} {b : β} {P : α → β → Prop} : (∃ x y, (a = x ∧ b = y) ∧ P x y) ↔ P a b := ⟨fun ⟨x, y, e, h⟩ => by obtain ⟨rfl, rfl⟩ := e; exact h, fun h => ⟨a, b, ⟨rfl, rfl⟩, h⟩⟩
theorem ex2c {α β : Type} {a : α} {b : β} {P : α → β → Prop} : (∃ x y, a = x ∧ b = y ∧ P x y) ↔ P a b := ⟨fun ⟨x, y, e, e2, h⟩ => by subst e e2; exact h, fun h => ⟨a, b, rfl, rfl, h⟩⟩
theorem bools_mapF {α : Type} (p : α → Bool) : ∀ l : List α, bools (l.map fun x => DB' (p x)) = some (l.map p)
  | [] => rfl
  | x :: l => by
    show (bools (l.map fun x => DB' (p x))).map (p x :: ·) = _
    rw [bools_mapF p l]
    rfl
theorem strs_mapF : ∀ l : List Str, strsD (l.map fun x => DS' x) = some l
  | [] => rfl
  | x :: l => by
    show (strsD (l.map fun x => DS' x)).map (x :: ·) = _
    rw [strs_mapF l]
    rfl
theorem one?_sign (c : Nat) : one? (sign c) = some c := rfl
theorem seq_o {ts us : DTS} {D : DEnds} {δ : DS} (h : ∀ N : DS → Prop, N = us D → ts { D with nx := N } δ) : dSeq ts us D δ := h _ rfl
theorem comp2_flat {gt : DTG} {ti1 : DTI} {gt1 : DTG} {tt1 : DTT} {te : DTE} {vs vs1 : List Nat} (out : DL.D → List DL.D) {δ : DS} : ∀ (ds acc : List DL.D) (Q : List DL.D → DS → Prop),
    (∀ d ∈ ds, ∀ (acc : List DL.D) (K : List DL.D → DS → Prop), acc.length + (out d).length ≤ sizeLine → (∀ δ', δ'.wipe vs = δ → K (acc ++ out d) δ') → gt d δ fun δ1 => ti1 δ1 (fun ds1 δ3 => dComp gt1 tt1 te vs1 ds1 acc (δ3.wipe vs1) K) fun _ _ => False) →
    acc.length + (ds.flatMap out).length ≤ sizeLine → Q (acc ++ ds.flatMap out) δ → dComp2 gt dYes ti1 gt1 tt1 te vs vs1 ds acc δ Q
  | [], acc, Q, _, _, q => by show Q acc δ; simpa using q
  | d :: ds, acc, Q, h, hz, q => by
    rw [List.flatMap_cons, List.length_append] at hz
    have := h d (List.mem_cons_self ..) acc (fun acc' δ4 => dComp2 gt dYes ti1 gt1 tt1 te vs vs1 ds acc' (δ4.wipe vs) Q) (by omega) fun δ' e => by
      rw [e]
      refine comp2_flat out ds (acc ++ out d) Q (fun d hd => h d (List.mem_cons_of_mem _ hd)) (by rw [List.length_append]; omega) ?_
      rw [List.flatMap_cons, ← List.append_assoc] at q
      exact q
    exact this
end DL

/-! text DLO -/
set_option Elab.async false
set_option linter.all false
set_option maxRecDepth 100000
set_option maxHeartbeats 2000000
namespace DL
open PySem PySem.Spec PyProof.Rows L2 LamX
/-! ### the end: the law's def, its head -/
theorem triples_nil : TriplesOk ([] : List Value) := by
  first | exact trivial | exact .nil | (intro i; simp) | simp [TriplesOk]
/-- the state in which the law is entered -/
theorem enter_law {K : PySem.W.Frag} {xs : List (Str × Option Str)} {H : Hp} {a : Addr} {ns : List Int} (hT : ∀ p ∈ xs, H (tabAd K p) = some (.tbl #[])) (hS : SqL K H a (ns.map V.int)) :
    ∃ F, R ⟨K, tabsOf K xs, [.ref a]⟩ F H (fun _ => none) [] ⟨[], [.pu (.scr ns)]⟩ := by
  refine ⟨fun b => match H b with
    | some (.tbl _) => none
    | o => o, ⟨fun b o e => ?_, fun i w h => by simp at h, fun k w h => ?_, fun b h => absurd rfl h, fun b ps => ?_, fun q hq => ?_, rfl⟩⟩
  · split at e
    · cases e
    · exact e
  · cases k with
    | zero =>
      cases h
      refine ⟨.ref a, rfl, .scr ?_⟩
      rcases hS with h | h
      · refine .inl ?_
        rcases h with h | ⟨o, h⟩
        · refine .inl ?_
          dsimp only
          rw [h]
        · refine .inr ⟨o, ?_⟩
          dsimp only
          rw [h]
      · exact .inr h
    | succ k => cases h
  · show (match H b with
      | some (.tbl _) => none
      | o => o) ≠ _
    split
    · intro z; cases z
    · rename_i h
      exact h ps
  · obtain ⟨p, hp, rfl⟩ := List.mem_map.mp hq
    refine ⟨#[], hT p hp, triples_nil, fun pos cv h => ?_⟩
    simp [codeAmong] at h
/-- tables behind each other -/
theorem lamAt_of {K : PySem.W.Frag} {mg : Str → Option Value} {base : Heap} {xs : List (Str × Option Str)} {cs : List (Addr × Addr)} (hcs : cs = xs.map fun p => (codeAd K p, tabAd K p)) (h : ∀ p ∈ cs, TabB base mg p.1 p.2) (inj : ∀ p ∈ xs, ∀ q ∈ xs, tabAd K q = tabAd K p → q = p) {p : Str × Option Str} (hp : p ∈ xs) : LamAt K mg base xs p :=
  ⟨hp, h (codeAd K p, tabAd K p) (by rw [hcs]; exact List.mem_map.mpr ⟨p, hp, rfl⟩), fun q hq => inj p hp q hq⟩
theorem glaw {l : PySem.W.OpenLaw} {w : World} {K : PySem.W.Frag} {mg : Str → Option Value} {fa : Addr} {h : Heap} {fas : List He.Fa} {fns : List He.DefD} {xs : DL.Ex} {k n : Nat} {sp : DSp} {fd : FuncData} (hK : SaysL fas fns xs h K) (hb : ∀ (s : Shared) (u : Value), BindsTo s fd ⟨[u], []⟩ [("script", u)])
    (hsp : ∀ ns : List Int, ns.length ≤ n → sp [.pu (.scr ns)] (fun w _ => w = .pu (.sc (.bl true))) fun _ _ => False)
    (F : ∀ base : Heap, K.In base → base.Ns mainGlobals mg → (∀ p ∈ xs.lams, LamAt K mg base xs.lams p) → GFn l.prog w K mg base (L2.CX l.prog w) k fa fd ["script"] (lift K (tabsOf K xs.lams) sp)) (hm : MonoP sp) :
    GLaw l w K (L2.CX l.prog w) k n "script" mg fa h fd (xs.lams.map fun p => (codeAd K p, tabAd K p)) (lift K (tabsOf K xs.lams) sp) := by
  obtain ⟨hK, hs, ht, hl⟩ := hK
  refine ⟨fun q hq => ?_, fun q hq => ?_, fun q hq => ?_, hb, fun H a ns hn hT hS => ?_, fun base hKb hNs hTb => ?_⟩
  · obtain ⟨p, hp, rfl⟩ := List.mem_map.mp hq
    exact (hl p hp).2.1
  · obtain ⟨p, hp, rfl⟩ := List.mem_map.mp hq
    exact (hl p hp).2.2.1
  · obtain ⟨p, hp, rfl⟩ := List.mem_map.mp hq
    exact PySem.W.codeHd_of_K hK (hl p hp).1
  · obtain ⟨F, r⟩ := enter_law (xs := xs.lams) (fun p hp => hT _ (List.mem_map.mpr ⟨p, hp, rfl⟩)) hS
    refine ⟨F, fun _ => none, [.pu (.scr ns)], r, rfl, hm _ _ _ _ _ (fun w ws e v F' H' O' _ _ x => ?_) (fun c ws z => z.elim) (hsp ns hn)⟩
    subst e
    cases x
    rfl
  · exact F base hKb hNs fun p hp => lamAt_of rfl hTb (fun p hp q hq => (hl p hp).2.2.2.2 q hq) hp
end DL

/-! text DLL -/
set_option Elab.async false
set_option linter.all false
set_option maxRecDepth 100000
set_option maxHeartbeats 2000000
namespace DL
open PySem PySem.Spec PyProof.Rows L2 LamX
/-! ### what goes on with a value, left alone until the value is known -/
def onS {α : Type} (o : Option α) (k : α → Prop) : Prop := match o with
  | some a => k a
  | none => False
def onB (k : Bool) (a b : Prop) : Prop := match k with
  | true => a
  | false => b
def onBl (o : Option D) (k : Bool → Prop) : Prop := match o with
  | some (.sc (.bl b)) => k b
  | _ => False
def onInt (o : Option D) (k : Int → Prop) : Prop := match o with
  | some (.sc (.int b)) => k b
  | _ => False
def isSD (o : Option D) (k : Prop) : Prop := match o with
  | some (.sc (.str _)) => k
  | _ => False
def isLD (o : Option D) (k : Prop) : Prop := match o with
  | some (.lst _) => k
  | _ => False
def onLM (o : Option M) (k : List D → Prop) : Prop := match o with
  | some (.lst xs) => k xs
  | _ => False
def isLM (o : Option M) (k : Prop) : Prop := match o with
  | some (.lst _) => k
  | _ => False
def onBw (w : Wv) (k : Bool → Prop) : Prop := match w with
  | .pu (.sc (.bl b)) => k b
  | _ => False
def onPu (w : Wv) (k : D → Prop) : Prop := match w with
  | .pu d => k d
  | _ => False
def onPair (ds : List D) (k : D → D → Prop) : Prop := match ds with
  | [a, b] => k a b
  | _ => False
def onOne (ds : List D) (k : D → Prop) : Prop := match ds with
  | [a] => k a
  | _ => False
def onI1 (ds : List D) (k : Int → Prop) : Prop := match ds with
  | [.sc (.int i)] => k i
  | _ => False
def onI2 (ds : List D) (k : Int → Int → Prop) : Prop := match ds with
  | [.sc (.int i), .sc (.int j)] => k i j
  | _ => False
def onTup (d : D) (k : List D → Prop) : Prop := match d with
  | .tup ds => k ds
  | _ => False
def onLst (d : D) (k : List D → Prop) : Prop := match d with
  | .lst ds => k ds
  | _ => False
def onTxt (d : D) (k : Str → Prop) : Prop := match d with
  | .sc (.str z) => k z
  | _ => False
def onCons (ds : List D) (k : D → List D → Prop) : Prop := match ds with
  | d :: r => k d r
  | [] => False
def onNil (ds : List D) (k : Prop) : Prop := match ds with
  | [] => k
  | _ => False
/-- the same, what goes on standing apart as an instance: simp does not look into it -/
class K0 where
  k : Prop
class K1 (α : Type) where
  k : α → Prop
class K2 (α β : Type) where
  k : α → β → Prop
class KB where
  a : Prop
  b : Prop
class KC where
  q : Wv → List Wv → Prop
  y : Value → List Wv → Prop
def cS {α : Type} (o : Option α) [c : K1 α] : Prop := onS o c.k
def cB (k : Bool) [c : KB] : Prop := onB k c.a c.b
def cBl (o : Option D) [c : K1 Bool] : Prop := onBl o c.k
def cInt (o : Option D) [c : K1 Int] : Prop := onInt o c.k
def cSD (o : Option D) [c : K0] : Prop := isSD o c.k
def cLD (o : Option D) [c : K0] : Prop := isLD o c.k
def cLM (o : Option M) [c : K1 (List D)] : Prop := onLM o c.k
def dLM (o : Option M) [c : K0] : Prop := isLM o c.k
def cBw (w : Wv) [c : K1 Bool] : Prop := onBw w c.k
def cPair (ds : List D) [c : K2 D D] : Prop := onPair ds c.k
def cOne (ds : List D) [c : K1 D] : Prop := onOne ds c.k
def cI1 (ds : List D) [c : K1 Int] : Prop := onI1 ds c.k
def cI2 (ds : List D) [c : K2 Int Int] : Prop := onI2 ds c.k
def cTup (d : D) [c : K1 (List D)] : Prop := onTup d c.k
def cLst (d : D) [c : K1 (List D)] : Prop := onLst d c.k
def cTxt (d : D) [c : K1 Str] : Prop := onTxt d c.k
def cCons (ds : List D) [c : K2 D (List D)] : Prop := onCons ds c.k
def cNil (ds : List D) [c : K0] : Prop := onNil ds c.k
abbrev callC (sp : DSp) (as : List Wv) [c : KC] : Prop := sp as c.q c.y
def p1K (p : P1) (x : D) [c : K1 Wv] : Prop := p x c.k
def p2K (p : P2) (x y : D) [c : K1 Wv] : Prop := p x y c.k
def pnK (p : PN) (ds : List D) [c : K1 Wv] : Prop := p ds c.k
def psK (p : PS3) (d : D) (lo hi : Option Int) [c : K1 Wv] : Prop := p d lo hi c.k
def pmK (p : PM) (d : D) (ds : List D) [c : K1 Wv] : Prop := p d ds c.k
def plK (p : PL) (xs ds : List D) [c : K2 D (List D)] : Prop := p xs ds c.k
abbrev compC (gt : DTG) (tt : DTT) (te : DTE) (vs : List Nat) (ds acc : List D) (δ : DS) [c : K2 (List D) DS] : Prop := dComp gt tt te vs ds acc δ c.k
abbrev compC2 (gt : DTG) (tt : DTT) (ti1 : DTI) (gt1 : DTG) (tt1 : DTT) (te : DTE) (vs vs1 : List Nat) (ds acc : List D) (δ : DS) [c : K2 (List D) DS] : Prop := dComp2 gt tt ti1 gt1 tt1 te vs vs1 ds acc δ c.k
theorem kc_q {q : Wv → List Wv → Prop} {y : Value → List Wv → Prop} : @KC.q ⟨q, y⟩ = q := rfl
theorem kc_y {q : Wv → List Wv → Prop} {y : Value → List Wv → Prop} : @KC.y ⟨q, y⟩ = y := rfl
theorem k1_k {α : Type} {k : α → Prop} : @K1.k α ⟨k⟩ = k := rfl
theorem k2_k {α β : Type} {k : α → β → Prop} : @K2.k α β ⟨k⟩ = k := rfl
theorem k0_k {k : Prop} : @K0.k ⟨k⟩ = k := rfl
theorem kb_a {a b : Prop} : @KB.a ⟨a, b⟩ = a := rfl
theorem kb_b {a b : Prop} : @KB.b ⟨a, b⟩ = b := rfl
theorem cS_some {α : Type} {a : α} {k : α → Prop} : @cS α (some a) ⟨k⟩ = k a := rfl
theorem cB_t {a b : Prop} : @cB true ⟨a, b⟩ = a := rfl
theorem cB_f {a b : Prop} : @cB false ⟨a, b⟩ = b := rfl
theorem cB_y {x : Bool} {a b : Prop} (h : x = true) (q : a) : @cB x ⟨a, b⟩ := by rw [h]; exact q
theorem cB_n {x : Bool} {a b : Prop} (h : x = false) (q : b) : @cB x ⟨a, b⟩ := by rw [h]; exact q
theorem cS_i {α : Type} {o : Option α} {a : α} {k : α → Prop} (h : o = some a) (q : k a) : @cS α o ⟨k⟩ := by rw [h]; exact q
theorem cBl_i {b : Bool} {k : Bool → Prop} : @cBl (some (.sc (.bl b))) ⟨k⟩ = k b := rfl
theorem cInt_i {b : Int} {k : Int → Prop} : @cInt (some (.sc (.int b))) ⟨k⟩ = k b := rfl
theorem cSD_i {z : Str} {k : Prop} : @cSD (some (.sc (.str z))) ⟨k⟩ = k := rfl
theorem cLD_i {z : List D} {k : Prop} : @cLD (some (.lst z)) ⟨k⟩ = k := rfl
theorem cLM_i {z : List D} {k : List D → Prop} : @cLM (some (.lst z)) ⟨k⟩ = k z := rfl
theorem dLM_i {z : List D} {k : Prop} : @dLM (some (.lst z)) ⟨k⟩ = k := rfl
theorem cBw_i {b : Bool} {k : Bool → Prop} : @cBw (.pu (.sc (.bl b))) ⟨k⟩ = k b := rfl
theorem cPair_i {a b : D} {k : D → D → Prop} : @cPair [a, b] ⟨k⟩ = k a b := rfl
theorem cOne_i {a : D} {k : D → Prop} : @cOne [a] ⟨k⟩ = k a := rfl
theorem cI1_i {i : Int} {k : Int → Prop} : @cI1 [.sc (.int i)] ⟨k⟩ = k i := rfl
theorem cI2_i {i j : Int} {k : Int → Int → Prop} : @cI2 [.sc (.int i), .sc (.int j)] ⟨k⟩ = k i j := rfl
theorem cTup_i {ds : List D} {k : List D → Prop} : @cTup (.tup ds) ⟨k⟩ = k ds := rfl
theorem cLst_i {ds : List D} {k : List D → Prop} : @cLst (.lst ds) ⟨k⟩ = k ds := rfl
theorem cTxt_i {z : Str} {k : Str → Prop} : @cTxt (.sc (.str z)) ⟨k⟩ = k z := rfl
theorem cCons_i {d : D} {r : List D} {k : D → List D → Prop} : @cCons (d :: r) ⟨k⟩ = k d r := rfl
theorem cNil_i {k : Prop} : @cNil [] ⟨k⟩ = k := rfl
/-- a call of a contract -/
abbrev callK (sp : DSp) (as : List Wv) (Q : Wv → List Wv → Prop) (Y : Value → List Wv → Prop) : Prop := sp as Q Y

theorem onS_some {α : Type} {a : α} {k : α → Prop} : onS (some a) k = k a := rfl
theorem onB_t {a b : Prop} : onB true a b = a := rfl
theorem onB_f {a b : Prop} : onB false a b = b := rfl
theorem onB_y {c : Bool} {a b : Prop} (h : c = true) (q : a) : onB c a b := by rw [h]; exact q
theorem onB_n {c : Bool} {a b : Prop} (h : c = false) (q : b) : onB c a b := by rw [h]; exact q
theorem onS_i {α : Type} {o : Option α} {a : α} {k : α → Prop} (h : o = some a) (q : k a) : onS o k := by rw [h]; exact q
theorem onBl_i {b : Bool} {k : Bool → Prop} : onBl (some (.sc (.bl b))) k = k b := rfl
theorem onInt_i {b : Int} {k : Int → Prop} : onInt (some (.sc (.int b))) k = k b := rfl
theorem isSD_i {z : Str} {k : Prop} : isSD (some (.sc (.str z))) k = k := rfl
theorem isLD_i {z : List D} {k : Prop} : isLD (some (.lst z)) k = k := rfl
theorem onLM_i {z : List D} {k : List D → Prop} : onLM (some (.lst z)) k = k z := rfl
theorem isLM_i {z : List D} {k : Prop} : isLM (some (.lst z)) k = k := rfl
theorem onBw_i {b : Bool} {k : Bool → Prop} : onBw (.pu (.sc (.bl b))) k = k b := rfl
theorem onPu_i {d : D} {k : D → Prop} : onPu (.pu d) k = k d := rfl
theorem onPair_i {a b : D} {k : D → D → Prop} : onPair [a, b] k = k a b := rfl
theorem onOne_i {a : D} {k : D → Prop} : onOne [a] k = k a := rfl
theorem onI1_i {i : Int} {k : Int → Prop} : onI1 [.sc (.int i)] k = k i := rfl
theorem onI2_i {i j : Int} {k : Int → Int → Prop} : onI2 [.sc (.int i), .sc (.int j)] k = k i j := rfl
theorem onTup_i {ds : List D} {k : List D → Prop} : onTup (.tup ds) k = k ds := rfl
theorem onLst_i {ds : List D} {k : List D → Prop} : onLst (.lst ds) k = k ds := rfl
theorem onTxt_i {z : Str} {k : Str → Prop} : onTxt (.sc (.str z)) k = k z := rfl
theorem onCons_i {d : D} {r : List D} {k : D → List D → Prop} : onCons (d :: r) k = k d r := rfl
theorem onNil_i {k : Prop} : onNil [] k = k := rfl
theorem ex_onS {α : Type} {o : Option α} {k : α → Prop} : (∃ a, o = some a ∧ k a) = onS o k := by
  cases o <;> simp [onS]
theorem ex_onS2 {α β : Type} {o : Option (α × β)} {k : α → β → Prop} : (∃ a b, o = some (a, b) ∧ k a b) = onS o fun p => k p.1 p.2 := by
  cases o with
  | none => simp [onS]
  | some p =>
    obtain ⟨a, b⟩ := p
    simp only [onS, Option.some.injEq, Prod.mk.injEq, eq_iff_iff]
    exact ⟨fun ⟨x, y, ⟨e1, e2⟩, h⟩ => by subst e1 e2; exact h, fun h => ⟨a, b, ⟨rfl, rfl⟩, h⟩⟩
theorem if_onB {k : Bool} {a b : Prop} : (if k = true then a else b) = onB k a b := by cases k <;> simp [onB]
theorem ex_onBl {o : Option D} {k : Bool → Prop} : (∃ b, o = some (.sc (.bl b)) ∧ k b) = onBl o k := by
  unfold onBl
  split
  · simp
  · rename_i h
    simp only [eq_iff_iff, iff_false]
    rintro ⟨b, e, _⟩
    exact h b e
theorem ex_onInt {o : Option D} {k : Int → Prop} : (∃ b, o = some (.sc (.int b)) ∧ k b) = onInt o k := by
  unfold onInt
  split
  · simp
  · rename_i h
    simp only [eq_iff_iff, iff_false]
    rintro ⟨b, e, _⟩
    exact h b e
theorem ex_isSD {o : Option D} {k : Prop} : ((∃ z, o = some (.sc (.str z))) ∧ k) = isSD o k := by
  unfold isSD
  split
  · simp
  · rename_i h
    simp only [eq_iff_iff, iff_false]
    rintro ⟨⟨b, e⟩, _⟩
    exact h b e
theorem ex_isLD {o : Option D} {k : Prop} : ((∃ z, o = some (.lst z)) ∧ k) = isLD o k := by
  unfold isLD
  split
  · simp
  · rename_i h
    simp only [eq_iff_iff, iff_false]
    rintro ⟨⟨b, e⟩, _⟩
    exact h b e
theorem ex_onLM {o : Option M} {k : List D → Prop} : (∃ z, o = some (.lst z) ∧ k z) = onLM o k := by
  unfold onLM
  split
  · simp
  · rename_i h
    simp only [eq_iff_iff, iff_false]
    rintro ⟨b, e, _⟩
    exact h b e
theorem ex_isLM {o : Option M} {k : Prop} : ((∃ z, o = some (.lst z)) ∧ k) = isLM o k := by
  unfold isLM
  split
  · simp
  · rename_i h
    simp only [eq_iff_iff, iff_false]
    rintro ⟨⟨b, e⟩, _⟩
    exact h b e
theorem ex_onBw {w : Wv} {k : Bool → Prop} : (∃ b, w = .pu (.sc (.bl b)) ∧ k b) = onBw w k := by
  unfold onBw
  split
  · simp
  · rename_i h
    simp only [eq_iff_iff, iff_false]
    rintro ⟨b, e, _⟩
    exact h b e
theorem ex_onPu {w : Wv} {k : D → Prop} : (∃ b, w = .pu b ∧ k b) = onPu w k := by
  unfold onPu
  split
  · simp
  · rename_i h
    simp only [eq_iff_iff, iff_false]
    rintro ⟨b, e, _⟩
    exact h b e
theorem ex_onTup {d : D} {k : List D → Prop} : (∃ ds, d = .tup ds ∧ k ds) = onTup d k := by
  cases d <;> simp [onTup]
theorem ex_onLst {d : D} {k : List D → Prop} : (∃ ds, d = .lst ds ∧ k ds) = onLst d k := by
  cases d <;> simp [onLst]
theorem ex_onCons {ds : List D} {k : D → List D → Prop} : (∃ d r, ds = d :: r ∧ k d r) = onCons ds k := by
  cases ds with
  | nil => simp [onCons]
  | cons d r =>
    simp only [onCons, List.cons.injEq, eq_iff_iff]
    exact ⟨fun ⟨a, b, ⟨e1, e2⟩, h⟩ => by subst e1 e2; exact h, fun h => ⟨d, r, ⟨rfl, rfl⟩, h⟩⟩
theorem ex_onNil {ds : List D} {k : Prop} : (ds = [] ∧ k) = onNil ds k := by
  cases ds <;> simp [onNil]
theorem ex_pair {o : Option (List D)} {k : D → D → Prop} : (∃ a b, o = some [a, b] ∧ k a b) = onS o fun ds => onPair ds k := by
  cases o with
  | none => simp [onS]
  | some ds =>
    simp only [onS, onPair, eq_iff_iff, Option.some.injEq]
    constructor
    · rintro ⟨a, b, rfl, h⟩; exact h
    · intro h
      split at h
      · exact ⟨_, _, rfl, h⟩
      · exact h.elim
theorem ex_one {o : Option (List D)} {k : D → Prop} : (∃ a, o = some [a] ∧ k a) = onS o fun ds => onOne ds k := by
  cases o with
  | none => simp [onS]
  | some ds =>
    simp only [onS, onOne, eq_iff_iff, Option.some.injEq]
    constructor
    · rintro ⟨a, rfl, h⟩; exact h
    · intro h
      split at h
      · exact ⟨_, rfl, h⟩
      · exact h.elim
theorem ex_i1 {o : Option (List D)} {k : Int → Prop} : (∃ a, o = some [.sc (.int a)] ∧ k a) = onS o fun ds => onI1 ds k := by
  cases o with
  | none => simp [onS]
  | some ds =>
    simp only [onS, onI1, eq_iff_iff, Option.some.injEq]
    constructor
    · rintro ⟨a, rfl, h⟩; exact h
    · intro h
      split at h
      · exact ⟨_, rfl, h⟩
      · exact h.elim
theorem ex_i2 {o : Option (List D)} {k : Int → Int → Prop} : (∃ a b, o = some [.sc (.int a), .sc (.int b)] ∧ k a b) = onS o fun ds => onI2 ds k := by
  cases o with
  | none => simp [onS]
  | some ds =>
    simp only [onS, onI2, eq_iff_iff, Option.some.injEq]
    constructor
    · rintro ⟨a, b, rfl, h⟩; exact h
    · intro h
      split at h
      · exact ⟨_, _, rfl, h⟩
      · exact h.elim
theorem ex_txt {d : D} {k : Str → Nat → Nat → Prop} : (∃ z a b, d = .sc (.str z) ∧ two? z = some (a, b) ∧ k z a b) = onTxt d fun z => onS (two? z) fun p => k z p.1 p.2 := by
  unfold onTxt
  split
  · rename_i z
    show _ = onS (two? z) fun p => k z p.1 p.2
    rw [← ex_onS2 (k := fun a b => k z a b)]
    simp only [eq_iff_iff, D.sc.injEq, V.str.injEq]
    constructor
    · rintro ⟨z', a, b, rfl, e, h⟩; exact ⟨a, b, e, h⟩
    · rintro ⟨a, b, e, h⟩; exact ⟨z, a, b, rfl, e, h⟩
  · rename_i h
    simp only [eq_iff_iff, iff_false]
    rintro ⟨z, a, b, e, _⟩
    exact h z e
section
variable {p p' : P2} {p1 : P1} {pn : PN} {ps : PS3} {pm : PM} {pl : PL} {ta tb tc : DTE} {t u : DTT} {tA : DTA} {ti ti1 : DTI} {tl th : DTO} {gt gt1 : DTG} {gs : DTGs} {tt tt1 : DTT} {te : DTE} {ts us : DTS} {vs vs1 : List Nat} {i j : Nat} {v : V} {d d' : DL.D} {ds ds' acc : List DL.D} {δ δ' : DS} {sp : DSp} {K : PySem.W.Frag} {cl : List (Addr × Str)} {last : Str} {C : Addr} {st : Bool} {neg : Bool}
  {Q : Wv → DS → Prop} {QT : Bool → DS → Prop} {QA : List Wv → DS → Prop} {QI : List DL.D → DS → Prop} {QO : Option Int → DS → Prop} {QG : DS → Prop} {Y : Value → DS → Prop} {E : DEnds} {Qp : Wv → Prop} {Ql : DL.D → List DL.D → Prop} {lo hi : Option Int}
theorem z_dC : dC v δ Q Y = Q (.pu (.sc v)) δ := rfl
theorem y_dC : dC v δ Q Y = Q (.pu (.sc v)) δ := z_dC
theorem z_dG : dG d δ Q Y = Q (.pu d) δ := rfl
theorem y_dG : dG d δ Q Y = Q (.pu d) δ := z_dG
theorem z_dOp : dOp p ta tb δ Q Y = ta δ (fun x δ1 => tb δ1 (fun y δ2 => onS (val δ2 x) fun dx => onS (val δ2 y) fun dy => p dx dy fun w => Q w δ2) Y) Y := by simp only [dOp, ex_onS]
theorem y_dOp : dOp p ta tb δ Q Y = ta δ (fun x δ1 => tb δ1 (fun y δ2 => @cS _ (val δ2 x) ⟨fun dx => @cS _ (val δ2 y) ⟨fun dy => @p2K p dx dy ⟨fun w => Q w δ2⟩⟩⟩) Y) Y := z_dOp
theorem z_dUn : dUn p1 ta δ Q Y = ta δ (fun x δ1 => onS (val δ1 x) fun dx => p1 dx fun w => Q w δ1) Y := by simp only [dUn, ex_onS]
theorem y_dUn : dUn p1 ta δ Q Y = ta δ (fun x δ1 => @cS _ (val δ1 x) ⟨fun dx => @p1K p1 dx ⟨fun w => Q w δ1⟩⟩) Y := z_dUn
theorem z_dNil : dNil δ QA Y = QA [] δ := rfl
theorem y_dNil : dNil δ QA Y = QA [] δ := z_dNil
theorem z_dCons : dCons ta tA δ QA Y = ta δ (fun x δ1 => tA δ1 (fun xs δ2 => QA (x :: xs) δ2) Y) Y := rfl
theorem y_dCons : dCons ta tA δ QA Y = ta δ (fun x δ1 => tA δ1 (fun xs δ2 => QA (x :: xs) δ2) Y) Y := z_dCons
theorem z_dCallP : dCallP pn tA δ Q Y = tA δ (fun ws δ1 => onS (vals δ1 ws) fun ds => pn ds fun w => Q w δ1) Y := by simp only [dCallP, ex_onS]
theorem y_dCallP : dCallP pn tA δ Q Y = tA δ (fun ws δ1 => @cS _ (vals δ1 ws) ⟨fun ds => @pnK pn ds ⟨fun w => Q w δ1⟩⟩) Y := z_dCallP
theorem z_dTst : dTst ta δ QT Y = ta δ (fun x δ1 => onBl (val δ1 x) fun k => QT k δ1) Y := by simp only [dTst, ex_onBl]
theorem y_dTst : dTst ta δ QT Y = ta δ (fun x δ1 => @cBl (val δ1 x) ⟨fun k => QT k δ1⟩) Y := z_dTst
theorem z_dAnd : dAnd t u δ QT Y = t δ (fun k δ1 => onB k (u δ1 QT Y) (QT false δ1)) Y := by simp only [dAnd, if_onB]
theorem y_dAnd : dAnd t u δ QT Y = t δ (fun k δ1 => @cB k ⟨(u δ1 QT Y), (QT false δ1)⟩) Y := z_dAnd
theorem z_dOr : dOr t u δ QT Y = t δ (fun k δ1 => onB k (QT true δ1) (u δ1 QT Y)) Y := by simp only [dOr, if_onB]
theorem y_dOr : dOr t u δ QT Y = t δ (fun k δ1 => @cB k ⟨(QT true δ1), (u δ1 QT Y)⟩) Y := z_dOr
theorem z_dNot : dNot t δ QT Y = t δ (fun k δ1 => QT (!k) δ1) Y := rfl
theorem y_dNot : dNot t δ QT Y = t δ (fun k δ1 => QT (!k) δ1) Y := z_dNot
theorem z_dAndV : dAndV ta tb δ Q Y = ta δ (fun x δ1 => onBl (val δ1 x) fun k => onB k (tb δ1 Q Y) (Q (.pu (.sc (.bl false))) δ1)) Y := by simp only [dAndV, ex_onBl, if_onB]
theorem y_dAndV : dAndV ta tb δ Q Y = ta δ (fun x δ1 => @cBl (val δ1 x) ⟨fun k => @cB k ⟨(tb δ1 Q Y), (Q (.pu (.sc (.bl false))) δ1)⟩⟩) Y := z_dAndV
theorem z_dOrV : dOrV ta tb δ Q Y = ta δ (fun x δ1 => onBl (val δ1 x) fun k => onB k (Q (.pu (.sc (.bl true))) δ1) (tb δ1 Q Y)) Y := by simp only [dOrV, ex_onBl, if_onB]
theorem y_dOrV : dOrV ta tb δ Q Y = ta δ (fun x δ1 => @cBl (val δ1 x) ⟨fun k => @cB k ⟨(Q (.pu (.sc (.bl true))) δ1), (tb δ1 Q Y)⟩⟩) Y := z_dOrV
theorem z_dNotV : dNotV ta δ Q Y = ta δ (fun x δ1 => onBl (val δ1 x) fun k => Q (.pu (.sc (.bl (!k)))) δ1) Y := by simp only [dNotV, ex_onBl]
theorem y_dNotV : dNotV ta δ Q Y = ta δ (fun x δ1 => @cBl (val δ1 x) ⟨fun k => Q (.pu (.sc (.bl (!k)))) δ1⟩) Y := z_dNotV
theorem z_dIf : dIf t ta tb δ Q Y = t δ (fun k δ1 => onB k (ta δ1 Q Y) (tb δ1 Q Y)) Y := by simp only [dIf, if_onB]
theorem y_dIf : dIf t ta tb δ Q Y = t δ (fun k δ1 => @cB k ⟨(ta δ1 Q Y), (tb δ1 Q Y)⟩) Y := z_dIf
theorem z_dFz : dFz ta δ Q Y = ta δ (fun w δ1 => onS (frz1 δ1 w) fun p => Q (.pu p.1) p.2) Y := by simp only [dFz, ex_onS2]
theorem y_dFz : dFz ta δ Q Y = ta δ (fun w δ1 => @cS _ (frz1 δ1 w) ⟨fun p => Q (.pu p.1) p.2⟩) Y := z_dFz
theorem z_dTup : dTup tA δ Q Y = tA δ (fun ws δ1 => onS (pures ws) fun ds => ds.length ≤ sizeLine ∧ Q (.pu (.tup ds)) δ1) Y := by simp only [dTup, ex_onS]
theorem y_dTup : dTup tA δ Q Y = tA δ (fun ws δ1 => @cS _ (pures ws) ⟨fun ds => ds.length ≤ sizeLine ∧ Q (.pu (.tup ds)) δ1⟩) Y := z_dTup
theorem z_dLst : dLst tA δ Q Y = tA δ (fun ws δ1 => onS (pures ws) fun ds => ds.length ≤ sizeLine ∧ Q (.ow (.lst ds)) δ1) Y := by simp only [dLst, ex_onS]
theorem y_dLst : dLst tA δ Q Y = tA δ (fun ws δ1 => @cS _ (pures ws) ⟨fun ds => ds.length ≤ sizeLine ∧ Q (.ow (.lst ds)) δ1⟩) Y := z_dLst
theorem z_dCall : dCall sp tA δ Q Y = tA δ (fun ws δ1 => onS (dargs δ1 ws) fun as => callK sp as (fun r as' => onS (dback δ1 ws as') fun δ2 => Q r δ2) (fun c as' => onS (dback δ1 ws as') fun δ2 => Y c δ2)) Y := by simp only [dCall, ex_onS, callK]
theorem y_dCall : dCall sp tA δ Q Y = tA δ (fun ws δ1 => @cS _ (dargs δ1 ws) ⟨fun as => @callC sp as ⟨(fun r as' => @cS _ (dback δ1 ws as') ⟨fun δ2 => Q r δ2⟩), (fun c as' => @cS _ (dback δ1 ws as') ⟨fun δ2 => Y c δ2⟩)⟩⟩) Y := z_dCall
theorem z_dLam : dLam K cl last te δ Q Y = te δ (fun _ δ1 => Q (.pu (.sc (.str last))) δ1) (fun c δ1 => pickK K c (fun r => Q (.pu (.sc (.str r))) δ1) cl) := rfl
theorem y_dLam : dLam K cl last te δ Q Y = te δ (fun _ δ1 => Q (.pu (.sc (.str last))) δ1) (fun c δ1 => pickK K c (fun r => Q (.pu (.sc (.str r))) δ1) cl) := z_dLam
theorem z_dNext : dNext E δ = E.nx δ := rfl
theorem y_dNext : dNext E δ = E.nx δ := z_dNext
theorem z_dBrk : dBrk E δ = E.bk δ := rfl
theorem y_dBrk : dBrk E δ = E.bk δ := z_dBrk
theorem z_dCnt : dCnt E δ = E.ct δ := rfl
theorem y_dCnt : dCnt E δ = E.ct δ := z_dCnt
theorem z_dDrop : dDrop ta E δ = ta δ (fun _ δ1 => E.nx δ1) E.ex := rfl
theorem y_dDrop : dDrop ta E δ = ta δ (fun _ δ1 => E.nx δ1) E.ex := z_dDrop
theorem z_dRet : dRet ta E δ = ta δ (fun w δ1 => onS (out1 δ1 w) fun p => E.rt p.1 p.2) E.ex := by simp only [dRet, ex_onS2]
theorem y_dRet : dRet ta E δ = ta δ (fun w δ1 => @cS _ (out1 δ1 w) ⟨fun p => E.rt p.1 p.2⟩) E.ex := z_dRet
theorem z_dRetN : dRetN E δ = E.rt (.pu (.sc .non)) δ := rfl
theorem y_dRetN : dRetN E δ = E.rt (.pu (.sc .non)) δ := z_dRetN
theorem z_dIfS : dIfS t ts us E δ = t δ (fun k δ1 => onB k (ts E δ1) (us E δ1)) E.ex := by simp only [dIfS, if_onB]
theorem y_dIfS : dIfS t ts us E δ = t δ (fun k δ1 => @cB k ⟨(ts E δ1), (us E δ1)⟩) E.ex := z_dIfS
theorem z_dSet : dSet i ta E δ = ta δ (fun w δ1 => onS (put1 δ1 i w) E.nx) E.ex := by simp only [dSet, ex_onS]
theorem y_dSet : dSet i ta E δ = ta δ (fun w δ1 => @cS _ (put1 δ1 i w) ⟨E.nx⟩) E.ex := z_dSet
theorem z_dgName : dgName i d δ QG = QG (δ.put i (some (.pu d))) := rfl
theorem y_dgName : dgName i d δ QG = QG (δ.put i (some (.pu d))) := z_dgName
theorem z_dgNil : dgNil ds δ QG = onNil ds (QG δ) := by simp only [dgNil, ex_onNil]
theorem y_dgNil : dgNil ds δ QG = @cNil ds ⟨(QG δ)⟩ := z_dgNil
theorem z_dgCons : dgCons gt gs ds δ QG = onCons ds fun d r => gt d δ fun δ1 => gs r δ1 QG := by simp only [dgCons, ex_onCons]
theorem y_dgCons : dgCons gt gs ds δ QG = @cCons ds ⟨fun d r => gt d δ fun δ1 => gs r δ1 QG⟩ := z_dgCons
theorem z_dgTup : dgTup gs d δ QG = onTup d fun ds => gs ds δ QG := by simp only [dgTup, ex_onTup]
theorem y_dgTup : dgTup gs d δ QG = @cTup d ⟨fun ds => gs ds δ QG⟩ := z_dgTup
theorem z_dgLst : dgLst gs d δ QG = onLst d fun ds => gs ds δ QG := by simp only [dgLst, ex_onLst]
theorem y_dgLst : dgLst gs d δ QG = @cLst d ⟨fun ds => gs ds δ QG⟩ := z_dgLst
theorem z_dgTxt : dgTxt gs d δ QG = onTxt d fun z => onS (two? z) fun p => gs [.sc (.str (sign p.1)), .sc (.str (sign p.2))] δ QG := by simp only [dgTxt]; exact ex_txt (k := fun _ a b => gs [.sc (.str (sign a)), .sc (.str (sign b))] δ QG)
theorem y_dgTxt : dgTxt gs d δ QG = @cTxt d ⟨fun z => @cS _ (two? z) ⟨fun p => gs [.sc (.str (sign p.1)), .sc (.str (sign p.2))] δ QG⟩⟩ := z_dgTxt
theorem z_dAsg : dAsg ta gt E δ = ta δ (fun w δ1 => onS (frz1 δ1 w) fun p => gt p.1 p.2 E.nx) E.ex := by simp only [dAsg, ex_onS2]
theorem y_dAsg : dAsg ta gt E δ = ta δ (fun w δ1 => @cS _ (frz1 δ1 w) ⟨fun p => gt p.1 p.2 E.nx⟩) E.ex := z_dAsg
theorem z_dIt : dIt ta δ QI Y = ta δ (fun w δ1 => onS (frz1 δ1 w) fun p => onS (itemsD p.1) fun ds => QI ds p.2) Y := by simp only [dIt, ex_onS2, ex_onS]
theorem y_dIt : dIt ta δ QI Y = ta δ (fun w δ1 => @cS _ (frz1 δ1 w) ⟨fun p => @cS _ (itemsD p.1) ⟨fun ds => QI ds p.2⟩⟩) Y := z_dIt
theorem z_dRng1 : dRng1 tA δ QI Y = tA δ (fun ws δ1 => onS (vals δ1 ws) fun ds => onI1 ds fun j => -(2 ^ 62) ≤ j ∧ j < 2 ^ 62 ∧ QI (rngL 0 j.toNat) δ1) Y := by simp only [dRng1, ex_i1]
theorem y_dRng1 : dRng1 tA δ QI Y = tA δ (fun ws δ1 => @cS _ (vals δ1 ws) ⟨fun ds => @cI1 ds ⟨fun j => -(2 ^ 62) ≤ j ∧ j < 2 ^ 62 ∧ QI (rngL 0 j.toNat) δ1⟩⟩) Y := z_dRng1
theorem z_dRng2 : dRng2 tA δ QI Y = tA δ (fun ws δ1 => onS (vals δ1 ws) fun ds => onI2 ds fun i j => (-(2 ^ 62) ≤ i ∧ i < 2 ^ 62 ∧ -(2 ^ 62) ≤ j ∧ j < 2 ^ 62) ∧ QI (rngL i (j - i).toNat) δ1) Y := by simp only [dRng2, ex_i2]
theorem y_dRng2 : dRng2 tA δ QI Y = tA δ (fun ws δ1 => @cS _ (vals δ1 ws) ⟨fun ds => @cI2 ds ⟨fun i j => (-(2 ^ 62) ≤ i ∧ i < 2 ^ 62 ∧ -(2 ^ 62) ≤ j ∧ j < 2 ^ 62) ∧ QI (rngL i (j - i).toNat) δ1⟩⟩) Y := z_dRng2
theorem z_dEnum : dEnum tA δ QI Y = tA δ (fun ws δ1 => onS (pures ws) fun ds => onOne ds fun d => onS (itemsD d) fun ds => QI (enD 0 ds) δ1) Y := by simp only [dEnum, ex_one, ex_onS]
theorem y_dEnum : dEnum tA δ QI Y = tA δ (fun ws δ1 => @cS _ (pures ws) ⟨fun ds => @cOne ds ⟨fun d => @cS _ (itemsD d) ⟨fun ds => QI (enD 0 ds) δ1⟩⟩⟩) Y := z_dEnum
theorem z_dZip : dZip st tA δ QI Y = tA δ (fun ws δ1 => onS (pures ws) fun ds => onPair ds fun d1 d2 => onS (itemsD d1) fun ds1 => onS (itemsD d2) fun ds2 => (st = true → ds1.length = ds2.length) ∧ QI (zipD ds1 ds2) δ1) Y := by simp only [dZip, ex_pair, ex_onS]
theorem y_dZip : dZip st tA δ QI Y = tA δ (fun ws δ1 => @cS _ (pures ws) ⟨fun ds => @cPair ds ⟨fun d1 d2 => @cS _ (itemsD d1) ⟨fun ds1 => @cS _ (itemsD d2) ⟨fun ds2 => (st = true → ds1.length = ds2.length) ∧ QI (zipD ds1 ds2) δ1⟩⟩⟩⟩) Y := z_dZip
theorem z_dFor : dFor ti gt ts E δ = ti δ (fun ds δ1 => dForL gt ts E ds δ1) E.ex := rfl
theorem y_dFor : dFor ti gt ts E δ = ti δ (fun ds δ1 => dForL gt ts E ds δ1) E.ex := z_dFor
theorem z_dRaise : dRaise C E δ = E.ex (.ref C) δ := rfl
theorem y_dRaise : dRaise C E δ = E.ex (.ref C) δ := z_dRaise
theorem z_dLc : dLc ti gt tt te vs δ Q Y = ti δ (fun ds δ1 => dComp gt tt te vs ds [] (δ1.wipe vs) fun acc δ2 => Q (.ow (.lst acc)) (δ2.rest δ1 vs)) Y := rfl
theorem y_dLc : dLc ti gt tt te vs δ Q Y = ti δ (fun ds δ1 => @compC gt tt te vs ds [] (δ1.wipe vs) ⟨fun acc δ2 => Q (.ow (.lst acc)) (δ2.rest δ1 vs)⟩) Y := z_dLc
theorem z_dLc2 : dLc2 ti gt tt ti1 gt1 tt1 te vs vs1 δ Q Y = ti δ (fun ds δ1 => dComp2 gt tt ti1 gt1 tt1 te vs vs1 ds [] (δ1.wipe vs) fun acc δ2 => Q (.ow (.lst acc)) (δ2.rest δ1 vs)) Y := rfl
theorem y_dLc2 : dLc2 ti gt tt ti1 gt1 tt1 te vs vs1 δ Q Y = ti δ (fun ds δ1 => @compC2 gt tt ti1 gt1 tt1 te vs vs1 ds [] (δ1.wipe vs) ⟨fun acc δ2 => Q (.ow (.lst acc)) (δ2.rest δ1 vs)⟩) Y := z_dLc2
theorem z_dYes : dYes δ QT Y = QT true δ := rfl
theorem y_dYes : dYes δ QT Y = QT true δ := z_dYes
theorem z_dNewD : dNewD δ Q Y = Q (.ow (.dic [])) δ := rfl
theorem y_dNewD : dNewD δ Q Y = Q (.ow (.dic [])) δ := z_dNewD
theorem z_dMi : dMi pl ta tA δ Q Y = ta δ (fun x δ1 => isLM (getM δ1 x) (tA δ1 (fun ws δ2 => onLM (getM δ2 x) fun xs => onS (pures ws) fun ds => pl xs ds fun d xs' => Q (.pu d) (setM δ2 x (.lst xs'))) Y)) Y := by simp only [dMi, ex_isLM, ex_onLM, ex_onS]
theorem y_dMi : dMi pl ta tA δ Q Y = ta δ (fun x δ1 => @dLM (getM δ1 x) ⟨(tA δ1 (fun ws δ2 => @cLM (getM δ2 x) ⟨fun xs => @cS _ (pures ws) ⟨fun ds => @plK pl xs ds ⟨fun d xs' => Q (.pu d) (setM δ2 x (.lst xs'))⟩⟩⟩) Y)⟩) Y := z_dMi
theorem z_dMs : dMs pm ta tA δ Q Y = ta δ (fun x δ1 => isSD (val δ1 x) (tA δ1 (fun ws δ2 => onS (val δ2 x) fun dx => onS (vals δ2 ws) fun ds => pm dx ds fun w => Q w δ2) Y)) Y := by simp only [dMs, ex_isSD, ex_onS]
theorem y_dMs : dMs pm ta tA δ Q Y = ta δ (fun x δ1 => @cSD (val δ1 x) ⟨(tA δ1 (fun ws δ2 => @cS _ (val δ2 x) ⟨fun dx => @cS _ (vals δ2 ws) ⟨fun ds => @pmK pm dx ds ⟨fun w => Q w δ2⟩⟩⟩) Y)⟩) Y := z_dMs
theorem z_dMl : dMl pm ta tA δ Q Y = ta δ (fun x δ1 => isLD (val δ1 x) (tA δ1 (fun ws δ2 => onS (val δ2 x) fun dx => onS (vals δ2 ws) fun ds => pm dx ds fun w => Q w δ2) Y)) Y := by simp only [dMl, ex_isLD, ex_onS]
theorem y_dMl : dMl pm ta tA δ Q Y = ta δ (fun x δ1 => @cLD (val δ1 x) ⟨(tA δ1 (fun ws δ2 => @cS _ (val δ2 x) ⟨fun dx => @cS _ (vals δ2 ws) ⟨fun ds => @pmK pm dx ds ⟨fun w => Q w δ2⟩⟩⟩) Y)⟩) Y := z_dMl
theorem z_dgSet : dgSet ta tb d δ QG = ta δ (fun x δ1 => tb δ1 (fun y δ2 => onLM (getM δ2 x) fun xs => onInt (val δ2 y) fun k => onS (ixN xs.length k) fun j => QG (setM δ2 x (.lst (xs.set j d)))) fun _ _ => False) fun _ _ => False := by simp only [dgSet, ex_onLM, ex_onInt, ex_onS]
theorem y_dgSet : dgSet ta tb d δ QG = ta δ (fun x δ1 => tb δ1 (fun y δ2 => @cLM (getM δ2 x) ⟨fun xs => @cInt (val δ2 y) ⟨fun k => @cS _ (ixN xs.length k) ⟨fun j => QG (setM δ2 x (.lst (xs.set j d)))⟩⟩⟩) fun _ _ => False) fun _ _ => False := z_dgSet
theorem z_dPar : dPar i j tA E δ = tA δ (fun ws δ1 => onS (pures ws) fun ds => onPair ds fun d1 d2 => E.nx ((δ1.put i (some (.pu d1))).put j (some (.pu d2)))) E.ex := by simp only [dPar, ex_pair]
theorem y_dPar : dPar i j tA E δ = tA δ (fun ws δ1 => @cS _ (pures ws) ⟨fun ds => @cPair ds ⟨fun d1 d2 => E.nx ((δ1.put i (some (.pu d1))).put j (some (.pu d2)))⟩⟩) E.ex := z_dPar
theorem z_dONo : dONo δ QO Y = QO none δ := rfl
theorem y_dONo : dONo δ QO Y = QO none δ := z_dONo
theorem z_dOSome : dOSome ta δ QO Y = ta δ (fun w δ1 => onInt (val δ1 w) fun i => QO (some i) δ1) Y := by simp only [dOSome, ex_onInt]
theorem y_dOSome : dOSome ta δ QO Y = ta δ (fun w δ1 => @cInt (val δ1 w) ⟨fun i => QO (some i) δ1⟩) Y := z_dOSome
theorem z_dSl : dSl ps ta tl th δ Q Y = ta δ (fun x δ1 => tl δ1 (fun l δ2 => th δ2 (fun u δ3 => onS (val δ3 x) fun dx => ps dx l u fun w => Q w δ3) Y) Y) Y := by simp only [dSl, ex_onS]
theorem y_dSl : dSl ps ta tl th δ Q Y = ta δ (fun x δ1 => tl δ1 (fun l δ2 => th δ2 (fun u δ3 => @cS _ (val δ3 x) ⟨fun dx => @psK ps dx l u ⟨fun w => Q w δ3⟩⟩) Y) Y) Y := z_dSl
theorem z_dChain : dChain p p' ta tb tc δ Q Y = ta δ (fun x δ1 => tb δ1 (fun y δ2 => onS (val δ2 x) fun dx => onS (val δ2 y) fun dy => p dx dy fun w => onBw w fun k => onB k (tc δ2 (fun z δ3 => onS (val δ3 y) fun dy' => onS (val δ3 z) fun dz => p' dy' dz fun w => Q w δ3) Y) (Q (.pu (.sc (.bl false))) δ2)) Y) Y := by simp only [dChain, ex_onS, ex_onBw, if_onB]
theorem y_dChain : dChain p p' ta tb tc δ Q Y = ta δ (fun x δ1 => tb δ1 (fun y δ2 => @cS _ (val δ2 x) ⟨fun dx => @cS _ (val δ2 y) ⟨fun dy => @p2K p dx dy ⟨fun w => @cBw w ⟨fun k => @cB k ⟨(tc δ2 (fun z δ3 => @cS _ (val δ3 y) ⟨fun dy' => @cS _ (val δ3 z) ⟨fun dz => @p2K p' dy' dz ⟨fun w => Q w δ3⟩⟩⟩) Y), (Q (.pu (.sc (.bl false))) δ2)⟩⟩⟩⟩⟩) Y) Y := z_dChain
theorem z_subP {i j : Int} : subP (.sc (.int i)) (.sc (.int j)) Qp = (Qp (.pu (.sc (.int (i - j))))) := rfl
theorem z_divP {i j : Int} : divP (.sc (.int i)) (.sc (.int j)) Qp = ((0 < j ∧ j.natAbs.log2 < 9000) ∧ Qp (.pu (.sc (.int (i / j))))) := rfl
theorem z_modP {i j : Int} : modP (.sc (.int i)) (.sc (.int j)) Qp = (0 < j ∧ Qp (.pu (.sc (.int (i % j))))) := rfl
theorem z_powP {i j : Int} : powP (.sc (.int i)) (.sc (.int j)) Qp = ((0 ≤ j ∧ j ≤ 1000000 ∧ i.natAbs < 2 ^ 64) ∧ Qp (.pu (.sc (.int (i ^ j.toNat))))) := rfl
theorem z_ltP {i j : Int} : DL.ltP (.sc (.int i)) (.sc (.int j)) Qp = (Qp (.pu (.sc (.bl (decide (i < j)))))) := rfl
theorem z_leP {i j : Int} : DL.leP (.sc (.int i)) (.sc (.int j)) Qp = (Qp (.pu (.sc (.bl (decide (i ≤ j)))))) := rfl
theorem z_gtP {i j : Int} : DL.gtP (.sc (.int i)) (.sc (.int j)) Qp = (Qp (.pu (.sc (.bl (decide (j < i)))))) := rfl
theorem z_geP {i j : Int} : DL.geP (.sc (.int i)) (.sc (.int j)) Qp = (Qp (.pu (.sc (.bl (decide (j ≤ i)))))) := rfl
theorem z_addP_i {i j : Int} : addP (.sc (.int i)) (.sc (.int j)) Qp = (Qp (.pu (.sc (.int (i + j))))) := rfl
theorem z_addP_s {a b : Str} : addP (.sc (.str a)) (.sc (.str b)) Qp = (a.length + b.length ≤ sizeLine ∧ Qp (.pu (.sc (.str (a ++ b))))) := rfl
theorem z_addP_l {xs ys : List DL.D} : addP (.lst xs) (.lst ys) Qp = (xs.length + ys.length ≤ sizeLine ∧ Qp (.ow (.lst (xs ++ ys)))) := rfl
theorem z_addP_t {xs ys : List DL.D} : addP (.tup xs) (.tup ys) Qp = (xs.length + ys.length ≤ sizeLine ∧ Qp (.pu (.tup (xs ++ ys)))) := rfl
theorem z_mulP_i {i j : Int} : mulP (.sc (.int i)) (.sc (.int j)) Qp = (i.natAbs.log2 + j.natAbs.log2 < 1000000 ∧ Qp (.pu (.sc (.int (i * j))))) := rfl
theorem z_mulP_s {z : Str} {n : Int} : mulP (.sc (.str z)) (.sc (.int n)) Qp = ((-(2 ^ 63) ≤ n ∧ n < 2 ^ 63 ∧ z.length * n.toNat ≤ 16777216) ∧ Qp (.pu (.sc (.str (repS z n))))) := rfl
theorem z_mulP_l {xs : List DL.D} {n : Int} : mulP (.lst xs) (.sc (.int n)) Qp = ((-(2 ^ 63) ≤ n ∧ n < 2 ^ 63 ∧ xs.length * n.toNat ≤ sizeLine) ∧ Qp (.ow (.lst (List.replicate n.toNat xs).flatten))) := rfl
theorem z_mulP_t {xs : List DL.D} {n : Int} : mulP (.tup xs) (.sc (.int n)) Qp = ((xs ≠ [] ∧ 2 ≤ n ∧ n ≤ 1000 ∧ xs.length ≤ 1000) ∧ Qp (.pu (.tup (List.replicate n.toNat xs).flatten))) := rfl
theorem z_eqP_s {x y : V} : eqP neg (.sc x) (.sc y) Qp = (scal x y = true ∧ Qp (.pu (.sc (.bl (neg ^^ decide (x = y)))))) := rfl
theorem z_eqP_ll {xs : List DL.D} {ys : List DL.D} : eqP neg (.lst xs) (.lst ys) Qp = onS (toPD (.lst xs)) fun a => onS (toPD (.lst ys)) fun b => (SeqAt.shaped a = true ∧ SeqAt.shaped b = true) ∧ Qp (.pu (.sc (.bl (neg ^^ PyData.eqv a b)))) := by simp only [eqP, ex_onS]
theorem z_eqP_lt {xs : List DL.D} {ys : List DL.D} : eqP neg (.lst xs) (.tup ys) Qp = onS (toPD (.lst xs)) fun a => onS (toPD (.tup ys)) fun b => (SeqAt.shaped a = true ∧ SeqAt.shaped b = true) ∧ Qp (.pu (.sc (.bl (neg ^^ PyData.eqv a b)))) := by simp only [eqP, ex_onS]
theorem z_eqP_ls {xs : List DL.D} {y : V} : eqP neg (.lst xs) (.sc y) Qp = onS (toPD (.lst xs)) fun a => onS (toPD (.sc y)) fun b => (SeqAt.shaped a = true ∧ SeqAt.shaped b = true) ∧ Qp (.pu (.sc (.bl (neg ^^ PyData.eqv a b)))) := by simp only [eqP, ex_onS]
theorem z_eqP_ld {xs : List DL.D} {ky : List (Key × DL.D)} : eqP neg (.lst xs) (.dic ky) Qp = onS (toPD (.lst xs)) fun a => onS (toPD (.dic ky)) fun b => (SeqAt.shaped a = true ∧ SeqAt.shaped b = true) ∧ Qp (.pu (.sc (.bl (neg ^^ PyData.eqv a b)))) := by simp only [eqP, ex_onS]
theorem z_eqP_tl {xs : List DL.D} {ys : List DL.D} : eqP neg (.tup xs) (.lst ys) Qp = onS (toPD (.tup xs)) fun a => onS (toPD (.lst ys)) fun b => (SeqAt.shaped a = true ∧ SeqAt.shaped b = true) ∧ Qp (.pu (.sc (.bl (neg ^^ PyData.eqv a b)))) := by simp only [eqP, ex_onS]
theorem z_eqP_tt {xs : List DL.D} {ys : List DL.D} : eqP neg (.tup xs) (.tup ys) Qp = onS (toPD (.tup xs)) fun a => onS (toPD (.tup ys)) fun b => (SeqAt.shaped a = true ∧ SeqAt.shaped b = true) ∧ Qp (.pu (.sc (.bl (neg ^^ PyData.eqv a b)))) := by simp only [eqP, ex_onS]
theorem z_eqP_ts {xs : List DL.D} {y : V} : eqP neg (.tup xs) (.sc y) Qp = onS (toPD (.tup xs)) fun a => onS (toPD (.sc y)) fun b => (SeqAt.shaped a = true ∧ SeqAt.shaped b = true) ∧ Qp (.pu (.sc (.bl (neg ^^ PyData.eqv a b)))) := by simp only [eqP, ex_onS]
theorem z_eqP_td {xs : List DL.D} {ky : List (Key × DL.D)} : eqP neg (.tup xs) (.dic ky) Qp = onS (toPD (.tup xs)) fun a => onS (toPD (.dic ky)) fun b => (SeqAt.shaped a = true ∧ SeqAt.shaped b = true) ∧ Qp (.pu (.sc (.bl (neg ^^ PyData.eqv a b)))) := by simp only [eqP, ex_onS]
theorem z_eqP_sl {x : V} {ys : List DL.D} : eqP neg (.sc x) (.lst ys) Qp = onS (toPD (.sc x)) fun a => onS (toPD (.lst ys)) fun b => (SeqAt.shaped a = true ∧ SeqAt.shaped b = true) ∧ Qp (.pu (.sc (.bl (neg ^^ PyData.eqv a b)))) := by simp only [eqP, ex_onS]
theorem z_eqP_st {x : V} {ys : List DL.D} : eqP neg (.sc x) (.tup ys) Qp = onS (toPD (.sc x)) fun a => onS (toPD (.tup ys)) fun b => (SeqAt.shaped a = true ∧ SeqAt.shaped b = true) ∧ Qp (.pu (.sc (.bl (neg ^^ PyData.eqv a b)))) := by simp only [eqP, ex_onS]
theorem z_eqP_sd {x : V} {ky : List (Key × DL.D)} : eqP neg (.sc x) (.dic ky) Qp = onS (toPD (.sc x)) fun a => onS (toPD (.dic ky)) fun b => (SeqAt.shaped a = true ∧ SeqAt.shaped b = true) ∧ Qp (.pu (.sc (.bl (neg ^^ PyData.eqv a b)))) := by simp only [eqP, ex_onS]
theorem z_eqP_dl {kx : List (Key × DL.D)} {ys : List DL.D} : eqP neg (.dic kx) (.lst ys) Qp = onS (toPD (.dic kx)) fun a => onS (toPD (.lst ys)) fun b => (SeqAt.shaped a = true ∧ SeqAt.shaped b = true) ∧ Qp (.pu (.sc (.bl (neg ^^ PyData.eqv a b)))) := by simp only [eqP, ex_onS]
theorem z_eqP_dt {kx : List (Key × DL.D)} {ys : List DL.D} : eqP neg (.dic kx) (.tup ys) Qp = onS (toPD (.dic kx)) fun a => onS (toPD (.tup ys)) fun b => (SeqAt.shaped a = true ∧ SeqAt.shaped b = true) ∧ Qp (.pu (.sc (.bl (neg ^^ PyData.eqv a b)))) := by simp only [eqP, ex_onS]
theorem z_eqP_ds {kx : List (Key × DL.D)} {y : V} : eqP neg (.dic kx) (.sc y) Qp = onS (toPD (.dic kx)) fun a => onS (toPD (.sc y)) fun b => (SeqAt.shaped a = true ∧ SeqAt.shaped b = true) ∧ Qp (.pu (.sc (.bl (neg ^^ PyData.eqv a b)))) := by simp only [eqP, ex_onS]
theorem z_eqP_dd {kx : List (Key × DL.D)} {ky : List (Key × DL.D)} : eqP neg (.dic kx) (.dic ky) Qp = onS (toPD (.dic kx)) fun a => onS (toPD (.dic ky)) fun b => (SeqAt.shaped a = true ∧ SeqAt.shaped b = true) ∧ Qp (.pu (.sc (.bl (neg ^^ PyData.eqv a b)))) := by simp only [eqP, ex_onS]
theorem z_inP_s {s z : Str} : inP neg (.sc (.str s)) (.sc (.str z)) Qp = onS (one? s) fun c => Qp (.pu (.sc (.bl (neg ^^ decide (c ∈ z.cps.toList))))) := by simp only [inP, ex_onS]
theorem z_inP_t {x : V} {ys : List DL.D} : inP neg (.sc x) (.tup ys) Qp = onS (flats ys) fun us => flatV x = true ∧ Qp (.pu (.sc (.bl (neg ^^ inV x us)))) := by cases x <;> simp only [inP, ex_onS]
theorem z_inP_l {x : V} {ys : List DL.D} : inP neg (.sc x) (.lst ys) Qp = onS (flats ys) fun us => flatV x = true ∧ Qp (.pu (.sc (.bl (neg ^^ inV x us)))) := by cases x <;> simp only [inP, ex_onS]
theorem z_isNP_s {x : V} : isNP neg (.sc x) (.sc .non) Qp = (Qp (.pu (.sc (.bl (neg ^^ decide (x = .non)))))) := rfl
theorem z_isNP_t {xs : List DL.D} : isNP neg (.tup xs) (.sc .non) Qp = (Qp (.pu (.sc (.bl neg)))) := rfl
theorem z_isNP_l {xs : List DL.D} : isNP neg (.lst xs) (.sc .non) Qp = (Qp (.pu (.sc (.bl neg)))) := rfl
theorem z_isNP_d {xs : List (Key × DL.D)} : isNP neg (.dic xs) (.sc .non) Qp = (Qp (.pu (.sc (.bl neg)))) := rfl
theorem z_isBP {a b : Bool} : isBP neg (.sc (.bl a)) (.sc (.bl b)) Qp = (Qp (.pu (.sc (.bl (neg ^^ decide (a = b)))))) := rfl
theorem z_ixP_l {xs : List DL.D} {i : Int} : ixP (.lst xs) (.sc (.int i)) Qp = onS (L2.atI xs i) fun d => Qp (.pu d) := by simp only [ixP, ex_onS]
theorem z_ixP_t {xs : List DL.D} {i : Int} : ixP (.tup xs) (.sc (.int i)) Qp = onS (L2.atI xs i) fun d => Qp (.pu d) := by simp only [ixP, ex_onS]
theorem z_ixP_s {z : Str} {i : Int} : ixP (.sc (.str z)) (.sc (.int i)) Qp = (z.length ≤ sizeLine ∧ onS (L2.atI z.cps.toList i) fun c => Qp (.pu (.sc (.str (sign c))))) := by simp only [ixP, ex_onS]
theorem z_lenP : lenP [d] Qp = onS (lenD d) fun n => Qp (.pu (.sc (.int n))) := by simp only [lenP, ex_onS]
theorem z_isiP {T : String} : isiP [d, .sc (.ty T)] Qp = onS (tyD d) fun t => onS (kitB t T) fun b => Qp (.pu (.sc (.bl b))) := by simp only [isiP, ex_onS]
theorem z_allP : allP [.lst ds] Qp = onS (bools ds) fun bs => Qp (.pu (.sc (.bl (bs.all id)))) := by simp only [allP, ex_onS]
theorem z_anyP : anyP [.lst ds] Qp = onS (bools ds) fun bs => Qp (.pu (.sc (.bl (bs.any id)))) := by simp only [anyP, ex_onS]
theorem z_intP_i {i : Int} : intP [.sc (.int i)] Qp = (Qp (.pu (.sc (.int i)))) := rfl
theorem z_intP_b {b : Bool} : intP [.sc (.bl b)] Qp = (Qp (.pu (.sc (.int (if b then 1 else 0))))) := rfl
theorem z_listP_l : listP [.lst ds] Qp = (Qp (.ow (.lst ds))) := rfl
theorem z_listP_t : listP [.tup ds] Qp = (Qp (.ow (.lst ds))) := rfl
theorem z_tupleP_l : tupleP [.lst ds] Qp = (Qp (.pu (.tup ds))) := rfl
theorem z_tupleP_t : tupleP [.tup ds] Qp = (Qp (.pu (.tup ds))) := rfl
theorem z_sortedSP : sortedSP [.lst ds] Qp = onS (strsD ds) fun zs => zs.length < 64 ∧ ∀ ys : List Str, ys.Perm zs → PyProof.Rows.sortedS ys = true → Qp (.ow (.lst (ys.map fun z => .sc (.str z)))) := by simp only [sortedSP, ex_onS]
def shows (p : PyData) : Prop := PyData.showable p = true ∧ p.depth ≤ 64 ∧ p.shown.length ≤ sizeLine
theorem z_reprP : reprP [d] Qp = onS (toPD d) fun p => shows p ∧ Qp (.pu (.sc (.str p.shown))) := by simp only [reprP, ex_onS, shows, and_assoc]
theorem z_negP {i : Int} : negP (.sc (.int i)) Qp = (Qp (.pu (.sc (.int (-i))))) := rfl
theorem z_revP_s {z : Str} : revP (.sc (.str z)) Qp = (z.length ≤ sizeLine ∧ Qp (.pu (.sc (.str (revS z))))) := rfl
theorem z_revP_l : revP (.lst ds) Qp = (Qp (.ow (.lst ds.reverse))) := rfl
theorem z_slP_l : slP (.lst ds) lo hi Qp = (Qp (.ow (.lst (cutL ds lo hi)))) := rfl
theorem z_slP_t : slP (.tup ds) lo hi Qp = (Qp (.pu (.tup (cutL ds lo hi)))) := rfl
theorem z_slP_r {ns : List Int} : slP (.scr ns) lo hi Qp = (Qp (.ow (.lst ((cutL ns lo hi).map fun n => .sc (.int n))))) := rfl
theorem z_slP_s {z : Str} : slP (.sc (.str z)) lo hi Qp = (z.length ≤ sizeLine ∧ Qp (.pu (.sc (.str (cutS z lo hi))))) := rfl
theorem z_findP {a b : Str} : findP (.sc (.str a)) [.sc (.str b)] Qp = (Qp (.pu (.sc (.int (Txt.find a b))))) := rfl
theorem z_countP {a b : Str} : countP (.sc (.str a)) [.sc (.str b)] Qp = (Qp (.pu (.sc (.int (Txt.count a b))))) := rfl
theorem z_joinP {a : Str} : joinP (.sc (.str a)) [.lst ds] Qp = onS (strsD ds) fun ys => (ys.map (·.length)).sum + ys.length * a.length ≤ 16777216 ∧ Qp (.pu (.sc (.str (Txt.join a ys)))) := by simp only [joinP, ex_onS]
theorem z_lcountP_s {a : Str} : lcountP (.lst ds) [.sc (.str a)] Qp = onS (strsD ds) fun ys => Qp (.pu (.sc (.int (ys.count a : Nat)))) := by simp only [lcountP, ex_onS]
theorem z_lcountP_i {a : Int} : lcountP (.lst ds) [.sc (.int a)] Qp = onS (intsD ds) fun ys => Qp (.pu (.sc (.int (ys.count a : Nat)))) := by simp only [lcountP, ex_onS]
theorem z_appP {xs : List DL.D} : appP xs [d] Ql = (xs.length < sizeLine ∧ Ql (.sc .non) (xs ++ [d])) := by
  unfold appP
  simp only [eq_iff_iff, List.cons.injEq, and_true]
  exact ⟨fun ⟨_, e, h⟩ => by subst e; exact h, fun h => ⟨d, rfl, h⟩⟩
theorem z_insP {xs : List DL.D} {i : Int} : insP xs [.sc (.int i), d] Ql = (xs.length < sizeLine ∧ 0 ≤ i ∧ i < 2 ^ 63 ∧ Ql (.sc .non) (xs.take i.toNat ++ [d] ++ xs.drop i.toNat)) := by
  unfold insP
  simp only [eq_iff_iff, List.cons.injEq, and_true, D.sc.injEq, V.int.injEq]
  exact ⟨fun ⟨_, _, ⟨e, e2⟩, h⟩ => by subst e e2; exact h, fun h => ⟨i, d, ⟨rfl, rfl⟩, h⟩⟩
theorem y_subP {i j : Int} : @p2K subP (.sc (.int i)) (.sc (.int j)) ⟨Qp⟩ = (Qp (.pu (.sc (.int (i - j))))) := z_subP
theorem y_divP {i j : Int} : @p2K divP (.sc (.int i)) (.sc (.int j)) ⟨Qp⟩ = ((0 < j ∧ j.natAbs.log2 < 9000) ∧ Qp (.pu (.sc (.int (i / j))))) := z_divP
theorem y_modP {i j : Int} : @p2K modP (.sc (.int i)) (.sc (.int j)) ⟨Qp⟩ = (0 < j ∧ Qp (.pu (.sc (.int (i % j))))) := z_modP
theorem y_powP {i j : Int} : @p2K powP (.sc (.int i)) (.sc (.int j)) ⟨Qp⟩ = ((0 ≤ j ∧ j ≤ 1000000 ∧ i.natAbs < 2 ^ 64) ∧ Qp (.pu (.sc (.int (i ^ j.toNat))))) := z_powP
theorem y_ltP {i j : Int} : @p2K DL.ltP (.sc (.int i)) (.sc (.int j)) ⟨Qp⟩ = (Qp (.pu (.sc (.bl (decide (i < j)))))) := z_ltP
theorem y_leP {i j : Int} : @p2K DL.leP (.sc (.int i)) (.sc (.int j)) ⟨Qp⟩ = (Qp (.pu (.sc (.bl (decide (i ≤ j)))))) := z_leP
theorem y_gtP {i j : Int} : @p2K DL.gtP (.sc (.int i)) (.sc (.int j)) ⟨Qp⟩ = (Qp (.pu (.sc (.bl (decide (j < i)))))) := z_gtP
theorem y_geP {i j : Int} : @p2K DL.geP (.sc (.int i)) (.sc (.int j)) ⟨Qp⟩ = (Qp (.pu (.sc (.bl (decide (j ≤ i)))))) := z_geP
theorem y_addP_i {i j : Int} : @p2K addP (.sc (.int i)) (.sc (.int j)) ⟨Qp⟩ = (Qp (.pu (.sc (.int (i + j))))) := z_addP_i
theorem y_addP_s {a b : Str} : @p2K addP (.sc (.str a)) (.sc (.str b)) ⟨Qp⟩ = (a.length + b.length ≤ sizeLine ∧ Qp (.pu (.sc (.str (a ++ b))))) := z_addP_s
theorem y_addP_l {xs ys : List DL.D} : @p2K addP (.lst xs) (.lst ys) ⟨Qp⟩ = (xs.length + ys.length ≤ sizeLine ∧ Qp (.ow (.lst (xs ++ ys)))) := z_addP_l
theorem y_addP_t {xs ys : List DL.D} : @p2K addP (.tup xs) (.tup ys) ⟨Qp⟩ = (xs.length + ys.length ≤ sizeLine ∧ Qp (.pu (.tup (xs ++ ys)))) := z_addP_t
theorem y_mulP_i {i j : Int} : @p2K mulP (.sc (.int i)) (.sc (.int j)) ⟨Qp⟩ = (i.natAbs.log2 + j.natAbs.log2 < 1000000 ∧ Qp (.pu (.sc (.int (i * j))))) := z_mulP_i
theorem y_mulP_s {z : Str} {n : Int} : @p2K mulP (.sc (.str z)) (.sc (.int n)) ⟨Qp⟩ = ((-(2 ^ 63) ≤ n ∧ n < 2 ^ 63 ∧ z.length * n.toNat ≤ 16777216) ∧ Qp (.pu (.sc (.str (repS z n))))) := z_mulP_s
theorem y_mulP_l {xs : List DL.D} {n : Int} : @p2K mulP (.lst xs) (.sc (.int n)) ⟨Qp⟩ = ((-(2 ^ 63) ≤ n ∧ n < 2 ^ 63 ∧ xs.length * n.toNat ≤ sizeLine) ∧ Qp (.ow (.lst (List.replicate n.toNat xs).flatten))) := z_mulP_l
theorem y_mulP_t {xs : List DL.D} {n : Int} : @p2K mulP (.tup xs) (.sc (.int n)) ⟨Qp⟩ = ((xs ≠ [] ∧ 2 ≤ n ∧ n ≤ 1000 ∧ xs.length ≤ 1000) ∧ Qp (.pu (.tup (List.replicate n.toNat xs).flatten))) := z_mulP_t
theorem y_eqP_s {x y : V} : @p2K (eqP neg) (.sc x) (.sc y) ⟨Qp⟩ = (scal x y = true ∧ Qp (.pu (.sc (.bl (neg ^^ decide (x = y)))))) := z_eqP_s
theorem y_eqP_ll {xs : List DL.D} {ys : List DL.D} : @p2K (eqP neg) (.lst xs) (.lst ys) ⟨Qp⟩ = @cS _ (toPD (.lst xs)) ⟨fun a => @cS _ (toPD (.lst ys)) ⟨fun b => (SeqAt.shaped a = true ∧ SeqAt.shaped b = true) ∧ Qp (.pu (.sc (.bl (neg ^^ PyData.eqv a b))))⟩⟩ := z_eqP_ll
theorem y_eqP_lt {xs : List DL.D} {ys : List DL.D} : @p2K (eqP neg) (.lst xs) (.tup ys) ⟨Qp⟩ = @cS _ (toPD (.lst xs)) ⟨fun a => @cS _ (toPD (.tup ys)) ⟨fun b => (SeqAt.shaped a = true ∧ SeqAt.shaped b = true) ∧ Qp (.pu (.sc (.bl (neg ^^ PyData.eqv a b))))⟩⟩ := z_eqP_lt
theorem y_eqP_ls {xs : List DL.D} {y : V} : @p2K (eqP neg) (.lst xs) (.sc y) ⟨Qp⟩ = @cS _ (toPD (.lst xs)) ⟨fun a => @cS _ (toPD (.sc y)) ⟨fun b => (SeqAt.shaped a = true ∧ SeqAt.shaped b = true) ∧ Qp (.pu (.sc (.bl (neg ^^ PyData.eqv a b))))⟩⟩ := z_eqP_ls
theorem y_eqP_ld {xs : List DL.D} {ky : List (Key × DL.D)} : @p2K (eqP neg) (.lst xs) (.dic ky) ⟨Qp⟩ = @cS _ (toPD (.lst xs)) ⟨fun a => @cS _ (toPD (.dic ky)) ⟨fun b => (SeqAt.shaped a = true ∧ SeqAt.shaped b = true) ∧ Qp (.pu (.sc (.bl (neg ^^ PyData.eqv a b))))⟩⟩ := z_eqP_ld
theorem y_eqP_tl {xs : List DL.D} {ys : List DL.D} : @p2K (eqP neg) (.tup xs) (.lst ys) ⟨Qp⟩ = @cS _ (toPD (.tup xs)) ⟨fun a => @cS _ (toPD (.lst ys)) ⟨fun b => (SeqAt.shaped a = true ∧ SeqAt.shaped b = true) ∧ Qp (.pu (.sc (.bl (neg ^^ PyData.eqv a b))))⟩⟩ := z_eqP_tl
theorem y_eqP_tt {xs : List DL.D} {ys : List DL.D} : @p2K (eqP neg) (.tup xs) (.tup ys) ⟨Qp⟩ = @cS _ (toPD (.tup xs)) ⟨fun a => @cS _ (toPD (.tup ys)) ⟨fun b => (SeqAt.shaped a = true ∧ SeqAt.shaped b = true) ∧ Qp (.pu (.sc (.bl (neg ^^ PyData.eqv a b))))⟩⟩ := z_eqP_tt
theorem y_eqP_ts {xs : List DL.D} {y : V} : @p2K (eqP neg) (.tup xs) (.sc y) ⟨Qp⟩ = @cS _ (toPD (.tup xs)) ⟨fun a => @cS _ (toPD (.sc y)) ⟨fun b => (SeqAt.shaped a = true ∧ SeqAt.shaped b = true) ∧ Qp (.pu (.sc (.bl (neg ^^ PyData.eqv a b))))⟩⟩ := z_eqP_ts
theorem y_eqP_td {xs : List DL.D} {ky : List (Key × DL.D)} : @p2K (eqP neg) (.tup xs) (.dic ky) ⟨Qp⟩ = @cS _ (toPD (.tup xs)) ⟨fun a => @cS _ (toPD (.dic ky)) ⟨fun b => (SeqAt.shaped a = true ∧ SeqAt.shaped b = true) ∧ Qp (.pu (.sc (.bl (neg ^^ PyData.eqv a b))))⟩⟩ := z_eqP_td
theorem y_eqP_sl {x : V} {ys : List DL.D} : @p2K (eqP neg) (.sc x) (.lst ys) ⟨Qp⟩ = @cS _ (toPD (.sc x)) ⟨fun a => @cS _ (toPD (.lst ys)) ⟨fun b => (SeqAt.shaped a = true ∧ SeqAt.shaped b = true) ∧ Qp (.pu (.sc (.bl (neg ^^ PyData.eqv a b))))⟩⟩ := z_eqP_sl
theorem y_eqP_st {x : V} {ys : List DL.D} : @p2K (eqP neg) (.sc x) (.tup ys) ⟨Qp⟩ = @cS _ (toPD (.sc x)) ⟨fun a => @cS _ (toPD (.tup ys)) ⟨fun b => (SeqAt.shaped a = true ∧ SeqAt.shaped b = true) ∧ Qp (.pu (.sc (.bl (neg ^^ PyData.eqv a b))))⟩⟩ := z_eqP_st
theorem y_eqP_sd {x : V} {ky : List (Key × DL.D)} : @p2K (eqP neg) (.sc x) (.dic ky) ⟨Qp⟩ = @cS _ (toPD (.sc x)) ⟨fun a => @cS _ (toPD (.dic ky)) ⟨fun b => (SeqAt.shaped a = true ∧ SeqAt.shaped b = true) ∧ Qp (.pu (.sc (.bl (neg ^^ PyData.eqv a b))))⟩⟩ := z_eqP_sd
theorem y_eqP_dl {kx : List (Key × DL.D)} {ys : List DL.D} : @p2K (eqP neg) (.dic kx) (.lst ys) ⟨Qp⟩ = @cS _ (toPD (.dic kx)) ⟨fun a => @cS _ (toPD (.lst ys)) ⟨fun b => (SeqAt.shaped a = true ∧ SeqAt.shaped b = true) ∧ Qp (.pu (.sc (.bl (neg ^^ PyData.eqv a b))))⟩⟩ := z_eqP_dl
theorem y_eqP_dt {kx : List (Key × DL.D)} {ys : List DL.D} : @p2K (eqP neg) (.dic kx) (.tup ys) ⟨Qp⟩ = @cS _ (toPD (.dic kx)) ⟨fun a => @cS _ (toPD (.tup ys)) ⟨fun b => (SeqAt.shaped a = true ∧ SeqAt.shaped b = true) ∧ Qp (.pu (.sc (.bl (neg ^^ PyData.eqv a b))))⟩⟩ := z_eqP_dt
theorem y_eqP_ds {kx : List (Key × DL.D)} {y : V} : @p2K (eqP neg) (.dic kx) (.sc y) ⟨Qp⟩ = @cS _ (toPD (.dic kx)) ⟨fun a => @cS _ (toPD (.sc y)) ⟨fun b => (SeqAt.shaped a = true ∧ SeqAt.shaped b = true) ∧ Qp (.pu (.sc (.bl (neg ^^ PyData.eqv a b))))⟩⟩ := z_eqP_ds
theorem y_eqP_dd {kx : List (Key × DL.D)} {ky : List (Key × DL.D)} : @p2K (eqP neg) (.dic kx) (.dic ky) ⟨Qp⟩ = @cS _ (toPD (.dic kx)) ⟨fun a => @cS _ (toPD (.dic ky)) ⟨fun b => (SeqAt.shaped a = true ∧ SeqAt.shaped b = true) ∧ Qp (.pu (.sc (.bl (neg ^^ PyData.eqv a b))))⟩⟩ := z_eqP_dd
theorem y_inP_s {s z : Str} : @p2K (inP neg) (.sc (.str s)) (.sc (.str z)) ⟨Qp⟩ = @cS _ (one? s) ⟨fun c => Qp (.pu (.sc (.bl (neg ^^ decide (c ∈ z.cps.toList)))))⟩ := z_inP_s
theorem y_inP_t {x : V} {ys : List DL.D} : @p2K (inP neg) (.sc x) (.tup ys) ⟨Qp⟩ = @cS _ (flats ys) ⟨fun us => flatV x = true ∧ Qp (.pu (.sc (.bl (neg ^^ inV x us))))⟩ := z_inP_t
theorem y_inP_l {x : V} {ys : List DL.D} : @p2K (inP neg) (.sc x) (.lst ys) ⟨Qp⟩ = @cS _ (flats ys) ⟨fun us => flatV x = true ∧ Qp (.pu (.sc (.bl (neg ^^ inV x us))))⟩ := z_inP_l
theorem y_isNP_s {x : V} : @p2K (isNP neg) (.sc x) (.sc .non) ⟨Qp⟩ = (Qp (.pu (.sc (.bl (neg ^^ decide (x = .non)))))) := z_isNP_s
theorem y_isNP_t {xs : List DL.D} : @p2K (isNP neg) (.tup xs) (.sc .non) ⟨Qp⟩ = (Qp (.pu (.sc (.bl neg)))) := z_isNP_t
theorem y_isNP_l {xs : List DL.D} : @p2K (isNP neg) (.lst xs) (.sc .non) ⟨Qp⟩ = (Qp (.pu (.sc (.bl neg)))) := z_isNP_l
theorem y_isNP_d {xs : List (Key × DL.D)} : @p2K (isNP neg) (.dic xs) (.sc .non) ⟨Qp⟩ = (Qp (.pu (.sc (.bl neg)))) := z_isNP_d
theorem y_isBP {a b : Bool} : @p2K (isBP neg) (.sc (.bl a)) (.sc (.bl b)) ⟨Qp⟩ = (Qp (.pu (.sc (.bl (neg ^^ decide (a = b)))))) := z_isBP
theorem y_ixP_l {xs : List DL.D} {i : Int} : @p2K ixP (.lst xs) (.sc (.int i)) ⟨Qp⟩ = @cS _ (L2.atI xs i) ⟨fun d => Qp (.pu d)⟩ := z_ixP_l
theorem y_ixP_t {xs : List DL.D} {i : Int} : @p2K ixP (.tup xs) (.sc (.int i)) ⟨Qp⟩ = @cS _ (L2.atI xs i) ⟨fun d => Qp (.pu d)⟩ := z_ixP_t
theorem y_ixP_s {z : Str} {i : Int} : @p2K ixP (.sc (.str z)) (.sc (.int i)) ⟨Qp⟩ = (z.length ≤ sizeLine ∧ @cS _ (L2.atI z.cps.toList i) ⟨fun c => Qp (.pu (.sc (.str (sign c))))⟩) := z_ixP_s
theorem y_lenP : @pnK lenP [d] ⟨Qp⟩ = @cS _ (lenD d) ⟨fun n => Qp (.pu (.sc (.int n)))⟩ := z_lenP
theorem y_isiP {T : String} : @pnK isiP [d, .sc (.ty T)] ⟨Qp⟩ = @cS _ (tyD d) ⟨fun t => @cS _ (kitB t T) ⟨fun b => Qp (.pu (.sc (.bl b)))⟩⟩ := z_isiP
theorem y_allP : @pnK allP [.lst ds] ⟨Qp⟩ = @cS _ (bools ds) ⟨fun bs => Qp (.pu (.sc (.bl (bs.all id))))⟩ := z_allP
theorem y_anyP : @pnK anyP [.lst ds] ⟨Qp⟩ = @cS _ (bools ds) ⟨fun bs => Qp (.pu (.sc (.bl (bs.any id))))⟩ := z_anyP
theorem y_intP_i {i : Int} : @pnK intP [.sc (.int i)] ⟨Qp⟩ = (Qp (.pu (.sc (.int i)))) := z_intP_i
theorem y_intP_b {b : Bool} : @pnK intP [.sc (.bl b)] ⟨Qp⟩ = (Qp (.pu (.sc (.int (if b then 1 else 0))))) := z_intP_b
theorem y_listP_l : @pnK listP [.lst ds] ⟨Qp⟩ = (Qp (.ow (.lst ds))) := z_listP_l
theorem y_listP_t : @pnK listP [.tup ds] ⟨Qp⟩ = (Qp (.ow (.lst ds))) := z_listP_t
theorem y_tupleP_l : @pnK tupleP [.lst ds] ⟨Qp⟩ = (Qp (.pu (.tup ds))) := z_tupleP_l
theorem y_tupleP_t : @pnK tupleP [.tup ds] ⟨Qp⟩ = (Qp (.pu (.tup ds))) := z_tupleP_t
theorem y_sortedSP : @pnK sortedSP [.lst ds] ⟨Qp⟩ = @cS _ (strsD ds) ⟨fun zs => zs.length < 64 ∧ ∀ ys : List Str, ys.Perm zs → PyProof.Rows.sortedS ys = true → Qp (.ow (.lst (ys.map fun z => .sc (.str z))))⟩ := z_sortedSP
theorem y_reprP : @pnK reprP [d] ⟨Qp⟩ = @cS _ (toPD d) ⟨fun p => shows p ∧ Qp (.pu (.sc (.str p.shown)))⟩ := z_reprP
theorem y_negP {i : Int} : @p1K negP (.sc (.int i)) ⟨Qp⟩ = (Qp (.pu (.sc (.int (-i))))) := z_negP
theorem y_revP_s {z : Str} : @p1K revP (.sc (.str z)) ⟨Qp⟩ = (z.length ≤ sizeLine ∧ Qp (.pu (.sc (.str (revS z))))) := z_revP_s
theorem y_revP_l : @p1K revP (.lst ds) ⟨Qp⟩ = (Qp (.ow (.lst ds.reverse))) := z_revP_l
theorem y_slP_l : @psK slP (.lst ds) lo hi ⟨Qp⟩ = (Qp (.ow (.lst (cutL ds lo hi)))) := z_slP_l
theorem y_slP_t : @psK slP (.tup ds) lo hi ⟨Qp⟩ = (Qp (.pu (.tup (cutL ds lo hi)))) := z_slP_t
theorem y_slP_r {ns : List Int} : @psK slP (.scr ns) lo hi ⟨Qp⟩ = (Qp (.ow (.lst ((cutL ns lo hi).map fun n => .sc (.int n))))) := z_slP_r
theorem y_slP_s {z : Str} : @psK slP (.sc (.str z)) lo hi ⟨Qp⟩ = (z.length ≤ sizeLine ∧ Qp (.pu (.sc (.str (cutS z lo hi))))) := z_slP_s
theorem y_findP {a b : Str} : @pmK findP (.sc (.str a)) [.sc (.str b)] ⟨Qp⟩ = (Qp (.pu (.sc (.int (Txt.find a b))))) := z_findP
theorem y_countP {a b : Str} : @pmK countP (.sc (.str a)) [.sc (.str b)] ⟨Qp⟩ = (Qp (.pu (.sc (.int (Txt.count a b))))) := z_countP
theorem y_joinP {a : Str} : @pmK joinP (.sc (.str a)) [.lst ds] ⟨Qp⟩ = @cS _ (strsD ds) ⟨fun ys => (ys.map (·.length)).sum + ys.length * a.length ≤ 16777216 ∧ Qp (.pu (.sc (.str (Txt.join a ys))))⟩ := z_joinP
theorem y_lcountP_s {a : Str} : @pmK lcountP (.lst ds) [.sc (.str a)] ⟨Qp⟩ = @cS _ (strsD ds) ⟨fun ys => Qp (.pu (.sc (.int (ys.count a : Nat))))⟩ := z_lcountP_s
theorem y_lcountP_i {a : Int} : @pmK lcountP (.lst ds) [.sc (.int a)] ⟨Qp⟩ = @cS _ (intsD ds) ⟨fun ys => Qp (.pu (.sc (.int (ys.count a : Nat))))⟩ := z_lcountP_i
theorem y_appP {xs : List DL.D} : @plK appP xs [d] ⟨Ql⟩ = (xs.length < sizeLine ∧ Ql (.sc .non) (xs ++ [d])) := z_appP
theorem y_insP {xs : List DL.D} {i : Int} : @plK insP xs [.sc (.int i), d] ⟨Ql⟩ = (xs.length < sizeLine ∧ 0 ≤ i ∧ i < 2 ^ 63 ∧ Ql (.sc .non) (xs.take i.toNat ++ [d] ++ xs.drop i.toNat)) := z_insP
theorem y_dSeq : dSeq ts us E δ = ts { E with nx := us E } δ := rfl
end
end DL

/-! text DLSt -/
set_option Elab.async false
set_option linter.all false
set_option maxRecDepth 100000
namespace DL
open PySem PySem.Spec PyProof.Rows L2 LamX
/-! ### sets of texts: len(set(t)), t a tuple of texts -/
def ddS (acc : List Str) (x : Str) : List Str := if x ∈ acc then acc else acc ++ [x]
/-- each text once -/
def dd (xs : List Str) : List Str := xs.foldl ddS []
theorem dd_snoc (xs : List Str) (x : Str) : dd (xs ++ [x]) = ddS (dd xs) x := by
  unfold dd
  rw [List.foldl_append]
  rfl
theorem ddS_mem (l : List Str) (x k : Str) : k ∈ ddS l x ↔ k ∈ l ∨ k = x := by
  unfold ddS
  split
  · exact ⟨.inl, fun h => h.elim id fun e => by rw [e]; assumption⟩
  · simp
theorem ddS_len (l : List Str) (x : Str) : (ddS l x).length = if x ∈ l then l.length else l.length + 1 := by
  unfold ddS
  split <;> simp
theorem dd_le (xs : List Str) : (dd xs).length ≤ xs.length := by
  have : ∀ (xs acc : List Str), (xs.foldl ddS acc).length ≤ acc.length + xs.length := by
    intro xs
    induction xs with
    | nil => intro acc; exact Nat.le_refl _
    | cons x xs ih =>
      intro acc
      have h1 := ih (ddS acc x)
      have h2 := ddS_len acc x
      rw [List.foldl_cons, List.length_cons]
      split at h2 <;> omega
  simpa [dd] using this xs []
section
variable {prog : Program} {w : World} {A : Around}
/-- a set that grows by each thing that is walked: mem, num tell what it holds behind i turns -/
theorem set_fills {KT : Type} [DecidableEq KT] {knd : PySem.KeyKind prog w KT} {R : Result → Shared → Prop} {I S : Addr} {fp wr : List Addr} {G : Array GenState → Array GenState → Prop} {n : Nat} {P : Nat → Value → Prop} {St : Nat → Shared → Prop} (W : WalksS prog w A.in1 I fp wr G n P St) (out : S ∉ fp)
    (mem : Nat → KT → Bool) (num : Nat → Nat) (key : Nat → KT) (few : ∀ i, i < n → num i + 1 < scanBound) (isKey : ∀ i v, P i v → knd.is (key i) v = true ∧ v.scannable = true)
    (grows : ∀ i, i < n → (fun k => mem i k || decide (k = key i)) = mem (i + 1) ∧ (if mem i (key i) then num i else num i + 1) = num (i + 1)) (i : Nat) (s : Shared) (hi : i ≤ n) (st : St i s) (holds : s.heap.SetOf knd S (mem i) (num i))
    (fin : ∀ s', Moved (S :: wr) G s s' → s'.heap.SetOf knd S (mem n) (num n) → R (.ok (.ret .none)) s') : codeAny (model prog w) A (.builtin "set.update.loop" ⟨[.ref S, .ref I], []⟩) R s := by
  have apart : S ∉ wr := fun h => out (W.sub _ h)
  have wider : ∀ b ∈ wr, b ∈ S :: wr := fun b => List.mem_cons_of_mem _
  have stands : ∀ {s s' : Shared} {m : KT → Bool} {k : Nat}, Moved wr G s s' → s.heap.SetOf knd S m k → s'.heap.SetOf knd S m k := fun mv ⟨o, es, ep, t, ho, r⟩ => ⟨o, es, ep, t, mv.heap S _ apart ho, r⟩
  refine codeAny_builtin PyProof.Rows.F.entry_set_update_loop ?_
  rw [Around.under_plainId PyProof.Rows.F.plain_set_update_loop _]
  show wpAny _ A.in1 (pyNext (.ref I) >>= _) _ _ s
  by_cases last : i = n
  · subst last
    refine wpAny_bind (W.done s _ _ st fun s' mv => ?_)
    show wpAny _ A.in1 (ret Value.none) _ _ s'
    exact wpAny_pure (fin s' (mv.mono wider) (stands mv holds))
  · have lt : i < n := by omega
    obtain ⟨g1, g2⟩ := grows i lt
    refine wpAny_bind (W.item i s _ _ lt st fun v s1 hP st1 mv => ?_)
    obtain ⟨k1, k2⟩ := isKey i v hP
    show wpAny _ A.in1 (holding [v] (setAdd S v) >>= _) _ _ s1
    refine wpAny_bind (wpAny_holding ?_)
    unfold setAdd
    refine wpAny_holding (wpAny_bind (knd.pyHash k1 ?_))
    refine wpAny_setAddHashed_of (s := { s1 with toks := s1.toks + 1 }) k1 k2 (show s1.heap.SetOf knd S (mem i) (num i) from stands mv holds) (few i lt) fun h2 but holds2 => ?_
    rw [g1, g2] at holds2
    have keep : ∀ b, b ≠ S → h2.get? b = s1.heap.get? b := but.2
    refine wpAny_pure ⟨plainId_quiet PyProof.Rows.F.plain_set_update_loop _, ?_⟩
    refine set_fills W out mem num key few isKey grows (i + 1) _ lt (W.frame _ s1 h2 _ st1 (Nat.le_succ _) fun b hb o e => ?_) holds2 fun s3 mv3 => fin s3 (Moved.trans W.gtrans ((mv.mono wider).then_heap (Nat.le_succ _) fun b o hb e => ?_) mv3)
    · rw [keep b fun z => out (z ▸ hb)]; exact e
    · rw [keep b fun z => hb (by rw [z]; exact List.mem_cons_self)]; exact e
termination_by n - i
end

section
variable {prog : Program} {w : World} {A : Around} {E : Value → Shared → Prop} {s : Shared}
abbrev freshSet (led : Bool) : Obj := { cls := .type "set", dict := none, data := .set #[] 0 (.fresh 0 0 led) }
set_option maxHeartbeats 3200000 in
theorem call_set_by {v : Value} {Q : Value → Shared → Prop} (init : ∀ led, codeAny (model prog w) A.in1 (.call (.builtin "set.__init__") ⟨[.ref s.heap.objs.size, v], []⟩) (fun r s' => r = .ok (.ret .none) ∧ Q (.ref s.heap.objs.size) s') { s with heap := s.heap.push (freshSet led) }) : wpAny (model prog w) A (call (.type "set") [v]) Q E s := by
  obtain ⟨c, tl, hmro⟩ := PySem.F.called_set.mro
  have made := PySem.F.called_set.made
  have sub := PySem.F.called_set.sub
  have h1 := PySem.F.called_set.notType
  have h2 := PySem.F.called_set.canCreate
  have hct := PySem.F.typeCall_set_1 v
  refine wpAny_call (codeAny_of_tree (wpAny_pure ⟨Code.quiet_builtin _ (by decide +kernel), codeAny_builtin PySem.F.entry_type_call ?_⟩))
  rw [Around.under_plain (weight_type_call_type "set" [v] []) rfl]
  repeat (any_goals (first | assumption | wp_step))
  refine codeAny_mono (code_set_new_1 v (E := E) (Q₁ := fun obj s₁ => ∃ led : Bool, obj = .ref s.heap.objs.size ∧ s₁ = { s with heap := s.heap.push (freshSet led) }) fun led => ⟨led, rfl, rfl⟩) fun r s₁ hr => ?_
  cases r with
  | error e => exact hr
  | ok fl =>
    cases fl with
    | ret obj =>
      obtain ⟨led, rfl, rfl⟩ := hr
      have hli := PySem.F.called_set.init.lookup
      have hbi := PySem.F.called_set.init.bind (.ref s.heap.objs.size)
      have hT : Shared.TypeIs { s with heap := s.heap.push (freshSet led) } (.ref s.heap.objs.size) "set" := ⟨_, Heap.get?_push_size _ rfl, rfl⟩
      repeat (any_goals (first | assumption | wp_step))
      refine codeAny_mono (init led) fun r s2 hq => ?_
      obtain ⟨rfl, q⟩ := hq
      refine wpAny_pure ?_
      exact wpAny_pure q
    | next => exact hr
    | brk => exact hr
    | cont => exact hr
theorem strs_get {vs : List Value} {ys : List Str} (h : StrsAre vs ys) (i : Nat) (v : Value) (e : vs[i]? = some v) : ∃ t, v = .str (ys.getD i "") t := by
  induction h generalizing i with
  | nil => cases e
  | cons y t _ ih =>
    cases i with
    | zero => cases e; exact ⟨t, rfl⟩
    | succ i => exact ih i e
theorem take_grow (xs : List Str) {i : Nat} (h : i < xs.length) : xs.take (i + 1) = xs.take i ++ [xs.getD i ""] := by
  rw [List.take_succ, List.getD_eq_getElem?_getD, List.getElem?_eq_getElem h]
  rfl
set_option maxHeartbeats 3200000 in
/-- set(t) -/
theorem set_of_tuple {l : Addr} {items : Array Value} {xs : List Str} {Q : Value → Shared → Prop} (hd : A.handled = none) (tu : s.heap.IsTuple l items) (ss : StrsAre items.toList xs) (few : xs.length + 1 < scanBound)
    (q : ∀ (h' : Heap) (tk : Nat), h'.SetOf (PySem.strKind prog w) s.heap.objs.size (fun k => decide (k ∈ dd xs)) (dd xs).length → (∀ b o, b < s.heap.objs.size → s.heap.get? b = some o → h'.get? b = some o) → Q (.ref s.heap.objs.size) { s with heap := h', toks := tk }) :
    wpAny (model prog w) A (call (.type "set") [.ref l]) Q E s := by
  refine call_set_by fun led => ?_
  have lt : l < s.heap.objs.size := by obtain ⟨o, ho, _⟩ := tu; exact Heap.lt_size ho
  have hT : Shared.TypeIs { s with heap := s.heap.push (freshSet led) } (.ref s.heap.objs.size) "set" := ⟨_, Heap.get?_push_size _ rfl, rfl⟩
  have tu1 := tu.push (freshSet led)
  refine codeAny_mono (codeAny_call_builtin (R := wants (fun r s2 => r = .none ∧ Q (.ref s.heap.objs.size) s2) fun _ _ => False) PySem.F.called_set.init.plain PySem.F.entry_set_init (check_set_init_1 hT ?_)) fun r s2 hr => ?_
  rotate_left
  · cases r with
    | error e => exact hr.elim
    | ok fl =>
      cases fl with
      | ret u => exact ⟨by rw [hr.1], hr.2⟩
      | _ => exact hr.elim
  · have notSet := PySem.F.sub_tuple_set
    have notFrozen := PySem.F.sub_tuple_frozenset
    have notDict : (Value.type "tuple" == Value.type "dict") = false := by decide
    obtain ⟨⟨cls, dct, dt, sl⟩, at1, k1, n, k2⟩ := id tu1
    simp only at k1 k2
    subst k1 k2
    unfold Builtin.«set.__init__» noKeywords Builtin.Frozenset.updateFrom
    generalize toIter : pyIter = it
    wp_walk
    subst toIter
    refine wpAny_pyIter_tuple tu1 (wpAny_bind (wpAny_runValue ?_))
    have hsz : xs.length = items.size := by rw [← StrsAre.len_eq ss, Array.length_toList]
    have h3 : A.in1.in1.in1.handled = none := by simp [hd]
    have psz : (s.heap.push (freshSet led)).objs.size = s.heap.objs.size + 1 := Heap.size_push _ _
    refine set_fills (knd := PySem.strKind prog w) ((Walks.tuple h3 _ l (Nat.ne_of_lt (Nat.lt_of_lt_of_eq (Nat.lt_succ_of_lt lt) psz.symm)) items).toS) (S := s.heap.objs.size) ?_ (fun i k => decide (k ∈ dd (xs.take i))) (fun i => (dd (xs.take i)).length) (fun i => xs.getD i "")
      (fun i hi => ?_) (fun i v hv => ?_) (fun i hi => ?_) 0 _ (Nat.zero_le _) ⟨⟨_, Heap.get?_push_size _ rfl, rfl, rfl⟩, tu1.push _⟩ ?_ fun s3 mv holds => ?_
    · show s.heap.objs.size ∉ [(s.heap.push (freshSet led)).objs.size, l]
      simp only [List.mem_cons, List.not_mem_nil, or_false, not_or]
      exact ⟨Nat.ne_of_lt (Nat.lt_of_lt_of_eq (Nat.lt_succ_self _) psz.symm), Nat.ne_of_gt lt⟩
    · have := dd_le (xs.take i)
      rw [List.length_take] at this
      omega
    · obtain ⟨t, rfl⟩ := strs_get ss i v (by rw [Array.getElem?_toList]; exact hv)
      exact ⟨strKind_is _ _ _ _, rfl⟩
    · have e := take_grow xs (show i < xs.length by omega)
      refine ⟨funext fun k => ?_, ?_⟩
      · rw [e, dd_snoc, Bool.eq_iff_iff]
        simp only [Bool.or_eq_true, decide_eq_true_eq, ddS_mem]
      · rw [e, dd_snoc, ddS_len]
        simp only [decide_eq_true_eq]
    · have at2 : ((s.heap.push (freshSet led)).push { cls := .type "tuple_iterator", data := .fields #[.ref l, .int 0 0] }).get? s.heap.objs.size = some (freshSet led) := Heap.get?_push_of_some _ (Heap.get?_push_size _ rfl)
      exact PyProof.Rows.SetOf_congr ((PyProof.Rows.setObjOf_fresh (knd := PySem.strKind prog w) led).setOf at2 (by decide)) (fun _ => rfl) rfl
    · rw [show xs.take items.size = xs from List.take_of_length_le (by omega)] at holds
      obtain ⟨h', gs, dr, tk, os⟩ := s3
      obtain rfl : gs = s.gens := mv.gens
      obtain rfl : dr = s.drawn := mv.drawn
      obtain rfl : os = s.os := mv.os
      refine wpAny_pure (show wpAny _ _ (ret Value.none) _ _ _ from wpAny_pure ⟨rfl, q h' tk holds fun b o hb e => ?_⟩)
      refine mv.heap b o ?_ (Heap.get?_push_of_some _ (Heap.get?_push_of_some _ e))
      simp only [List.mem_cons, List.not_mem_nil, or_false, not_or]
      exact ⟨Nat.ne_of_lt hb, Nat.ne_of_lt (Nat.lt_of_lt_of_eq (Nat.lt_succ_of_lt hb) psz.symm)⟩
end
/-! ### .. over data; list(range(n)) -/
section
variable {X : Cx} {g : Gd} {Wx : WX} {a e : Expr} {ta : TE} {da : DTE} {p p2 pos pos2 : Pos}
def tLSet (K : PySem.W.Frag) (ta : TE) : TE := fun σ H Q => ta σ H fun x H1 => ∃ l, ∃ xs : List Str, x = .ref l ∧ SqT K H1 l (xs.map V.str) ∧ xs.length + 1 < scanBound ∧ Q (.int (dd xs).length) H1
theorem pe_lset (hc : X.calm = true) (hg : Gl X "len") (hm : X.mg "len" = none) (hg2 : Gl X "set") (hm2 : X.mg "set" = none) (ha : PE X a ta)
    (na : starEach [a] X.env = (false, eval a X.env) :: starEach [] X.env := by rfl) : PE X (.Call (.Name "len" p) [.Call (.Name "set" p2) [a] [] pos2] [] pos) (tLSet X.K ta) := by
  refine ⟨fun pins s σ H Q I h => Call_ (ld_blt I hg hm PySem.boot_len (PyProof.Rows.callWith_builtin1 (PyProof.Rows.args_cons ?_ rfl) rfl rfl))⟩
  refine Call_ (ld_blt I hg2 hm2 PyProof.Rows.boot_set (PyProof.Rows.callWith_type1 (PyProof.Rows.args_cons (thn (ha.run pins s σ H _ I h) fun v s1 ⟨x, H1, I1, r1, l, xs, ex, sq, few, q⟩ => PyProof.Rows.args_nil ?_) na) na rfl))
  subst ex
  cases r1
  obtain ⟨its, r, tu, _⟩ := I1.tuple sq
  refine set_of_tuple (I1.ok.hd hc) tu (strs_of_vals (by simpa using r)) few fun h' tk holds keep => PyProof.Rows.args_nil ?_
  obtain ⟨o, es, ep, t, ho, hx, hd, _, _, _, hf, hn⟩ := holds
  have I2 : Inv X pins σ H1 { s1 with heap := h', toks := tk } := I1.kept fun b o e => keep b o (Heap.lt_size e) e
  have small := dd_le xs
  refine call_len_set ho hx hd hf (by rw [hn]; unfold scanBound at few; omega) ⟨.int (dd xs).length, H1, I2.tok _, ⟨_, by rw [hn]⟩, q⟩
def dLSet (da : DTE) : DTE := fun δ Q Y => da δ (fun x δ1 => ∃ xs, val δ1 x = some (.tup xs) ∧ ∃ zs, strsD xs = some zs ∧ zs.length < 4000 ∧ Q (.pu (.sc (.int (dd zs).length))) δ1) Y
theorem de_lset (gK : g.K = X.K) (hc : X.calm = true) (hg : Gl X "len") (hm : X.mg "len" = none) (hg2 : Gl X "set") (hm2 : X.mg "set" = none) (ha : DE X g Wx a da)
    (na : starEach [a] X.env = (false, eval a X.env) :: starEach [] X.env := by rfl) : DE X g Wx (.Call (.Name "len" p) [.Call (.Name "set" p2) [a] [] pos2] [] pos) (dLSet da) := by
  refine ⟨fun δ Q Q' Y Y' hQ hY h => ha.mono _ _ _ _ _ (fun w δ1 ⟨xs, e, zs, e2, n, h⟩ => ⟨xs, e, zs, e2, n, hQ _ _ h⟩) hY h, peMono (pe_lset hc hg hm hg2 hm2 ha.pe na) ?_⟩
  rintro σ H Q ⟨F, O, δ, r, q⟩
  refine ⟨F, O, δ, r, ha.mono _ _ _ _ _ (fun w δ1 q v F1 H1 O1 s1 r1 x1 => ?_) (fun _ _ z => z) q⟩
  obtain ⟨xs, e, zs, e2, n, q⟩ := q
  obtain ⟨l, vs, rfl, h1, h2⟩ := r1.cont x1 e
  have e1 := strs_eq e2
  subst e1
  have e3 := h2.scI
  subst e3
  exact ⟨l, zs, rfl, by rw [← gK]; exact r1.sub.sqT h1, by unfold scanBound; omega, q _ F1 H1 O1 s1 r1 (.sc _)⟩
def dLRg (da : DTE) : DTE := fun δ Q Y => da δ (fun x δ1 => ∃ j, val δ1 x = some (.sc (.int j)) ∧ (0 ≤ j ∧ j ≤ 16777216) ∧ Q (.ow (.lst (rngL 0 j.toNat))) δ1) Y
theorem de_lrg (hc : X.calm = true) (hg : Gl X "list") (hm : X.mg "list" = none) (hg2 : Gl X "range") (hm2 : X.mg "range" = none) (ha : DE X g Wx a da)
    (na : starEach [a] X.env = (false, eval a X.env) :: starEach [] X.env := by rfl) : DE X g Wx (.Call (.Name "list" p) [.Call (.Name "range" p2) [a] [] pos2] [] pos) (dLRg da) := by
  refine ⟨fun δ Q Q' Y Y' hQ hY h => ha.mono _ _ _ _ _ (fun w δ1 ⟨j, e, n, h⟩ => ⟨j, e, n, hQ _ _ h⟩) hY h, peMono (pe_listRg hc hg hm (prg_1 hg2 hm2 ha.pe na) rfl) ?_⟩
  rintro σ H Q ⟨F, O, δ, r, q⟩
  refine ⟨F, O, δ, r, ha.mono _ _ _ _ _ (fun w δ1 q v F1 H1 O1 s1 r1 x1 => ?_) (fun _ _ z => z) q⟩
  obtain ⟨j, e, n, q⟩ := q
  have hv : v = .int j := r1.cont x1 e
  refine ⟨j, hv, RgOk.of_le (by omega) (by omega) (by omega) (by omega), fun y hy => ?_⟩
  have eq : rgV 0 j = (List.range j.toNat).map fun (i : Nat) => V.int (0 + (i : Int)) := by unfold rgV; rw [Int.sub_zero]
  have rp : Reps g.K F1 (rgV 0 j) (rngL 0 j.toNat) := by
    have := Reps.scs (K := g.K) (F := F1) (rgV 0 j)
    rw [eq, List.map_map] at this
    rw [eq]
    exact this
  obtain ⟨s2, r2, x2⟩ := r1.newL hy rp
  exact q _ F1 _ O1 (s1.trans s2) r2 (x2.back s1)
end
end DL

/-! text DLTab -/
set_option Elab.async false
set_option linter.all false
set_option maxRecDepth 100000
set_option maxHeartbeats 2000000
namespace DL
open PySem PySem.Spec PyProof.Rows L2 LamX
/-! ### a dict of the top: x in d, d[x] -/
def inTabP (a : Addr) (kvs : List (Str × Int)) (neg : Bool) : P2 := fun dx dy Q => match dx, dy with
  | .sc (.str z), .sc (.ref b) => b = a ∧ Q (.pu (.sc (.bl (neg ^^ (kvs.find? fun q => q.1 == z).isSome))))
  | _, _ => False
def ixTabP (a : Addr) (kvs : List (Str × Int)) : P2 := fun dx dy Q => match dx, dy with
  | .sc (.ref b), .sc (.str z) => b = a ∧ ∃ q, (kvs.find? fun q => q.1 == z) = some q ∧ Q (.pu (.sc (.int q.2)))
  | _, _ => False
section
variable {w : World} {g : Gd} {a : Addr} {kvs : List (Str × Int)}
theorem TabOk.isSome (T : TabOk w g.K a kvs) (z : Str) : ∃ r, PySem.W.nsIn g.K a z = some r ∧ r.isSome = (kvs.find? fun q => q.1 == z).isSome := by
  obtain ⟨r, e, h⟩ := T.get z
  refine ⟨r, e, ?_⟩
  cases hf : kvs.find? fun q => q.1 == z with
  | some q => rw [hf] at h; obtain ⟨t, rfl⟩ := h; rfl
  | none => rw [hf] at h; cases h; rfl
theorem inTab_mono (neg : Bool) : Mo2 (inTabP a kvs neg) := fun dx dy Q Q' h q => by
  unfold inTabP at q ⊢
  split at q
  · exact ⟨q.1, h _ q.2⟩
  · exact q.elim
theorem pr_notInTab (T : TabOk w g.K a kvs) : Pr2 g (fun x y H Q => ∃ (z : Str) (r : Option Value), x = .str z ∧ y = .ref a ∧ PySem.W.nsIn g.K a z = some r ∧ Q (.bl (!r.isSome)) H) (inTabP a kvs true) := by
  refine Pr2.sc (inTab_mono true) fun {F H x y dx dy Q Qd} sb hx hy hp k => ?_
  unfold inTabP at hp
  split at hp
  · rename_i z b
    cases hx; cases hy
    obtain ⟨rfl, hp⟩ := hp
    obtain ⟨r, e, h⟩ := T.isSome z
    exact ⟨z, r, rfl, rfl, e, k _ (by rw [h]; simpa using hp)⟩
  · exact hp.elim
theorem pr_inTab (T : TabOk w g.K a kvs) : Pr2 g (fun x y H Q => ∃ (z : Str) (r : Option Value), x = .str z ∧ y = .ref a ∧ PySem.W.nsIn g.K a z = some r ∧ Q (.bl r.isSome) H) (inTabP a kvs false) := by
  refine Pr2.sc (inTab_mono false) fun {F H x y dx dy Q Qd} sb hx hy hp k => ?_
  unfold inTabP at hp
  split at hp
  · rename_i z b
    cases hx; cases hy
    obtain ⟨rfl, hp⟩ := hp
    obtain ⟨r, e, h⟩ := T.isSome z
    exact ⟨z, r, rfl, rfl, e, k _ (by rw [h]; simpa using hp)⟩
  · exact hp.elim
theorem pr_ixTab (T : TabOk w g.K a kvs) : Pr2 g (rIxD g.K w) (ixTabP a kvs) := by
  refine Pr2.sc (fun dx dy Q Q' h q => ?_) fun {F H x y dx dy Q Qd} sb hx hy hp k => ?_
  · unfold ixTabP at q ⊢
    split at q
    · obtain ⟨e, p, h1, h2⟩ := q
      exact ⟨e, p, h1, h _ h2⟩
    · exact q.elim
  · unfold ixTabP at hp
    split at hp
    · rename_i b z
      cases hx; cases hy
      obtain ⟨rfl, p, h1, h2⟩ := hp
      obtain ⟨r, e, h⟩ := T.get z
      rw [h1] at h
      obtain ⟨t, rfl⟩ := h
      obtain ⟨es, n, D⟩ := T.kd
      exact ⟨_, z, .int p.2, rfl, rfl, ⟨es, n, _, D.at_, D.lit, e, ⟨t, rfl⟩⟩, k _ h2⟩
    · exact hp.elim
end
/-! ### {..written..}.get(x, y) -/
theorem tPairs_const : ∀ (kvs : List (Key × V)) (σ : L2.St) (H : Hp) (Q : List (V × V) → Hp → Prop), tPairs (kvs.map fun kv => (tC (kV kv.1), tC kv.2)) σ H Q ↔ Q (kvs.map fun kv => (kV kv.1, kv.2)) H
  | [], σ, H, Q => Iff.rfl
  | kv :: kvs, σ, H, Q => tPairs_const kvs σ H fun ps H3 => Q ((kV kv.1, kv.2) :: ps) H3
def dDGet (kvs : List (Key × V)) (d : V) (ta : DTE) : DTE := fun δ Q Y => ta δ (fun x δ1 => ∃ z, val δ1 x = some (.sc (.str z)) ∧ Q (.pu (.sc ((valV (mergeK [] kvs) (.inr z)).getD d))) δ1) Y
section
variable {X : Cx} {g : Gd} {Wx : WX} {e a b c i f : Expr} {es rest : List Expr} {ta tb tc : DTE} {tA : DTA} {t u : DTT} {pos p apos cpos : Pos}
theorem de_dget {keys : List (Option Expr)} {values : List Expr} {kvs : List (Key × V)} {d : V} (hu : X.A.units + 64 < cLine) (hp : PPs X p keys values (kvs.map fun kv => (tC (kV kv.1), tC kv.2))) (hall : keys.all (·.isSome) = true) (hl : keys.length = values.length) (h0 : keys ≠ []) (h15 : keys.length ≤ 15) (hk : kvs.length ≤ 15)
    (ha : DE X g Wx i ta) (hf : PE X f (tC d)) (m : M2 X (.Dict keys values p) "get" apos i f cpos) : DE X g Wx (.Call (.Attribute (.Dict keys values p) "get" apos) [i, f] [] cpos) (dDGet kvs d ta) := by
  refine ⟨fun δ Q Q' Y Y' hQ hY h => ha.mono _ _ _ _ _ (fun x δ1 ⟨z, e, q⟩ => ⟨z, e, hQ _ _ q⟩) hY h, peMono (pe_dget2 (by omega) (pe_disp hp hall hl h0 h15) ha.pe hf m) ?_⟩
  rintro σ H Q ⟨F, O, δ, r0, q⟩ p hn
  rw [tPairs_const]
  refine ⟨upd_same, kvs, rfl, hk, p, rfl, .inl ⟨_, .inl upd_same⟩, ?_⟩
  rw [upd_upd]
  obtain ⟨r1, s1⟩ := r0.laid (o := .dK (mergeK [] kvs)) hn
  refine ⟨F, O, δ, r1, ha.mono _ _ _ _ _ (fun x δ1 ⟨z, e, q⟩ v F2 H2 O2 s2 r2 x2 => ?_) (fun c δ z => z.step s1) q⟩
  obtain rfl : v = .str z := r2.cont x2 e
  exact ⟨_, DGet.k (k := .inr z) (s2.fr p _ upd_same (r0.free hn).2 (fun _ z => by cases z)), q _ F2 H2 O2 (s1.trans s2) r2 (.sc _)⟩
/-! ### calls of a def that a slot holds -/
theorem pe_slotS {CX : CXT} {k j : Nat} {fa : Addr} {fd : FuncData} {ps : List Str} {sp : Sp} {E : L2.St → XK} {x : Str} {t : TA} (F : FnOk X.prog X.w X.K X.mg X.base CX k fa fd ps sp) (hr : Room k X.A) (hv : PE X (.Name x p) (tVar j)) (hk : PySem.W.keepIn X.K (.ref fa) = true) (hb : Binds X.K fd ps []) (hx : ∀ σ, PassesAt CX X σ (E σ)) (ha : PA X (a :: es) t)
    (he : starEach (a :: es) X.env = (false, eval a X.env) :: starEach es X.env := by rfl) (hpl : (backTo pos (starEach es X.env)).any (·.1) = false := by rfl) : PE X (.Call (.Name x p) (a :: es) [] pos) (fun σ H Q => σ[j]? = some (some (.ref fa)) ∧ t σ H fun vs H1 => sp vs H1 Q (E σ)) := by
  refine ⟨fun pins s σ H Q I ⟨hs, h⟩ => ?_⟩
  refine wpAny_Call_Name_kw (thn (hv.run pins s σ H (fun v H1 => v = .ref fa ∧ H1 = H) I ⟨.ref fa, hs, rfl, rfl⟩) fun u s1 ⟨v, H1, I1, r1, q1⟩ => ?_)
  obtain ⟨rfl, rfl⟩ := q1
  cases r1
  refine PySem.W.callWith_K (h₀ := X.base) I1.ok.mod.kin hk (thn (ha.run pos pins s1 σ _ _ I1 h) fun us s2 ⟨vs, H2, I2, r, q⟩ => ⟨I2.kIn, ?_⟩) he hpl
  exact run_fnS F hr hb (hx σ) I2 r q
def dCallV (j : Nat) (al : List (Addr × DSp)) (tA : DTA) : DTE := fun δ Q Y => ∃ q ∈ al, δ.sl[j]? = some (some (.pu (.sc (.ref q.1)))) ∧ dCall q.2 tA δ Q Y
theorem de_cv {k : Nat} {x : Str} {al : List (Addr × DSp)} (j : Nat) (C : ∀ q ∈ al, ∃ l x ps, l ≤ k ∧ q.1 = He.ga g.K x ∧ CallOk X.prog X.w g.K X.mg X.base g.T l x ps q.2) (gK : g.K = X.K) (hr : Room k X.A) (hv : PE X (.Name x p) (tVar j)) (tk : Takes X Wx) (ha : DA X g Wx (a :: es) tA)
    (he : starEach (a :: es) X.env = (false, eval a X.env) :: starEach es X.env := by rfl) (hpl : (backTo pos (starEach es X.env)).any (·.1) = false := by rfl) : DE X g Wx (.Call (.Name x p) (a :: es) [] pos) (dCallV j al tA) := by
  refine ⟨fun δ Q Q' Y Y' hQ hY ⟨q, hq, hs, h⟩ => ⟨q, hq, hs, ?_⟩, ⟨fun pins s σ H Q I h => ?_⟩⟩
  · obtain ⟨_, _, _, _, _, mp, _⟩ := C q hq
    exact dCall_mono mp ha.mono _ _ _ _ _ hQ hY h
  · obtain ⟨F0, O, δ, r0, q, hq, hs, h⟩ := h
    obtain ⟨l, y, ps, hl, eq, mp, hm, hk, fd, F, hb⟩ := C q hq
    rw [gK] at hk hb
    have F' : FnOk X.prog X.w X.K X.mg X.base (L2.CX X.prog X.w) l (He.ga X.K y) fd ps (lift g.K g.T q.2) := by rw [← gK]; exact F
    refine (pe_slotS (E := WE Wx) F' (hr.mono hl) hv hk hb (fun σ => passAt tk σ) ha.pa he hpl).run pins s σ H Q I ⟨?_, ?_⟩
    · obtain ⟨v, h1, h2⟩ := r0.sl j _ hs
      cases h2
      rw [h1, eq, gK]
    · exact callCanS mp ha.mono σ H Q ⟨F0, O, δ, r0, h⟩
/-! ### calls without arguments -/
theorem nilCan {q : List V → Hp → Prop} {σ : L2.St} {H : Hp} (h : canA g Wx dNil σ H q) : q [] H := by
  obtain ⟨F, O, δ, r0, q⟩ := h
  exact q [] F H O (Step.refl _ _ _) r0 .nil
theorem de_c0 {sp : DSp} {j k : Nat} {ps : List Str} {x : Str} (C : CallOk X.prog X.w g.K X.mg X.base g.T j x ps sp) (gK : g.K = X.K) (hr : Room k X.A) (hg : Gl X x) (tk : Takes X Wx) (hjk : j ≤ k := by decide)
    (hdb : (x == ("__debug__" : Str)) = false := by decide) : DE X g Wx (.Call (.Name x p) [] [] pos) (dCall sp dNil) := by
  obtain ⟨mp, hm, hk, fd, F, hb⟩ := C
  rw [gK] at hm hk hb
  have F' : FnOk X.prog X.w X.K X.mg X.base (L2.CX X.prog X.w) j (He.ga X.K x) fd ps (lift g.K g.T sp) := by rw [← gK]; exact F
  refine ⟨dCall_mono mp (da_nil (X := X) (g := g) (Wx := Wx)).mono, peMono (t := fun σ H Q => canA g Wx dNil σ H fun vs H1 => lift g.K g.T sp vs H1 Q (WE Wx σ)) ?_ (callCanS mp (da_nil (X := X) (g := g) (Wx := Wx)).mono)⟩
  refine ⟨fun pins s σ H Q I h => wpAny_Call_Name_kw (ld_glob I hg hm ?_ hdb)⟩
  exact PySem.W.callWith_K0 I.kIn hk (run_fnS (E := WE Wx) (us := []) F' (hr.mono hjk) hb (passAt tk σ) I .nil (nilCan h))
theorem de_cg0 {sp : DSp} {j k : Nat} {ps : List Str} {x : Str} (C : CallG X.prog X.w g.K X.mg X.base g.T j x ps sp) (gK : g.K = X.K) (hgd : X.A.guards = some []) (hr : Room k X.A) (hg : Gl X x) (tk : Takes X Wx) (hjk : j ≤ k := by decide)
    (hdb : (x == ("__debug__" : Str)) = false := by decide) : DE X g Wx (.Call (.Name x p) [] [] pos) (dCall sp dNil) := by
  obtain ⟨mp, hm, hk, fd, F, hb⟩ := C
  rw [gK] at hm hk hb
  have F' : GFn X.prog X.w X.K X.mg X.base (L2.CX X.prog X.w) j (He.ga X.K x) fd ps (lift g.K g.T sp) := by rw [← gK]; exact F
  refine ⟨dCall_mono mp (da_nil (X := X) (g := g) (Wx := Wx)).mono, peMono (t := fun σ H Q => canA g Wx dNil σ H fun vs H1 => lift g.K g.T sp vs H1 Q (WE Wx σ)) ?_ (callCanS mp (da_nil (X := X) (g := g) (Wx := Wx)).mono)⟩
  refine ⟨fun pins s σ H Q I h => wpAny_Call_Name_kw (ld_glob I hg hm ?_ hdb)⟩
  refine PySem.W.callWith_K0 I.kIn hk ?_
  have q := nilCan h
  have hl : ([] : List Value).length = ps.length := F'.len _ _ _ _ q
  have b := hb s [] I.kIn (by rw [List.append_nil]; exact hl)
  rw [List.append_nil] at b
  refine wpAny_call (codeAny_mono (F'.run X.A X.stack s H ⟨[], []⟩ [] [] Q (WE Wx σ) hgd (hr.mono hjk) I.env0 b .nil q) fun r s' hq => ?_)
  match r, hq with
  | .error e, hq => exact passAt tk σ pins H s e s' I hq
  | .ok (.ret u), hq => exact I.after hq
end
end DL

/-! text DLBe -/
set_option Elab.async false
set_option linter.all false
set_option maxRecDepth 100000
set_option maxHeartbeats 2000000
namespace DL
open PySem PySem.Spec PyProof.Rows L2 LamX PySem.SeqAt
/-! ### isinstance(x, (T, ..)) -/
def kitBs (t : String) : List String → Option Bool
  | [] => some false
  | T :: r => match kitB t T with
    | some true => some true
    | some false => kitBs t r
    | none => none
theorem kitBs_ok {K : PySem.W.Frag} {t : String} : ∀ {Ts : List String} {b : Bool}, kitBs t Ts = some b → PySem.W.kitAny K (.type t) (Ts.map Value.type) = some b
  | [], b, h => h
  | T :: r, b, h => by
    unfold kitBs at h
    split at h
    · rename_i e
      cases h
      exact kitAny_cons (kit_ty e) (fun z => by cases z) fun _ => rfl
    · rename_i e
      exact kitAny_cons (kit_ty e) (fun _ => kitBs_ok h) fun z => by cases z
    · cases h
theorem tys_cls : ∀ Ts : List String, Paired ClsV (Ts.map V.ty) (Ts.map Value.type)
  | [] => .nil
  | T :: r => .cons (.ty T) (tys_cls r)
def dIsiT (Ts : List String) (ta : DTE) : DTE := fun δ Q Y => ta δ (fun x δ1 => ∃ d, val δ1 x = some d ∧ ∃ t, tyD d = some t ∧ ∃ b, kitBs t Ts = some b ∧ Q (.pu (.sc (.bl b))) δ1) Y
section
variable {X : Cx} {g : Gd} {Wx : WX} {e a b c i f : Expr} {es rest : List Expr} {ta tb tc : DTE} {tA : DTA} {t u : DTT} {pos p apos cpos tpos : Pos} {kk : Nat}
theorem de_isiT {Ts : List String} {tt : TA} (hg : Gl X "isinstance") (hm : X.mg "isinstance" = none) (gK : g.K = X.K) (ha : DE X g Wx e ta) (hA : PA X es tt) (hT : ∀ σ H Q, Q (Ts.map V.ty) H → tt σ H Q) (hl : Ts.length ≤ 10)
    (hs : starEach [e, .Tuple es kk tpos] X.env = (false, eval e X.env) :: starEach [.Tuple es kk tpos] X.env := by rfl) (hs2 : starEach [.Tuple es kk tpos] X.env = (false, eval (.Tuple es kk tpos) X.env) :: starEach [] X.env := by rfl)
    (hpl : (backTo pos (starEach [.Tuple es kk tpos] X.env)).any (·.1) = false := by rfl) : DE X g Wx (.Call (.Name "isinstance" p) [e, .Tuple es kk tpos] [] pos) (dIsiT Ts ta) := by
  refine ⟨fun δ Q Q' Y Y' hQ hY h => ha.mono _ _ _ _ _ (fun x δ1 ⟨d, e, t, e1, b, e2, q⟩ => ⟨d, e, t, e1, b, e2, hQ _ _ q⟩) hY h, peMono (pe_callB call_isiT hg hm boot_isinstance (pa_cons ha.pe (pa_cons (pe_tup hA) pa_nil hs2) hs) (by decide) (by decide) hs hpl) ?_⟩
  rintro σ H Q ⟨F, O, δ, r0, q⟩
  refine ⟨F, O, δ, r0, ha.mono _ _ _ _ _ (fun x δ1 q v F1 H1 O1 s1 r1 x1 => ?_) (fun _ _ z => z) q⟩
  obtain ⟨d, ed, t, et, b, eb, q⟩ := q
  have hc := r1.cont x1 ed
  refine hT _ _ _ ⟨by rw [List.length_map]; exact Nat.le_trans hl (by decide), fun T n => ?_⟩
  obtain ⟨r2, s2⟩ := r1.laid (o := .tup (Ts.map V.ty)) n
  have hc2 := r2.cont (x1.step s2) ed
  refine ⟨v, T, _, .type t, Ts.map Value.type, b, rfl, upd_same, tys_cls Ts, ?_, kitBs_ok eb, q _ F1 _ O1 (s1.trans s2) r2 (.sc _)⟩
  rw [← gK]
  exact Cont.tyx r2.sub hc2 et
/-! ### x == (), x a tuple -/
def rEqE (K : PySem.W.Frag) : R2 := fun x y H Q => ∃ a b xs, x = .ref a ∧ y = .ref b ∧ SqT K H a xs ∧ SqT K H b [] ∧ Q (.bl xs.isEmpty) H
theorem op_eqE (hu : X.A.units + 64 < cLine) : OpR X (compareOp .Eq) (rEqE X.K) := by
  intro pins s σ H x y v u Q I rx ry h
  obtain ⟨a, b, xs, rfl, rfl, h1, h2, q⟩ := h
  cases rx
  cases ry
  obtain ⟨its, rv, ht, _⟩ := I.tuple h1
  obtain ⟨its2, rv2, hb, _⟩ := I.tuple h2
  cases rv2
  obtain ⟨⟨cls, dd, data, sl⟩, ho, hc, n, hd⟩ := id ht
  obtain ⟨⟨cls2, dd2, data2, sl2⟩, ho2, hc2, n2, hd2⟩ := id hb
  simp only at hc hd hc2 hd2
  subst hc hd hc2 hd2
  refine richCompare_meets_room (op := .Eq) ⟨_, ho, rfl⟩ ⟨_, ho2, rfl⟩ PySem.F.slot_tuple_eq PySem.F.entry_tuple_eq (PySem.F.args_tuple_eq_2 _ _) (tuple_eqAt a b its.toArray #[] n n2 dd dd2 sl sl2 (fun _ => true))
    ⟨ho, ho2, fun j _ h => absurd h (Nat.not_lt_zero _), show Value.bool _ ≠ Value.notImplemented ∧ _ from ⟨(fun x => nomatch x), .bl xs.isEmpty, H, I, ?_, q⟩⟩ (by omega)
  have hl := rv.length
  show Value.bool _ = Value.bool _
  congr 1
  cases its with
  | nil => cases rv; rfl
  | cons z zs =>
    cases xs with
    | nil => cases hl
    | cons w ws => simp
def eqEP : P2 := fun dx dy Q => match dx, dy with
  | .tup xs, .tup [] => Q (.pu (.sc (.bl xs.isEmpty)))
  | _, _ => False
theorem pr_eqE : Pr2 g (rEqE g.K) eqEP := by
  refine Pr2.sc (fun dx dy Q Q' h q => ?_) fun {F H x y dx dy Q Qd} sb hx hy hp k => ?_
  · unfold eqEP at q ⊢
    split at q
    · exact h _ q
    · exact q.elim
  · unfold eqEP at hp
    split at hp
    · rename_i xs
      obtain ⟨a, vs, rfl, h1, h2⟩ := hx
      obtain ⟨b, ws, rfl, h3, h4⟩ := hy
      cases h4
      have e : vs.isEmpty = xs.isEmpty := by
        cases h2 <;> rfl
      exact ⟨a, b, vs, rfl, rfl, sb.sqT h1, sb.sqT h3, k _ (by rw [e]; exact hp)⟩
    · exact hp.elim
/-! ### str(i), x.upper() -/
def strP : PN := fun ds Q => match ds with
  | [.sc (.int i)] => i.natAbs.log2 < 1920 ∧ Q (.pu (.sc (.str (toString i))))
  | _ => False
theorem pr_str : PrN g (fun xs H Q => ∃ i, xs = [.int i] ∧ i.natAbs.log2 < 1920 ∧ Q (.str (toString i)) H) strP := by
  refine PrN.sc (fun ds Q Q' h q => ?_) fun {F H xs ds Q Qd} sb hx hp k => ?_
  · unfold strP at q ⊢
    split at q
    · exact ⟨q.1, h _ q.2⟩
    · exact q.elim
  · unfold strP at hp
    split at hp
    · obtain ⟨y, rfl, hy⟩ := Paired.c1 hx
      cases hy
      exact ⟨_, rfl, hp.1, k _ hp.2⟩
    · exact hp.elim
def dUpper (ta : DTE) : DTE := fun δ Q Y => ta δ (fun x δ1 => ∃ z, val δ1 x = some (.sc (.str z)) ∧ z.length ≤ 5592405 ∧ Q (.pu (.sc (.str (Txt.upper z)))) δ1) Y
theorem de_upper (ha : DE X g Wx e ta) (hbase : attributeBase e "upper" X.env (eval e X.env) = eval e X.env := by rfl) (hline : (apos.endLine == pos.line) = true := by rfl) : DE X g Wx (.Call (.Attribute e "upper" apos) [] [] pos) (dUpper ta) := by
  refine ⟨fun δ Q Q' Y Y' hQ hY h => ha.mono _ _ _ _ _ (fun x δ1 ⟨z, e, l, q⟩ => ⟨z, e, l, hQ _ _ q⟩) hY h, peMono (pe_upper ha.pe hbase hline) ?_⟩
  rintro σ H Q ⟨F, O, δ, r0, q⟩
  refine ⟨F, O, δ, r0, ha.mono _ _ _ _ _ (fun x δ1 q v F1 H1 O1 s1 r1 x1 => ?_) (fun _ _ z => z) q⟩
  obtain ⟨z, ez, l, q⟩ := q
  obtain rfl : v = .str z := r1.cont x1 ez
  exact ⟨⟨z, rfl⟩, z, rfl, rfl, l, q _ F1 H1 O1 s1 r1 (.sc _)⟩
/-! ### repr of tuples with an empty dict within -/
mutual
def toPE : D → Option PyData
  | .sc .non => some .none
  | .sc (.bl b) => some (.bool b)
  | .sc (.int i) => some (.int i)
  | .sc (.str z) => some (.str z)
  | .sc _ => none
  | .tup xs => (toPEs xs).map .tuple
  | .lst _ => none
  | .dic [] => some (.dict [])
  | .dic (_ :: _) => none
  | .scr _ => none
def toPEs : List D → Option (List PyData)
  | [] => some []
  | x :: xs => match toPE x, toPEs xs with
    | some a, some as => some (a :: as)
    | _, _ => none
end
theorem dict0_of {X : Cx} {pins : List (Addr × Obj)} {σ : L2.St} {H : Hp} {s : Shared} {a : Addr} (I : Inv X pins σ H s) (h : Rd H a (.dK [])) : (a == sysModules) = false ∧ Reads s.heap (.ref a) (.dict []) [a] := by
  obtain ⟨_, hd, vs, kv, o, es, ep, h1, h2, h3, _, h5, _⟩ := dk_rd I.hok h
  cases kv
  have e : es.toList = [] := by
    cases hes : es.toList with
    | nil => rfl
    | cons x xs => rw [hes] at h5; cases h5
  refine ⟨hd, ?_⟩
  have := Reads.dict (h := s.heap) (kvs := []) (as := []) (bs := []) h1 h2.1 h3 (by rw [e]; exact .nil) (by rw [e]; exact .nil)
  exact this
mutual
theorem readsE {X : Cx} {pins : List (Addr × Obj)} {σ : L2.St} {H : Hp} {s : Shared} (I : Inv X pins σ H s) : ∀ (d : D) (p : PyData) (v : V) (u : Value), Rep X.K H v d → toPE d = some p → RelV v u → ∃ as, Reads s.heap u p as ∧ sysModules ∉ as
  | .sc v, p, _, u, h, e, r => by
    cases h
    cases v <;> simp only [toPE] at e <;> first
      | (cases e; done)
      | (cases e; first
        | (cases r; exact ⟨_, .none, by simp⟩)
        | (cases r; exact ⟨_, .bool _, by simp⟩)
        | (obtain ⟨t, rfl⟩ := r; exact ⟨_, .int _ _, by simp⟩)
        | (obtain ⟨t, rfl⟩ := r; exact ⟨_, .str _ _, by simp⟩))
  | .tup xs, p, _, u, h, e, r => by
    simp only [toPE, Option.map_eq_some_iff] at e
    obtain ⟨ps, e, rfl⟩ := e
    cases h with
    | tup hs hr =>
      cases r
      obtain ⟨its, rv, ⟨o, ho, hc, n, hd⟩, _⟩ := I.tuple hs
      obtain ⟨as, hr, hn⟩ := readsEs I xs ps _ its hr e rv
      exact ⟨as, Reads.tuple ho hc hd hr, hn⟩
  | .lst xs, p, _, u, h, e, r => by simp [toPE] at e
  | .dic [], p, _, u, h, e, r => by
    simp only [toPE] at e
    cases e
    cases h with
    | dic hs hr =>
      cases hr
      cases r
      obtain ⟨h1, h2⟩ := dict0_of I hs
      refine ⟨_, h2, fun hm => ?_⟩
      rw [List.mem_singleton.mp hm] at h1
      simp at h1
  | .dic (_ :: _), p, _, u, h, e, r => by simp [toPE] at e
  | .scr _, p, _, u, h, e, r => by simp [toPE] at e
theorem readsEs {X : Cx} {pins : List (Addr × Obj)} {σ : L2.St} {H : Hp} {s : Shared} (I : Inv X pins σ H s) : ∀ (ds : List D) (ps : List PyData) (vs : List V) (us : List Value), Reps X.K H vs ds → toPEs ds = some ps → Vals vs us → ∃ as, ReadsAll s.heap us ps as ∧ sysModules ∉ as
  | [], ps, _, us, h, e, r => by
    simp only [toPEs] at e
    cases e
    cases h
    cases r
    exact ⟨_, .nil, by simp⟩
  | d :: ds, ps, _, us, h, e, r => by
    simp only [toPEs] at e
    split at e
    · rename_i p1 ps1 e1 e2
      cases e
      cases h with
      | cons h1 h2 =>
        cases r with
        | cons r1 r2 =>
          obtain ⟨as, q1, n1⟩ := readsE I d _ _ _ h1 e1 r1
          obtain ⟨bs, q2, n2⟩ := readsEs I ds _ _ _ h2 e2 r2
          exact ⟨_, .cons q1 q2, fun hm => by
            rcases List.mem_append.mp hm with hm | hm
            · exact n1 hm
            · exact n2 hm⟩
    · cases e
end
/-- .. or lists within, and no dict -/
def toPR (d : D) : Option PyData := match toPD d with
  | some p => some p
  | none => toPE d
def reprP2 : PN := fun ds Q => match ds with
  | [d] => ∃ p, toPR d = some p ∧ PyData.showable p = true ∧ p.depth ≤ 64 ∧ p.shown.length ≤ sizeLine ∧ Q (.pu (.sc (.str p.shown)))
  | _ => False
def rRepr2 (K : PySem.W.Frag) : List V → Hp → VK → Prop := fun xs H Q => ∃ x d p, xs = [x] ∧ Rep K H x d ∧ toPR d = some p ∧ PyData.showable p = true ∧ p.depth ≤ 64 ∧ p.shown.length ≤ sizeLine ∧ Q (.str p.shown) H
theorem call_repr2 (hgd : X.A.guards = some []) (hu : X.A.units + 66 < cLine) : CallR X (.builtin "repr") (rRepr2 X.K) := by
  rintro pins s σ H xs us Q I r ⟨x, d, p, rfl, hd, e, hs, h64, hz, q⟩
  obtain ⟨u, rfl, ru⟩ : ∃ u, us = [u] ∧ RelV x u := vals1 r
  obtain ⟨as, rd, sm⟩ : ∃ as, Reads s.heap u p as ∧ (p.hasDict = true → sysModules ∉ as) := by
    unfold toPR at e
    split at e
    · rename_i p' e'
      cases e
      obtain ⟨as, rd⟩ := Dp.reads I p x u (Rep.dp hd e') ru
      exact ⟨as, rd, fun z => by rw [toPD_noDict _ _ e'] at z; cases z⟩
    · obtain ⟨as, rd, n⟩ := readsE I d p x u hd e ru
      exact ⟨as, rd, fun _ => n⟩
  have fin : ∀ h' tk t, (∀ b o, s.heap.get? b = some o → h'.get? b = some o) → EP X pins σ Q (.str p.shown t) { s with heap := h', toks := tk } := fun h' tk t k => ⟨.str p.shown, H, I.kept k, ⟨t, rfl⟩, q⟩
  cases u with
  | ref a => exact repr_of_reads' rd hs sm hgd (by omega) (fun _ _ e => e) (fun h' u tk k => fin h' tk u k) hz
  | none =>
    cases rd
    exact PySem.P.repr_of_none (fin _ _ _ fun _ _ e => e)
  | bool b =>
    cases rd
    exact PySem.P.repr_of_bool (fin _ _ _ fun _ _ e => e)
  | int i t =>
    cases rd
    exact PySem.P.repr_of_int (by simpa [PyData.showable] using hs) (fin _ _ _ fun _ _ e => e)
  | str z t =>
    cases rd
    exact PySem.P.repr_of_str (fin _ _ _ fun _ _ e => e) hz
  | _ => cases rd
theorem pr_repr2 : PrN g (rRepr2 g.K) reprP2 := by
  refine PrN.sc (fun ds Q Q' h q => ?_) fun {F H xs ds Q Qd} sb hx hp k => ?_
  · unfold reprP2 at q ⊢
    split at q
    · obtain ⟨p, e, h1, h2, h3, q⟩ := q; exact ⟨p, e, h1, h2, h3, h _ q⟩
    · exact q.elim
  · unfold reprP2 at hp
    split at hp
    · obtain ⟨p, e, h1, h2, h3, q⟩ := hp
      obtain ⟨y, rfl, hy⟩ := Paired.c1 hx
      exact ⟨y, _, p, rfl, Cont.rep sb hy, e, h1, h2, h3, k _ q⟩
    · exact hp.elim
end
/-! ### data that a def may look at -/
mutual
def okB : D → Bool
  | .sc .non => true
  | .sc (.bl _) => true
  | .sc (.int _) => true
  | .sc (.str z) => decide (z.length ≤ 100000)
  | .sc _ => false
  | .tup xs => decide (xs.length ≤ 100000) && okBs xs
  | .lst _ => true
  | .dic _ => true
  | .scr _ => false
def okBs : List D → Bool
  | [] => true
  | x :: xs => okB x && okBs xs
end
theorem okBs_all : ∀ {xs : List D}, okBs xs = true → ∀ x ∈ xs, okB x = true
  | x :: xs, h, y, hy => by
    simp only [okBs, Bool.and_eq_true] at h
    rcases List.mem_cons.mp hy with rfl | hy
    · exact h.1
    · exact okBs_all h.2 y hy
theorem okBs_of : ∀ {xs : List D}, (∀ x ∈ xs, okB x = true) → okBs xs = true
  | [], _ => rfl
  | x :: xs, h => by
    simp only [okBs, Bool.and_eq_true]
    exact ⟨h x (by simp), okBs_of fun y hy => h y (by simp [hy])⟩
theorem okB_ty {d : D} (h : okB d = true) : ∃ t, tyD d = some t := by
  cases d with
  | sc v => cases v <;> first | exact ⟨_, rfl⟩ | (simp [okB] at h)
  | tup xs => exact ⟨_, rfl⟩
  | lst xs => exact ⟨_, rfl⟩
  | dic xs => exact ⟨_, rfl⟩
  | scr xs => simp [okB] at h
end DL

/-! text DLGd -/
set_option Elab.async false
set_option linter.all false
set_option maxRecDepth 100000
set_option maxHeartbeats 2000000
namespace DL
open PySem PySem.Spec PyProof.Rows L2 LamX
/-! ### data of moderate size: what repr shows of it -/
mutual
/-- short leaves, dicts empty -/
def lfB : D → Bool
  | .sc .non => true
  | .sc (.bl _) => true
  | .sc (.int i) => decide (i.natAbs < 1000000000)
  | .sc (.str z) => decide (z.length ≤ 64) && z.cps.toList.all fun c => decide (c < 128)
  | .sc _ => false
  | .tup xs => lfBs xs
  | .lst xs => lfBs xs
  | .dic [] => true
  | .dic (_ :: _) => false
  | .scr _ => false
def lfBs : List D → Bool
  | [] => true
  | x :: xs => lfB x && lfBs xs
end
mutual
def noD : D → Bool
  | .sc _ => true
  | .tup xs => noDs xs
  | .lst xs => noDs xs
  | .dic _ => false
  | .scr _ => false
def noDs : List D → Bool
  | [] => true
  | x :: xs => noD x && noDs xs
end
mutual
def noL : D → Bool
  | .sc _ => true
  | .tup xs => noLs xs
  | .lst _ => false
  | .dic _ => true
  | .scr _ => false
def noLs : List D → Bool
  | [] => true
  | x :: xs => noL x && noLs xs
end
mutual
/-- how many parts -/
def szD : D → Nat
  | .sc _ => 1
  | .tup xs => szDs xs + 1
  | .lst xs => szDs xs + 1
  | .dic _ => 1
  | .scr _ => 1
def szDs : List D → Nat
  | [] => 0
  | x :: xs => szD x + szDs xs
end
mutual
def dpD : D → Nat
  | .sc _ => 0
  | .tup xs => dpDs xs + 1
  | .lst xs => dpDs xs + 1
  | .dic _ => 1
  | .scr _ => 0
def dpDs : List D → Nat
  | [] => 0
  | x :: xs => max (dpD x) (dpDs xs)
end
structure Shn (p : PyData) (n d : Nat) : Prop where
  sh : PyData.showable p = true
  lv : PyData.leavesShort 13 p = true
  wt : PyData.weight p + 1 ≤ 100 * n
  dp : p.depth ≤ d
structure Shns (p : List PyData) (n d : Nat) : Prop where
  sh : PyData.showableAll p = true
  lv : PyData.leavesShortAll 13 p = true
  wt : PyData.weightAll p ≤ 100 * n
  dp : PyData.depthAll p ≤ d
theorem int_short {i : Int} (h : i.natAbs < 1000000000) : (PyData.shown (.int i)).length ≤ 13 ∧ PyData.showable (.int i) = true ∧ PyData.weight (.int i) ≤ 32 := by
  have l : i.natAbs.log2 < 31 := by
    by_cases z : i.natAbs = 0
    · rw [z]; decide
    · exact (Nat.log2_lt z).mpr (Nat.lt_trans h (by decide))
  refine ⟨PyData.shown_int_le (Nat.lt_trans h (by decide)), ?_, ?_⟩
  · simp only [PyData.showable, decide_eq_true_eq]
    omega
  · simp only [PyData.weight]
    split <;> omega
theorem str_short {z : Str} (h : (decide (z.length ≤ 64) && z.cps.toList.all fun c => decide (c < 128)) = true) : PyData.leavesShort 13 (.str z) = true ∧ PyData.weight (.str z) ≤ 64 := by
  simp only [Bool.and_eq_true, decide_eq_true_eq, List.all_eq_true] at h
  refine ⟨?_, ?_⟩
  · simp only [PyData.leavesShort, List.all_eq_true, decide_eq_true_eq]
    exact fun c hc => Nat.lt_trans (h.2 c hc) (by decide)
  · simp only [PyData.weight]
    exact h.1
mutual
theorem shnD : ∀ (d : D) (p : PyData), lfB d = true → toPD d = some p → Shn p (szD d) (dpD d)
  | .sc v, p, h, e => by
    cases v <;> simp only [toPD] at e <;> first
      | (cases e; done)
      | (cases e
         simp only [lfB, szD, dpD] at h ⊢
         first
          | (simp only [decide_eq_true_eq] at h
             obtain ⟨h1, h2, h3⟩ := int_short h
             exact ⟨h2, by simp only [PyData.leavesShort, decide_eq_true_eq]; exact h1, by omega, by simp [PyData.depth]⟩)
          | (obtain ⟨h1, h2⟩ := str_short h
             exact ⟨rfl, h1, by omega, by simp [PyData.depth]⟩)
          | exact ⟨rfl, rfl, by simp [PyData.weight], by simp [PyData.depth]⟩)
  | .tup xs, p, h, e => by
    simp only [toPD, Option.map_eq_some_iff] at e
    obtain ⟨ps, e, rfl⟩ := e
    simp only [lfB] at h
    obtain ⟨h1, h2, h3, h4⟩ := shnDs xs ps h e
    exact ⟨h1, h2, by simp only [PyData.weight, szD]; omega, by simp only [PyData.depth, dpD]; omega⟩
  | .lst xs, p, h, e => by
    simp only [toPD, Option.map_eq_some_iff] at e
    obtain ⟨ps, e, rfl⟩ := e
    simp only [lfB] at h
    obtain ⟨h1, h2, h3, h4⟩ := shnDs xs ps h e
    exact ⟨h1, h2, by simp only [PyData.weight, szD]; omega, by simp only [PyData.depth, dpD]; omega⟩
  | .dic xs, p, h, e => by simp [toPD] at e
  | .scr _, p, h, e => by simp [toPD] at e
theorem shnDs : ∀ (ds : List D) (ps : List PyData), lfBs ds = true → toPDs ds = some ps → Shns ps (szDs ds) (dpDs ds)
  | [], ps, h, e => by
    simp only [toPDs] at e
    cases e
    exact ⟨rfl, rfl, by simp [PyData.weightAll], by simp [PyData.depthAll]⟩
  | d :: ds, ps, h, e => by
    simp only [toPDs] at e
    simp only [lfBs, Bool.and_eq_true] at h
    split at e
    · rename_i p1 ps1 e1 e2
      cases e
      obtain ⟨a1, a2, a3, a4⟩ := shnD d p1 h.1 e1
      obtain ⟨b1, b2, b3, b4⟩ := shnDs ds ps1 h.2 e2
      refine ⟨by simp [PyData.showableAll, a1, b1], by simp [PyData.leavesShortAll, a2, b2], ?_, ?_⟩
      · simp only [PyData.weightAll, szDs]
        omega
      · simp only [PyData.depthAll, dpDs]
        omega
    · cases e
end
mutual
theorem shnE : ∀ (d : D) (p : PyData), lfB d = true → toPE d = some p → Shn p (szD d) (dpD d)
  | .sc v, p, h, e => by
    cases v <;> simp only [toPE] at e <;> first
      | (cases e; done)
      | (cases e
         simp only [lfB, szD, dpD] at h ⊢
         first
          | (simp only [decide_eq_true_eq] at h
             obtain ⟨h1, h2, h3⟩ := int_short h
             exact ⟨h2, by simp only [PyData.leavesShort, decide_eq_true_eq]; exact h1, by omega, by simp [PyData.depth]⟩)
          | (obtain ⟨h1, h2⟩ := str_short h
             exact ⟨rfl, h1, by omega, by simp [PyData.depth]⟩)
          | exact ⟨rfl, rfl, by simp [PyData.weight], by simp [PyData.depth]⟩)
  | .tup xs, p, h, e => by
    simp only [toPE, Option.map_eq_some_iff] at e
    obtain ⟨ps, e, rfl⟩ := e
    simp only [lfB] at h
    obtain ⟨h1, h2, h3, h4⟩ := shnEs xs ps h e
    exact ⟨h1, h2, by simp only [PyData.weight, szD]; omega, by simp only [PyData.depth, dpD]; omega⟩
  | .lst xs, p, h, e => by simp [toPE] at e
  | .dic [], p, h, e => by
    simp only [toPE] at e
    cases e
    exact ⟨rfl, rfl, by simp [PyData.weight, PyData.weightKv, szD], by simp [PyData.depth, PyData.depthKv, dpD]⟩
  | .dic (_ :: _), p, h, e => by simp [toPE] at e
  | .scr _, p, h, e => by simp [toPE] at e
theorem shnEs : ∀ (ds : List D) (ps : List PyData), lfBs ds = true → toPEs ds = some ps → Shns ps (szDs ds) (dpDs ds)
  | [], ps, h, e => by
    simp only [toPEs] at e
    cases e
    exact ⟨rfl, rfl, by simp [PyData.weightAll], by simp [PyData.depthAll]⟩
  | d :: ds, ps, h, e => by
    simp only [toPEs] at e
    simp only [lfBs, Bool.and_eq_true] at h
    split at e
    · rename_i p1 ps1 e1 e2
      cases e
      obtain ⟨a1, a2, a3, a4⟩ := shnE d p1 h.1 e1
      obtain ⟨b1, b2, b3, b4⟩ := shnEs ds ps1 h.2 e2
      refine ⟨by simp [PyData.showableAll, a1, b1], by simp [PyData.leavesShortAll, a2, b2], ?_, ?_⟩
      · simp only [PyData.weightAll, szDs]
        omega
      · simp only [PyData.depthAll, dpDs]
        omega
    · cases e
end
mutual
theorem pdOf : ∀ d : D, lfB d = true → noD d = true → ∃ p, toPD d = some p
  | .sc v, h, _ => by
    cases v <;> first
      | exact ⟨_, rfl⟩
      | (simp [lfB] at h)
  | .tup xs, h, n => by
    simp only [lfB] at h
    simp only [noD] at n
    obtain ⟨ps, e⟩ := pdsOf xs h n
    exact ⟨.tuple ps, by simp only [toPD, e, Option.map_some]⟩
  | .lst xs, h, n => by
    simp only [lfB] at h
    simp only [noD] at n
    obtain ⟨ps, e⟩ := pdsOf xs h n
    exact ⟨.list ps, by simp only [toPD, e, Option.map_some]⟩
  | .dic _, _, n => by simp [noD] at n
  | .scr _, _, n => by simp [noD] at n
theorem pdsOf : ∀ ds : List D, lfBs ds = true → noDs ds = true → ∃ p, toPDs ds = some p
  | [], _, _ => ⟨[], by simp only [toPDs]⟩
  | d :: ds, h, n => by
    simp only [lfBs, Bool.and_eq_true] at h
    simp only [noDs, Bool.and_eq_true] at n
    obtain ⟨p, e⟩ := pdOf d h.1 n.1
    obtain ⟨ps, e2⟩ := pdsOf ds h.2 n.2
    exact ⟨p :: ps, by simp only [toPDs, e, e2]⟩
end
mutual
theorem peOf : ∀ d : D, lfB d = true → noL d = true → ∃ p, toPE d = some p
  | .sc v, h, _ => by
    cases v <;> first
      | exact ⟨_, rfl⟩
      | (simp [lfB] at h)
  | .tup xs, h, n => by
    simp only [lfB] at h
    simp only [noL] at n
    obtain ⟨ps, e⟩ := pesOf xs h n
    exact ⟨.tuple ps, by simp only [toPE, e, Option.map_some]⟩
  | .lst xs, h, n => by simp [noL] at n
  | .dic [], h, n => ⟨.dict [], by simp only [toPE]⟩
  | .dic (_ :: _), h, n => by simp [lfB] at h
  | .scr _, _, n => by simp [noL] at n
theorem pesOf : ∀ ds : List D, lfBs ds = true → noLs ds = true → ∃ p, toPEs ds = some p
  | [], _, _ => ⟨[], by simp only [toPEs]⟩
  | d :: ds, h, n => by
    simp only [lfBs, Bool.and_eq_true] at h
    simp only [noLs, Bool.and_eq_true] at n
    obtain ⟨p, e⟩ := peOf d h.1 n.1
    obtain ⟨ps, e2⟩ := pesOf ds h.2 n.2
    exact ⟨p :: ps, by simp only [toPEs, e, e2]⟩
end
mutual
theorem okOf : ∀ d : D, lfB d = true → szD d ≤ 5000 → okB d = true
  | .sc v, h, _ => by
    cases v <;> first
      | rfl
      | (simp [lfB] at h; done)
      | (simp only [lfB, Bool.and_eq_true, decide_eq_true_eq] at h; simp only [okB, decide_eq_true_eq]; omega)
  | .tup xs, h, n => by
    simp only [lfB] at h
    simp only [szD] at n
    have l := szs_len xs
    simp only [okB, Bool.and_eq_true, decide_eq_true_eq]
    exact ⟨by omega, oksOf xs h (by omega)⟩
  | .lst xs, _, _ => rfl
  | .dic _, _, _ => rfl
  | .scr _, h, _ => by simp [lfB] at h
theorem oksOf : ∀ ds : List D, lfBs ds = true → szDs ds ≤ 5000 → okBs ds = true
  | [], _, _ => rfl
  | d :: ds, h, n => by
    simp only [lfBs, Bool.and_eq_true] at h
    simp only [szDs] at n
    simp only [okBs, Bool.and_eq_true]
    exact ⟨okOf d h.1 (by omega), oksOf ds h.2 (by omega)⟩
theorem szs_len : ∀ ds : List D, ds.length ≤ szDs ds
  | [] => Nat.le_refl _
  | d :: ds => by
    have h := szs_len ds
    simp only [szDs, List.length_cons]
    have : 1 ≤ szD d := sz_pos d
    omega
theorem sz_pos : ∀ d : D, 1 ≤ szD d
  | .sc _ => Nat.le_refl _
  | .tup xs => by simp only [szD]; omega
  | .lst xs => by simp only [szD]; omega
  | .dic _ => Nat.le_refl _
  | .scr _ => Nat.le_refl _
end
/-- what can be shown: lists or empty dicts within, not both -/
def goodB (d : D) : Bool := lfB d && (noD d || noL d) && decide (szD d ≤ 5000) && decide (dpD d ≤ 20)
theorem good_shows {d : D} (h : goodB d = true) : ∃ p, toPR d = some p ∧ PyData.showable p = true ∧ p.depth ≤ 64 ∧ p.shown.length ≤ sizeLine := by
  simp only [goodB, Bool.and_eq_true, Bool.or_eq_true, decide_eq_true_eq] at h
  obtain ⟨⟨⟨h1, h2⟩, h3⟩, h4⟩ := h
  have fin : ∀ {p}, Shn p (szD d) (dpD d) → PyData.showable p = true ∧ p.depth ≤ 64 ∧ p.shown.length ≤ sizeLine := fun {p} s => by
    refine ⟨s.sh, by have := s.dp; omega, PyData.shown_fits (B := 13) (by decide) (by decide) s.lv ?_⟩
    have := s.wt
    exact Nat.le_trans (m := 500000) (by omega) (by decide)
  cases e : toPD d with
  | some p => exact ⟨p, by simp only [toPR, e], fin (shnD d p h1 e)⟩
  | none =>
    have n : noL d = true := by
      rcases h2 with h2 | h2
      · obtain ⟨p, e'⟩ := pdOf d h1 h2
        rw [e] at e'
        cases e'
      · exact h2
    obtain ⟨p, e2⟩ := peOf d h1 n
    exact ⟨p, by simp only [toPR, e, e2], fin (shnE d p h1 e2)⟩
theorem good_ok {d : D} (h : goodB d = true) : okB d = true := by
  simp only [goodB, Bool.and_eq_true, Bool.or_eq_true, decide_eq_true_eq] at h
  exact okOf d h.1.1.1 h.1.2
end DL

/-! text DLLs -/
set_option Elab.async false
set_option linter.all false
set_option maxRecDepth 100000
set_option maxHeartbeats 2000000
namespace DL
open PySem PySem.Spec PyProof.Rows L2 LamX
/-! ### list(x) of a list, a tuple, a text -/
theorem vals_signs : ∀ (cs : List Nat) (l : List Value), l.length = cs.length → (∀ (j : Nat) (v : Value), l[j]? = some v → ∃ (c : Nat) (u : Tok), cs[j]? = some c ∧ v = Value.str ⟨#[c]⟩ u) → Vals (cs.map fun c => V.str (sign c)) l
  | [], [], _, _ => .nil
  | [], _ :: _, h, _ => by cases h
  | _ :: _, [], h, _ => by cases h
  | c :: cs, v :: l, h, k => by
    obtain ⟨c', u, e, ev⟩ := k 0 v rfl
    simp only [List.getElem?_cons_zero, Option.some.injEq] at e
    subst e
    exact .cons ⟨u, ev⟩ (vals_signs cs l (by simpa using h) fun j w e => k (j + 1) w (by simpa using e))
def rListS (K : PySem.W.Frag) : List V → Hp → VK → Prop := fun xs H Q => ∃ z, xs = [.str z] ∧ z.length ≤ sizeLine ∧ ∀ l, H l = none → Q (.ref l) (upd H l (.lst (z.cps.toList.map fun c => V.str (sign c))))
section
variable {X : Cx} {g : Gd}
theorem call_listS (hc : X.calm = true) : CallR X (.type "list") (rListS X.K) := by
  intro pins s σ H xs us Q I r h
  obtain ⟨z, rfl, hz, q⟩ := h
  obtain ⟨u, rfl, t, rfl⟩ := vals1 r
  refine call_list_str (I.ok.hd hc) z t (fun h' tk acc c kp e it => ?_) hz
  have r' : Vals (z.cps.toList.map fun c => V.str (sign c)) acc.toList := vals_signs _ _ (by
    rw [Array.length_toList, Array.length_toList]
    exact it.1) fun j v hv => by
    obtain ⟨c, u, h1, h2⟩ := it.2 j v (by simpa using hv)
    exact ⟨c, u, by simpa using h1, h2⟩
  have e' : h'.get? s.heap.objs.size = some { cls := .type "list", dict := none, data := .seq acc.toList.toArray c, slots := #[] } := by simpa using e
  exact ⟨.ref s.heap.objs.size, _, I.laid (t' := tk) kp (Nat.le_refl _) (show ObjOk X.prog X.w _ h' _ (.lst (z.cps.toList.map fun c => V.str (sign c))) from ⟨by rw [List.length_map, Array.length_toList]; exact hz, acc.toList, c, r', e'⟩), rfl, q _ (I.hok.fresh (Nat.le_refl _))⟩
def list2P : PN := fun ds Q => match ds with
  | [.lst xs] => Q (.ow (.lst xs))
  | [.tup xs] => Q (.ow (.lst xs))
  | [.sc (.str z)] => z.length ≤ sizeLine ∧ Q (.ow (.lst (z.cps.toList.map fun c => .sc (.str (sign c)))))
  | _ => False
def rList2 (K : PySem.W.Frag) : List V → Hp → VK → Prop := fun xs H Q => (∃ p ys, xs = [.ref p] ∧ (SqL K H p ys ∨ SqT K H p ys) ∧ ∀ l, H l = none → Q (.ref l) (upd H l (.lst ys))) ∨ rListS K xs H Q
theorem call_list2 (hc : X.calm = true) : CallR X (.type "list") (rList2 X.K) := call_list_of.or (call_listS hc)
theorem reps_signs {K : PySem.W.Frag} {F : Hp} : ∀ cs : List Nat, Reps K F (cs.map fun c => V.str (sign c)) (cs.map fun c => .sc (.str (sign c)))
  | [] => .nil
  | c :: cs => .cons (.sc _) (reps_signs cs)
theorem pr_list2 : PrN g (rList2 g.K) list2P := by
  refine ⟨fun ds Q Q' h q => ?_, fun {F H O σ δ xs ds Q Qd} r0 hx hp k => ?_⟩
  · unfold list2P at q ⊢
    split at q
    · exact h _ q
    · exact h _ q
    · exact ⟨q.1, h _ q.2⟩
    · exact q.elim
  · unfold list2P at hp
    split at hp
    · obtain ⟨x, rfl, a, vs, rfl, h1, h2⟩ := Paired.c1 hx
      refine .inl ⟨a, vs, rfl, .inl (.of h1), fun p np => ?_⟩
      obtain ⟨s, r1, x1⟩ := r0.newL np h2
      exact k _ _ F _ s r1 x1 hp
    · obtain ⟨x, rfl, a, vs, rfl, h1, h2⟩ := Paired.c1 hx
      refine .inl ⟨a, vs, rfl, .inr (r0.sub.sqT h1), fun p np => ?_⟩
      obtain ⟨s, r1, x1⟩ := r0.newL np h2
      exact k _ _ F _ s r1 x1 hp
    · rename_i z
      obtain ⟨x, rfl, hy⟩ := Paired.c1 hx
      obtain rfl : x = V.str z := hy
      refine .inr ⟨z, rfl, hp.1, fun p np => ?_⟩
      obtain ⟨s, r1, x1⟩ := r0.newL np (reps_signs z.cps.toList)
      exact k _ _ F _ s r1 x1 hp.2
    · exact hp.elim
end
end DL

/-! text DLPt -/
set_option Elab.async false
set_option linter.all false
set_option maxRecDepth 100000
set_option maxHeartbeats 2000000
namespace DL
open PySem PySem.Spec PyProof.Rows L2 LamX
/-! ### tuples of short ints and texts, and what is made of one by bending a part -/
mutual
def ptB : D → Bool
  | .sc (.int i) => decide (0 ≤ i) && decide (i < 1000000)
  | .sc (.str z) => decide (z.length ≤ 32) && z.cps.toList.all fun c => decide (c < 128)
  | .tup xs => ptBs xs
  | _ => false
def ptBs : List D → Bool
  | [] => true
  | x :: xs => ptB x && ptBs xs
end
theorem ptBs_all : ∀ xs : List D, ptBs xs = xs.all ptB
  | [] => rfl
  | x :: xs => by simp only [ptBs, List.all_cons, ptBs_all xs]
theorem lfBs_all : ∀ xs : List D, lfBs xs = xs.all lfB
  | [] => rfl
  | x :: xs => by simp only [lfBs, List.all_cons, lfBs_all xs]
theorem noDs_all : ∀ xs : List D, noDs xs = xs.all noD
  | [] => rfl
  | x :: xs => by simp only [noDs, List.all_cons, noDs_all xs]
theorem noLs_all : ∀ xs : List D, noLs xs = xs.all noL
  | [] => rfl
  | x :: xs => by simp only [noLs, List.all_cons, noLs_all xs]
theorem szDs_app : ∀ xs ys : List D, szDs (xs ++ ys) = szDs xs + szDs ys
  | [], ys => by simp only [List.nil_append, szDs, Nat.zero_add]
  | x :: xs, ys => by simp only [List.cons_append, szDs, szDs_app xs ys]; omega
theorem dpDs_app : ∀ xs ys : List D, dpDs (xs ++ ys) = max (dpDs xs) (dpDs ys)
  | [], ys => by simp only [List.nil_append, dpDs, Nat.zero_max]
  | x :: xs, ys => by simp only [List.cons_append, dpDs, dpDs_app xs ys]; omega
theorem dpDs_mem {x : D} : ∀ {xs : List D}, x ∈ xs → dpD x ≤ dpDs xs
  | [], h => by cases h
  | y :: ys, h => by
    simp only [dpDs]
    rcases List.mem_cons.mp h with rfl | h
    · omega
    · have := dpDs_mem h
      omega
theorem dpDs_le {n : Nat} : ∀ {xs : List D}, (∀ x ∈ xs, dpD x ≤ n) → dpDs xs ≤ n
  | [], h => Nat.zero_le _
  | y :: ys, h => by
    simp only [dpDs]
    have := h y (by simp)
    have := dpDs_le fun x hx => h x (List.mem_cons_of_mem _ hx)
    omega
theorem szDs_rev (xs : List D) : szDs xs.reverse = szDs xs := by
  induction xs with
  | nil => rfl
  | cons x xs ih => rw [List.reverse_cons, szDs_app, ih]; simp only [szDs]; omega
mutual
theorem pt_plain : ∀ d : D, ptB d = true → lfB d = true ∧ noD d = true ∧ noL d = true
  | .sc v, h => by
    cases v <;> first
      | (simp [ptB] at h; done)
      | (simp only [ptB, Bool.and_eq_true, decide_eq_true_eq] at h; exact ⟨by simp only [lfB, decide_eq_true_eq]; omega, rfl, rfl⟩)
      | (simp only [ptB, Bool.and_eq_true, decide_eq_true_eq] at h; exact ⟨by simp only [lfB, Bool.and_eq_true, decide_eq_true_eq]; exact ⟨by omega, h.2⟩, rfl, rfl⟩)
  | .tup xs, h => by
    simp only [ptB] at h
    simp only [lfB, noD, noL]
    exact pts_plain xs h
  | .lst _, h => by simp [ptB] at h
  | .dic _, h => by simp [ptB] at h
  | .scr _, h => by simp [ptB] at h
theorem pts_plain : ∀ ds : List D, ptBs ds = true → lfBs ds = true ∧ noDs ds = true ∧ noLs ds = true
  | [], _ => ⟨rfl, rfl, rfl⟩
  | d :: ds, h => by
    simp only [ptBs, Bool.and_eq_true] at h
    obtain ⟨a1, a2, a3⟩ := pt_plain d h.1
    obtain ⟨b1, b2, b3⟩ := pts_plain ds h.2
    exact ⟨by simp only [lfBs, a1, b1]; rfl, by simp only [noDs, a2, b2]; rfl, by simp only [noLs, a3, b3]; rfl⟩
end
/-- what a bent value is, by the value -/
structure Bent (e d : D) : Prop where
  lf : lfB e = true
  no : noD e = true ∨ noL e = true
  sz : szD e ≤ 2 * szD d + 100
  dp : dpD e ≤ dpD d + 2
theorem bent_small {e d : D} (h1 : lfB e = true) (h2 : (noD e || noL e) = true) (h3 : szD e ≤ 102) (h4 : dpD e ≤ 2) : Bent e d :=
  ⟨h1, by simpa using h2, by have := sz_pos d; omega, by omega⟩
/-- parts of a tuple, in another order, each at most twice -/
theorem bent_parts {xs ys : List D} (h : ptBs xs = true) (hm : ∀ y ∈ ys, y ∈ xs) (hs : szDs ys ≤ 2 * szDs xs) : Bent (.tup ys) (.tup xs) ∧ Bent (.lst ys) (.tup xs) := by
  have hp : ∀ y ∈ ys, ptB y = true := fun y hy => List.all_eq_true.mp (by rw [ptBs_all] at h; exact h) y (hm y hy)
  have hl : lfBs ys = true := by rw [lfBs_all]; exact List.all_eq_true.mpr fun y hy => (pt_plain y (hp y hy)).1
  have hd : noDs ys = true := by rw [noDs_all]; exact List.all_eq_true.mpr fun y hy => (pt_plain y (hp y hy)).2.1
  have hdp : dpDs ys ≤ dpDs xs := dpDs_le fun y hy => dpDs_mem (hm y hy)
  refine ⟨⟨by simp only [lfB]; exact hl, .inl (by simp only [noD]; exact hd), by simp only [szD]; omega, by simp only [dpD]; omega⟩, ⟨by simp only [lfB]; exact hl, .inl (by simp only [noD]; exact hd), by simp only [szD]; omega, by simp only [dpD]; omega⟩⟩
/-- a part of a tuple bent -/
theorem bent_mid {l r : List D} {x e : D} (h : ptBs (l ++ x :: r) = true) (he : Bent e x) : Bent (.tup (l ++ e :: r)) (.tup (l ++ x :: r)) := by
  rw [ptBs_all, List.all_append, List.all_cons, Bool.and_eq_true, Bool.and_eq_true] at h
  obtain ⟨hl, hx, hr⟩ := h
  obtain ⟨l1, l2, l3⟩ := pts_plain l (by rw [ptBs_all]; exact hl)
  obtain ⟨r1, r2, r3⟩ := pts_plain r (by rw [ptBs_all]; exact hr)
  rw [lfBs_all] at l1 r1
  rw [noDs_all] at l2 r2
  rw [noLs_all] at l3 r3
  refine ⟨?_, ?_, ?_, ?_⟩
  · simp only [lfB, lfBs_all, List.all_append, List.all_cons, l1, r1, he.lf]; rfl
  · rcases he.no with z | z
    · left; simp only [noD, noDs_all, List.all_append, List.all_cons, l2, r2, z]; rfl
    · right; simp only [noL, noLs_all, List.all_append, List.all_cons, l3, r3, z]; rfl
  · have := he.sz
    simp only [szD, szDs_app, szDs]
    omega
  · have := he.dp
    simp only [dpD, dpDs_app, dpDs]
    omega
theorem upper_short (z : Str) (h : (z.cps.toList.all fun c => decide (c < 128)) = true) : (Txt.upper z).length = z.length ∧ ((Txt.upper z).cps.toList.all fun c => decide (c < 128)) = true := by
  obtain ⟨a⟩ := z
  obtain ⟨l⟩ := a
  induction l with
  | nil => exact ⟨rfl, rfl⟩
  | cons c l ih =>
    have h : decide (c < 128) = true ∧ (l.all fun c => decide (c < 128)) = true := by simpa using h
    have hc : c < 128 := of_decide_eq_true h.1
    obtain ⟨i1, i2⟩ := ih h.2
    have e : (⟨(c :: l).toArray⟩ : Str) = ⟨#[c]⟩ ++ ⟨l.toArray⟩ := by
      apply PySem.Str.ext'
      rw [PySem.Str.cps_append]
      simp
    rw [e, PySem.W.KOpn.upper_app, PySem.W.KOpn.upper_one hc]
    refine ⟨?_, ?_⟩
    · show (_ : Array Nat).size = (_ : Array Nat).size
      rw [PySem.Str.cps_append, PySem.Str.cps_append, Array.size_append, Array.size_append]
      have : (Txt.upper ⟨l.toArray⟩).cps.size = l.toArray.size := i1
      rw [this]
      rfl
    · rw [PySem.Str.cps_append, Array.toList_append, List.all_append, i2, Bool.and_true]
      show (decide ((if 97 ≤ c ∧ c ≤ 122 then c - 32 else c) < 128) && true) = true
      rw [Bool.and_true, decide_eq_true_eq]
      split <;> omega
/-- a text of at most so many signs, all of them plain -/
def txB (n : Nat) (z : Str) : Prop := z.length ≤ n ∧ ∀ c ∈ z.cps.toList, c < 128
theorem tx_lf {z : Str} (h : txB 64 z) (d : D) : Bent (.sc (.str z)) d :=
  bent_small (by simp only [lfB, Bool.and_eq_true, decide_eq_true_eq, List.all_eq_true]; exact h) rfl (by simp only [szD]; decide) (by simp only [dpD]; decide)
theorem tx_of {z : Str} (h : ptB (.sc (.str z)) = true) : txB 32 z := by
  simp only [ptB, Bool.and_eq_true, decide_eq_true_eq, List.all_eq_true] at h
  exact h
theorem tx_app {n m : Nat} {y z : Str} (hy : txB n y) (hz : txB m z) : txB (n + m) (y ++ z) := by
  refine ⟨?_, ?_⟩
  · show (_ : Array Nat).size ≤ _
    rw [PySem.Str.cps_append, Array.size_append]
    have a : y.cps.size ≤ n := hy.1
    have b : z.cps.size ≤ m := hz.1
    omega
  · rw [PySem.Str.cps_append, Array.toList_append]
    intro c hc
    rcases List.mem_append.mp hc with h | h
    · exact hy.2 c h
    · exact hz.2 c h
theorem tx_le {n m : Nat} {z : Str} (h : txB n z) (k : n ≤ m) : txB m z := ⟨Nat.le_trans h.1 k, h.2⟩
theorem tx_sub {n : Nat} {z : Str} {l : List Nat} (h : txB n z) (hs : l.Sublist z.cps.toList) : txB n ⟨l.toArray⟩ := by
  refine ⟨?_, fun c hc => h.2 c (hs.subset (by simpa using hc))⟩
  show l.toArray.size ≤ n
  have a : z.cps.toList.length ≤ n := by rw [Array.length_toList]; exact h.1
  rw [List.size_toArray]
  exact Nat.le_trans hs.length_le a
theorem cutL_sublist {α : Type} (xs : List α) (lo hi : Option Int) : (cutL xs lo hi).Sublist xs := (List.take_sublist _ _).trans (List.drop_sublist _ _)
theorem tx_cut {n : Nat} {z : Str} (h : txB n z) (lo hi : Option Int) : txB n (cutS z lo hi) := by
  have e : (cutS z lo hi).cps.toList = cutL z.cps.toList lo hi := by
    unfold cutS cutL
    simp only [Array.toList_extract, List.extract_eq_take_drop, Array.length_toList]
    rfl
  have e2 : cutS z lo hi = ⟨(cutL z.cps.toList lo hi).toArray⟩ := by
    apply PySem.Str.ext'
    rw [← e]
  rw [e2]
  exact tx_sub h (cutL_sublist _ _ _)
theorem tx_rev {n : Nat} {z : Str} (h : txB n z) : txB n (revS z) := by
  unfold revS
  refine ⟨?_, fun c hc => h.2 c (by simpa using hc)⟩
  show (z.cps.toList.reverse.toArray).size ≤ n
  have a : z.cps.toList.length ≤ n := by rw [Array.length_toList]; exact h.1
  rw [List.size_toArray, List.length_reverse]
  exact a
theorem tx_upper {n : Nat} {z : Str} (h : txB n z) : txB n (Txt.upper z) := by
  have := upper_short z (List.all_eq_true.mpr fun c hc => decide_eq_true (h.2 c hc))
  exact ⟨by rw [this.1]; exact h.1, fun c hc => of_decide_eq_true (List.all_eq_true.mp this.2 c hc)⟩
theorem tx_sign {c : Nat} (h : c < 128) : txB 1 (sign c) := by
  refine ⟨Nat.le_refl _, fun x hx => ?_⟩
  have : x = c := by simpa [sign] using hx
  omega
theorem tx_num {m : Nat} (h : m < 10000000) : txB 64 (Str.ofString (toString (m : Int))) := by
  refine ⟨?_, fun c hc => ?_⟩
  · have := PyData.shown_int_le (i := (m : Int)) (by rw [Int.natAbs_natCast]; exact Nat.lt_trans h (by decide))
    exact Nat.le_trans this (by decide)
  · rw [PySem.W.KIN.signs_num] at hc
    obtain ⟨d, hd, rfl⟩ := List.mem_map.mp hc
    have e := Nat.isDigit_of_mem_toDigits (by decide) (by decide) hd
    simp only [Char.isDigit, Bool.and_eq_true, decide_eq_true_eq] at e
    have : d.val.toNat ≤ '9'.val.toNat := UInt32.le_iff_toNat_le.mp e.2
    have e9 : '9'.val.toNat = 57 := rfl
    show d.val.toNat < 128
    omega
/-- all the signs of a text, as a list of texts -/
theorem tx_list {z : Str} (h : txB 32 z) (d : D) : Bent (.lst (z.cps.toList.map fun c => .sc (.str (sign c)))) d := by
  have hl : z.cps.toList.length ≤ 32 := by rw [Array.length_toList]; exact h.1
  have hz : ∀ l : List Nat, szDs (l.map fun c => D.sc (.str (sign c))) = l.length := fun l => by
    induction l with
    | nil => rfl
    | cons c l ih => simp only [List.map_cons, szDs, szD, ih, List.length_cons]; omega
  refine bent_small ?_ ?_ ?_ ?_
  · simp only [lfB, lfBs_all, List.all_map, List.all_eq_true, Function.comp]
    intro c hc
    have := tx_sign (h.2 c hc)
    simp only [Bool.and_eq_true, decide_eq_true_eq, List.all_eq_true]
    exact ⟨Nat.le_trans this.1 (by decide), this.2⟩
  · simp only [noD, noDs_all, List.all_map, Function.comp, Bool.or_eq_true, List.all_eq_true]
    exact .inl fun c hc => trivial
  · simp only [szD, hz]; omega
  · simp only [dpD]
    have : dpDs (z.cps.toList.map fun c => D.sc (.str (sign c))) ≤ 0 := dpDs_le fun x hx => by
      obtain ⟨c, _, rfl⟩ := List.mem_map.mp hx
      simp only [dpD]
      decide
    omega
theorem cut_to {α : Type} (xs : List α) (k : Nat) : cutL xs none (some (k : Int)) = xs.take k := by
  unfold cutL
  rw [HT.sIx_none, HT.sIx_nat, Nat.sub_zero, List.drop_zero]
  by_cases h : k ≤ xs.length
  · rw [Nat.min_eq_left h]
  · rw [Nat.min_eq_right (by omega), List.take_length, List.take_of_length_le (by omega)]
theorem cut_from {α : Type} (xs : List α) (k : Nat) : cutL xs (some (k : Int)) none = xs.drop k := by
  unfold cutL
  rw [HT.sIx_none, HT.sIx_nat]
  by_cases h : k ≤ xs.length
  · rw [Nat.min_eq_left h]
    exact List.take_of_length_le (by rw [List.length_drop]; omega)
  · rw [Nat.min_eq_right (by omega), Nat.sub_self, List.take_zero, List.drop_of_length_le (by omega)]
theorem cut_mid {α : Type} (l : List α) (x : α) (r : List α) : cutL (l ++ x :: r) (some (l.length : Int)) (some ((l.length : Int) + 1)) = [x] := by
  unfold cutL
  rw [show ((l.length : Int) + 1) = ((l.length + 1 : Nat) : Int) by omega, HT.sIx_nat, HT.sIx_nat, Nat.min_eq_left (by simp), Nat.min_eq_left (by simp), Nat.add_sub_cancel_left, List.drop_left]
  rfl
theorem cut_l {α : Type} (l : List α) (x : α) (r : List α) : cutL (l ++ x :: r) none (some (l.length : Int)) = l := by
  rw [cut_to, List.take_left]
theorem cut_r {α : Type} (l : List α) (x : α) (r : List α) : cutL (l ++ x :: r) (some ((l.length : Int) + 1)) none = r := by
  rw [show ((l.length : Int) + 1) = ((l.length + 1 : Nat) : Int) by omega, cut_from]
  simp
theorem cut_xr {α : Type} (l : List α) (x : α) (r : List α) : cutL (l ++ x :: r) (some (l.length : Int)) none = x :: r := by
  rw [cut_from, List.drop_left]
theorem split_at {α : Type} {xs : List α} {k : Nat} (h : k < xs.length) : ∃ l x r, xs = l ++ x :: r ∧ l.length = k :=
  ⟨xs.take k, xs[k], xs.drop (k + 1), by rw [List.getElem_cons_drop, List.take_append_drop], by rw [List.length_take]; omega⟩
end DL

/-! text DLBo -/
set_option Elab.async false
set_option linter.all false
set_option maxRecDepth 100000
set_option maxHeartbeats 2000000
namespace DL
open PySem PySem.Spec PyProof.Rows L2 LamX
/-! ### calls that only look at what one owns, and give back a plain value -/
/-- all that lives, tables apart -/
def nT (H : Hp) : Hp := fun a => match H a with
  | some (.tbl _) => none
  | o => o
theorem nT_at {H : Hp} {a : Addr} {o : HO} (h : H a = some o) (t : ∀ ps, o ≠ .tbl ps) : nT H a = some o := by
  unfold nT
  rw [h]
  cases o <;> first | rfl | exact absurd rfl (t _)
theorem nT_sub (H : Hp) : Sub (nT H) H := fun a o h => by
  unfold nT at h
  split at h
  · cases h
  · exact h
theorem nT_ntb (H : Hp) (a : Addr) (ps) : nT H a ≠ some (.tbl ps) := by
  unfold nT
  split
  · intro z; cases z
  · rename_i h
    exact h ps
theorem nT_rd {H : Hp} {a : Addr} {u : HO} (h : Rd H a u) (t : ∀ ps, u ≠ .tbl ps) : Rd (nT H) a u := by
  rcases h with h | ⟨o, h⟩
  · exact .inl (nT_at h t)
  · exact .inr ⟨o, nT_at h fun ps z => by cases z⟩
mutual
theorem Rep.nt {K : PySem.W.Frag} {H : Hp} : ∀ {v : V} {d : D}, Rep K H v d → Rep K (nT H) v d
  | _, _, .sc v => .sc v
  | _, _, .tup h r => .tup (h.imp (fun h => nT_rd h fun ps z => by cases z) id) (Reps.nt r)
  | _, _, .lst h r => .lst (nT_at h fun ps z => by cases z) (Reps.nt r)
  | _, _, .scr h => .scr (h.imp (fun h => nT_rd h fun ps z => by cases z) id)
  | _, _, .dic h r => .dic (nT_rd h fun ps z => by cases z) (RepK.nt r)
theorem Reps.nt {K : PySem.W.Frag} {H : Hp} : ∀ {v : List V} {d : List D}, Reps K H v d → Reps K (nT H) v d
  | _, _, .nil => .nil
  | _, _, .cons h r => .cons (Rep.nt h) (Reps.nt r)
theorem RepK.nt {K : PySem.W.Frag} {H : Hp} : ∀ {v : List (Key × V)} {d : List (Key × D)}, RepK K H v d → RepK K (nT H) v d
  | _, _, .nil => .nil
  | _, _, .cons h r => .cons (Rep.nt h) (RepK.nt r)
end
theorem conts_reps {K : PySem.W.Frag} {F H : Hp} (s : Sub F H) : ∀ {vs : List V} {ds : List D}, Paired (Cont K F H) vs ds → Reps K (nT H) vs ds
  | _, _, .nil => .nil
  | _, _, .cons h r => .cons (Rep.nt (Cont.rep s h)) (conts_reps s r)
section
variable {g : Gd} {F H F2 H2 : Hp} {O O' O2 : Own} {σ : L2.St} {δ : DS}
/-- behind such a call all stands as it stood -/
theorem R.lent (r : R g F H O σ δ) {F0 : Hp} (s : Step F0 H (fun _ => none) F2 H2 O2) (tab : LamX.Tabs g.T H2) : Step F H O F H2 O ∧ R g F H2 O σ δ := by
  refine ⟨⟨Sub.refl _, fun a o h _ t => s.fr a o h rfl t, s.th, fun a h => .inl h, fun a h => .inl h⟩, fun a o h => s.fr a o (r.sub a o h) rfl fun ps z => r.ntb a ps (by rw [h, z]), fun i w h => ?_, fun i w h => ?_, fun a h => ⟨s.th a (r.inh a h).1, (r.inh a h).2⟩, r.ntb, tab, r.len⟩
  · obtain ⟨v, h1, h2⟩ := r.sl i w h
    refine ⟨v, h1, ?_⟩
    cases w with
    | ow m => obtain ⟨a, e1, e2, e3⟩ := h2; exact ⟨a, e1, e2, e3.sub (Sub.refl _) fun o h t => s.fr a o h rfl t⟩
    | _ => exact h2
  · obtain ⟨v, h1, h2⟩ := r.an i w h
    refine ⟨v, h1, ?_⟩
    cases w with
    | ow m => obtain ⟨a, e1, e2, e3⟩ := h2; exact ⟨a, e1, e2, e3.sub (Sub.refl _) fun o h t => s.fr a o h rfl t⟩
    | _ => exact h2
end
section
variable {X : Cx} {g : Gd} {Wx : WX} {e a b c : Expr} {es rest : List Expr} {ta tb tc : DTE} {tA : DTA} {t u : DTT} {pos : Pos}
def dCallB (sp : DSp) (tA : DTA) : DTE := fun δ Q Y => tA δ (fun ws δ1 => ∃ ds, vals δ1 ws = some ds ∧ sp (ds.map .pu) (fun r _ => ∃ v, r = .pu (.sc v) ∧ Q (.pu (.sc v)) δ1) (fun c _ => Y c δ1)) Y
theorem dCallB_mono {sp : DSp} {tA : DTA} (hp : MonoP sp) (ha : MonoA tA) : MonoE (dCallB sp tA) := fun δ Q Q' Y Y' hQ hY q =>
  ha _ _ _ _ _ (fun ws δ1 ⟨ds, e, q⟩ => ⟨ds, e, hp _ _ _ _ _ (fun r as' ⟨v, e2, q⟩ => ⟨v, e2, hQ _ _ q⟩) (fun c as' q => hY _ _ q) q⟩) hY q
theorem callCanB {sp : DSp} (mp : MonoP sp) (ha : MonoA tA) (σ : L2.St) (H : Hp) (Q : VK) : canE g Wx (dCallB sp tA) σ H Q → canA g Wx tA σ H fun vs H1 => lift g.K g.T sp vs H1 Q (WE Wx σ) := by
  rintro ⟨F, O, δ, r0, q⟩
  refine ⟨F, O, δ, r0, ha _ _ _ _ _ (fun ws δ1 q vs F1 H1 O1 s1 r1 x1 => ?_) (fun _ _ z => z) q⟩
  obtain ⟨ds, e, q⟩ := q
  have rp := conts_reps r1.sub (r1.conts x1 e)
  have rc : R ⟨g.K, g.T, vs⟩ (nT H1) H1 (fun _ => none) [] ⟨[], ds.map .pu⟩ :=
    ⟨nT_sub H1, fun i w h => by simp at h, fun k w h => by
      obtain ⟨v, d, h1, rfl, h2⟩ := rp.anOk h
      exact ⟨v, h1, h2⟩, fun a h => absurd rfl h, nT_ntb H1, r1.tab, rfl⟩
  refine ⟨nT H1, fun _ => none, ds.map .pu, rc, by rw [List.length_map]; exact rp.length.symm, mp _ _ _ _ _ (fun w as' q v F2 H2 O2 s2 r2 x2 => ?_) (fun c as' q F2 H2 O2 s2 r2 => ?_) q⟩
  · obtain ⟨u, rfl, q⟩ := q
    obtain ⟨s3, r3⟩ := r1.lent s2 r2.tab
    exact q v F1 H2 O1 (s1.trans s3) r3 (by cases x2; exact .sc _)
  · obtain ⟨s3, r3⟩ := r1.lent s2 r2.tab
    exact q F1 H2 O1 (s1.trans s3) r3
theorem de_cb {sp : DSp} {j k : Nat} {ps : List Str} {x : Str} {p : Pos} (C : CallOk X.prog X.w g.K X.mg X.base g.T j x ps sp) (gK : g.K = X.K) (hr : Room k X.A) (hg : Gl X x) (tk : Takes X Wx) (ha : DA X g Wx (a :: es) tA) (hjk : j ≤ k := by decide)
    (hdb : (x == ("__debug__" : Str)) = false := by decide) (he : starEach (a :: es) X.env = (false, eval a X.env) :: starEach es X.env := by rfl)
    (hpl : (backTo pos (starEach es X.env)).any (·.1) = false := by rfl) : DE X g Wx (.Call (.Name x p) (a :: es) [] pos) (dCallB sp tA) := by
  obtain ⟨mp, hm, hk, fd, F, hb⟩ := C
  rw [gK] at hm hk hb
  have F' : FnOk X.prog X.w X.K X.mg X.base (L2.CX X.prog X.w) j (He.ga X.K x) fd ps (lift g.K g.T sp) := by rw [← gK]; exact F
  exact ⟨dCallB_mono mp ha.mono, peMono (pe_callS F' (hr.mono hjk) hg hm hk hb (fun σ => passAt tk σ) ha.pa hdb he hpl) (callCanB mp ha.mono)⟩
end
end DL

/-! text H -/
set_option Elab.async false
set_option linter.all false
set_option maxRecDepth 100000
set_option maxHeartbeats 0
namespace Lw
open PySem PySem.Spec PyProof.Rows L2 LamX DL
def top (i : Nat) : Stmt := PySem.Challenge.pw_halfbits_k32_nets_and_runs.main.body.getD i (.Pass ⟨0, 0, 0, 0⟩)
abbrev st_is_within_bounds : Stmt := top 7
abbrev st_is_word : Stmt := top 8
abbrev st_need_word : Stmt := top 9
abbrev st_is_gate : Stmt := top 13
abbrev st_are_outs : Stmt := top 14
abbrev st_is_net : Stmt := top 15
abbrev st_need_net : Stmt := top 16
abbrev st_told_by : Stmt := top 17
abbrev st_raw_run : Stmt := top 18
abbrev st_run : Stmt := top 19
abbrev st__law_open : Stmt := top 21
abbrev st__law_spread : Stmt := top 22
abbrev st__law_take : Stmt := top 23
abbrev st__law_one_of : Stmt := top 24
abbrev st__law_all : Stmt := top 25
abbrev st__law_settled : Stmt := top 26
abbrev st__law_joined : Stmt := top 27
abbrev st__law_is_within : Stmt := top 28
abbrev st__law_any_word : Stmt := top 29
abbrev st__law_told : Stmt := top 30
abbrev st__law_run : Stmt := top 31
abbrev st__law_any_net : Stmt := top 32
abbrev st__law_bent : Stmt := top 33
abbrev st__law_word : Stmt := top 34
abbrev st__law_is_number : Stmt := top 35
abbrev st__law_is_net : Stmt := top 36
abbrev st__law_odd_nets : Stmt := top 37
abbrev st_law : Stmt := top 38
def d_is_within_bounds : He.DefD := ⟨("is_within_bounds", none), "is_within_bounds", "is_within_bounds", defArgs st_is_within_bounds, defBody st_is_within_bounds, defScope st_is_within_bounds, [], []⟩
def d_is_word : He.DefD := ⟨("is_word", none), "is_word", "is_word", defArgs st_is_word, defBody st_is_word, defScope st_is_word, [], []⟩
def d_need_word : He.DefD := ⟨("need_word", none), "need_word", "need_word", defArgs st_need_word, defBody st_need_word, defScope st_need_word, [], []⟩
def d_is_gate : He.DefD := ⟨("is_gate", none), "is_gate", "is_gate", defArgs st_is_gate, defBody st_is_gate, defScope st_is_gate, [], []⟩
def d_are_outs : He.DefD := ⟨("are_outs", none), "are_outs", "are_outs", defArgs st_are_outs, defBody st_are_outs, defScope st_are_outs, [], []⟩
def d_is_net : He.DefD := ⟨("is_net", none), "is_net", "is_net", defArgs st_is_net, defBody st_is_net, defScope st_is_net, [], []⟩
def d_need_net : He.DefD := ⟨("need_net", none), "need_net", "need_net", defArgs st_need_net, defBody st_need_net, defScope st_need_net, [], []⟩
def d_told_by : He.DefD := ⟨("told_by", none), "told_by", "told_by", defArgs st_told_by, defBody st_told_by, defScope st_told_by, [], []⟩
def d_raw_run : He.DefD := ⟨("raw_run", none), "raw_run", "raw_run", defArgs st_raw_run, defBody st_raw_run, defScope st_raw_run, [], []⟩
def d_run : He.DefD := ⟨("run", none), "run", "run", defArgs st_run, defBody st_run, defScope st_run, [], []⟩
def d__law_open : He.DefD := ⟨("_law_open", none), "_law_open", "_law_open", defArgs st__law_open, defBody st__law_open, defScope st__law_open, [], []⟩
def d__law_spread : He.DefD := ⟨("_law_spread", none), "_law_spread", "_law_spread", defArgs st__law_spread, defBody st__law_spread, defScope st__law_spread, [], []⟩
def d__law_take : He.DefD := ⟨("_law_take", none), "_law_take", "_law_take", defArgs st__law_take, defBody st__law_take, defScope st__law_take, [], []⟩
def d__law_one_of : He.DefD := ⟨("_law_one_of", none), "_law_one_of", "_law_one_of", defArgs st__law_one_of, defBody st__law_one_of, defScope st__law_one_of, [], []⟩
def d__law_all : He.DefD := ⟨("_law_all", none), "_law_all", "_law_all", defArgs st__law_all, defBody st__law_all, defScope st__law_all, [], []⟩
def d__law_settled : He.DefD := ⟨("_law_settled", none), "_law_settled", "_law_settled", defArgs st__law_settled, defBody st__law_settled, defScope st__law_settled, [], []⟩
def d__law_joined : He.DefD := ⟨("_law_joined", none), "_law_joined", "_law_joined", defArgs st__law_joined, defBody st__law_joined, defScope st__law_joined, [], []⟩
def d__law_is_within : He.DefD := ⟨("_law_is_within", none), "_law_is_within", "_law_is_within", defArgs st__law_is_within, defBody st__law_is_within, defScope st__law_is_within, [], []⟩
def d__law_any_word : He.DefD := ⟨("_law_any_word", none), "_law_any_word", "_law_any_word", defArgs st__law_any_word, defBody st__law_any_word, defScope st__law_any_word, [], []⟩
def d__law_told : He.DefD := ⟨("_law_told", none), "_law_told", "_law_told", defArgs st__law_told, defBody st__law_told, defScope st__law_told, [], []⟩
def d__law_run : He.DefD := ⟨("_law_run", none), "_law_run", "_law_run", defArgs st__law_run, defBody st__law_run, defScope st__law_run, [], []⟩
def d__law_any_net : He.DefD := ⟨("_law_any_net", none), "_law_any_net", "_law_any_net", defArgs st__law_any_net, defBody st__law_any_net, defScope st__law_any_net, [], []⟩
def d__law_bent : He.DefD := ⟨("_law_bent", none), "_law_bent", "_law_bent", defArgs st__law_bent, defBody st__law_bent, defScope st__law_bent, [], []⟩
def d__law_word : He.DefD := ⟨("_law_word", none), "_law_word", "_law_word", defArgs st__law_word, defBody st__law_word, defScope st__law_word, [], []⟩
def d__law_is_number : He.DefD := ⟨("_law_is_number", none), "_law_is_number", "_law_is_number", defArgs st__law_is_number, defBody st__law_is_number, defScope st__law_is_number, [], []⟩
def d__law_is_net : He.DefD := ⟨("_law_is_net", none), "_law_is_net", "_law_is_net", defArgs st__law_is_net, defBody st__law_is_net, defScope st__law_is_net, [], []⟩
def d__law_odd_nets : He.DefD := ⟨("_law_odd_nets", none), "_law_odd_nets", "_law_odd_nets", defArgs st__law_odd_nets, defBody st__law_odd_nets, defScope st__law_odd_nets, [], []⟩
def d_law : He.DefD := ⟨("law", none), "law", "law", defArgs st_law, defBody st_law, defScope st_law, [], []⟩
def fns : List He.DefD := [d_is_within_bounds, d_is_word, d_need_word, d_is_gate, d_are_outs, d_is_net, d_need_net, d_told_by, d_raw_run, d_run, d__law_open, d__law_spread, d__law_take, d__law_one_of, d__law_all, d__law_settled, d__law_joined, d__law_is_within, d__law_any_word, d__law_told, d__law_run, d__law_any_net, d__law_bent, d__law_word, d__law_is_number, d__law_is_net, d__law_odd_nets, d_law]
def fas : List He.Fa := [.glo "is_within_bounds", .glo "is_word", .glo "need_word", .glo "is_gate", .glo "are_outs", .glo "is_net", .glo "need_net", .glo "told_by", .glo "raw_run", .glo "run", .glo "_law_open", .glo "_law_spread", .glo "_law_take", .glo "_law_one_of", .glo "_law_all", .glo "_law_settled", .glo "_law_joined", .glo "_law_is_within", .glo "_law_any_word", .glo "_law_told", .glo "_law_run", .glo "_law_any_net", .glo "_law_bent", .glo "_law_word", .glo "_law_is_number", .glo "_law_is_net", .glo "_law_odd_nets", .glo "law", .glo "BitError", .glo "NoWord", .glo "NoNet", .glo "NoMatch", .free "ValueError", .free "all", .free "bool", .free "enumerate", .free "int", .free "isinstance", .free "len", .free "list", .free "range", .free "repr", .free "str", .free "tuple", .free "zip", .int "MOST_BITS" 32, .int "MOST_GATES" 100000, .glo "PLACES", .exc "NoWord", .exc "NoNet", .exc "NoMatch", .exm "NoWord" "NoNet" false, .exm "NoWord" "NoWord" true, .exm "NoWord" "NoMatch" false, .exm "NoWord" "BitError" true, .exm "NoNet" "NoNet" true, .exm "NoNet" "NoWord" false, .exm "NoNet" "NoMatch" false, .exm "NoNet" "BitError" true, .exm "NoMatch" "NoNet" false, .exm "NoMatch" "NoWord" false, .exm "NoMatch" "NoMatch" true, .exm "NoMatch" "BitError" true]
def exs : DL.Ex := ⟨[], [("law", none)], [("PLACES", [("0", 0), ("1", 0), ("not", 1), ("and", 2), ("or", 2)])]⟩
abbrev R : PySem.W.OpenRow := PySem.W.OpenLaw.row PySem.Challenge.rw_halfbits_k32_nets_and_runs
abbrev hk : PySem.W.Hook := DL.hookL 2 fas fns exs
def ob (s : PySem.W.SharedT) : DL.AlL := DL.obsLG 2 fas fns exs (HandSHeadRun.getT s)
theorem ob_eq (s : PySem.W.SharedT) : ob s = hk.obs s.abs := DL.obsLG_eq (HandSHeadRun.getT_eq s)
def names0 : List PySem.Str := ["is_within_bounds", "is_word", "need_word", "is_gate", "are_outs", "is_net", "need_net", "told_by", "raw_run", "run", "_law_open", "_law_spread", "_law_take", "_law_one_of", "_law_all", "_law_settled", "_law_joined", "_law_is_within", "_law_any_word", "_law_told", "_law_run", "_law_any_net", "_law_bent", "_law_word", "_law_is_number", "_law_is_net", "_law_odd_nets", "BitError", "NoWord", "NoNet"]
def names1 : List PySem.Str := ["NoMatch", "MOST_BITS", "MOST_GATES", "PLACES"]
def names : List PySem.Str := names0 ++ names1
theorem run (w : World) : HandSHeadRun.RunEq R (PySem.W.view R.prog [38]) hk ob 4000 names w :=
  PySem.W.byRow2 "special-get-raises" (P := fun w => HandSHeadRun.RunEq R (PySem.W.view R.prog [38]) hk ob 4000 names w) (fun w => by
    intro os
    kernel_rfl) (fun w => by
    intro os
    kernel_rfl) w
/-! ### the facts -/
abbrev TT (K : PySem.W.Frag) : List (Addr × Str) := DL.tabsOf K exs.lams
def tab_PLACES : List (Str × Int) := [("0", 0), ("1", 0), ("not", 1), ("and", 2), ("or", 2)]
def clw__law_word (K : PySem.W.Frag) : List (Addr × Str) := [(He.ga K "NoNet", "net"), (He.ga K "NoWord", "word"), (He.ga K "NoMatch", "match"), (He.ga K "BitError", "odd")]
def Nw__law_word : List Str := ["call", "e"]
structure Fx (K : PySem.W.Frag) (mg : Str → Option Value) : Prop where
  g_is_within_bounds : mg "is_within_bounds" = some (.ref (He.ga K "is_within_bounds"))
  g_is_word : mg "is_word" = some (.ref (He.ga K "is_word"))
  g_need_word : mg "need_word" = some (.ref (He.ga K "need_word"))
  g_is_gate : mg "is_gate" = some (.ref (He.ga K "is_gate"))
  g_are_outs : mg "are_outs" = some (.ref (He.ga K "are_outs"))
  g_is_net : mg "is_net" = some (.ref (He.ga K "is_net"))
  g_need_net : mg "need_net" = some (.ref (He.ga K "need_net"))
  g_told_by : mg "told_by" = some (.ref (He.ga K "told_by"))
  g_raw_run : mg "raw_run" = some (.ref (He.ga K "raw_run"))
  g_run : mg "run" = some (.ref (He.ga K "run"))
  g__law_open : mg "_law_open" = some (.ref (He.ga K "_law_open"))
  g__law_spread : mg "_law_spread" = some (.ref (He.ga K "_law_spread"))
  g__law_take : mg "_law_take" = some (.ref (He.ga K "_law_take"))
  g__law_one_of : mg "_law_one_of" = some (.ref (He.ga K "_law_one_of"))
  g__law_all : mg "_law_all" = some (.ref (He.ga K "_law_all"))
  g__law_settled : mg "_law_settled" = some (.ref (He.ga K "_law_settled"))
  g__law_joined : mg "_law_joined" = some (.ref (He.ga K "_law_joined"))
  g__law_is_within : mg "_law_is_within" = some (.ref (He.ga K "_law_is_within"))
  g__law_any_word : mg "_law_any_word" = some (.ref (He.ga K "_law_any_word"))
  g__law_told : mg "_law_told" = some (.ref (He.ga K "_law_told"))
  g__law_run : mg "_law_run" = some (.ref (He.ga K "_law_run"))
  g__law_any_net : mg "_law_any_net" = some (.ref (He.ga K "_law_any_net"))
  g__law_bent : mg "_law_bent" = some (.ref (He.ga K "_law_bent"))
  g__law_word : mg "_law_word" = some (.ref (He.ga K "_law_word"))
  g__law_is_number : mg "_law_is_number" = some (.ref (He.ga K "_law_is_number"))
  g__law_is_net : mg "_law_is_net" = some (.ref (He.ga K "_law_is_net"))
  g__law_odd_nets : mg "_law_odd_nets" = some (.ref (He.ga K "_law_odd_nets"))
  g_law : mg "law" = some (.ref (He.ga K "law"))
  n_ValueError : mg "ValueError" = none
  n_all : mg "all" = none
  n_bool : mg "bool" = none
  n_enumerate : mg "enumerate" = none
  n_int : mg "int" = none
  n_isinstance : mg "isinstance" = none
  n_len : mg "len" = none
  n_list : mg "list" = none
  n_range : mg "range" = none
  n_repr : mg "repr" = none
  n_str : mg "str" = none
  n_tuple : mg "tuple" = none
  n_zip : mg "zip" = none
  c_MOST_BITS : ∃ t, mg "MOST_BITS" = some (.int 32 t)
  c_MOST_GATES : ∃ t, mg "MOST_GATES" = some (.int 100000 t)
  x_NoWord : DL.ExcOk K mg "NoWord"
  x_NoNet : DL.ExcOk K mg "NoNet"
  x_NoMatch : DL.ExcOk K mg "NoMatch"
  m_NoWord_NoNet : PySem.W.exmOne K (.ref (He.ga K "NoWord")) (.ref (He.ga K "NoNet")) = some false
  m_NoWord_NoWord : PySem.W.exmOne K (.ref (He.ga K "NoWord")) (.ref (He.ga K "NoWord")) = some true
  m_NoWord_NoMatch : PySem.W.exmOne K (.ref (He.ga K "NoWord")) (.ref (He.ga K "NoMatch")) = some false
  m_NoWord_BitError : PySem.W.exmOne K (.ref (He.ga K "NoWord")) (.ref (He.ga K "BitError")) = some true
  m_NoNet_NoNet : PySem.W.exmOne K (.ref (He.ga K "NoNet")) (.ref (He.ga K "NoNet")) = some true
  m_NoNet_NoWord : PySem.W.exmOne K (.ref (He.ga K "NoNet")) (.ref (He.ga K "NoWord")) = some false
  m_NoNet_NoMatch : PySem.W.exmOne K (.ref (He.ga K "NoNet")) (.ref (He.ga K "NoMatch")) = some false
  m_NoNet_BitError : PySem.W.exmOne K (.ref (He.ga K "NoNet")) (.ref (He.ga K "BitError")) = some true
  m_NoMatch_NoNet : PySem.W.exmOne K (.ref (He.ga K "NoMatch")) (.ref (He.ga K "NoNet")) = some false
  m_NoMatch_NoWord : PySem.W.exmOne K (.ref (He.ga K "NoMatch")) (.ref (He.ga K "NoWord")) = some false
  m_NoMatch_NoMatch : PySem.W.exmOne K (.ref (He.ga K "NoMatch")) (.ref (He.ga K "NoMatch")) = some true
  m_NoMatch_BitError : PySem.W.exmOne K (.ref (He.ga K "NoMatch")) (.ref (He.ga K "BitError")) = some true
  g_PLACES : mg "PLACES" = some (.ref (He.ga K "PLACES"))
  f_is_within_bounds : ∃ fd, FunD K "is_within_bounds" "is_within_bounds" (defArgs st_is_within_bounds) (defBody st_is_within_bounds) (defScope st_is_within_bounds) [] [] (He.ga K "is_within_bounds") fd
  f_is_word : ∃ fd, FunD K "is_word" "is_word" (defArgs st_is_word) (defBody st_is_word) (defScope st_is_word) [] [] (He.ga K "is_word") fd
  f_need_word : ∃ fd, FunD K "need_word" "need_word" (defArgs st_need_word) (defBody st_need_word) (defScope st_need_word) [] [] (He.ga K "need_word") fd
  f_is_gate : ∃ fd, FunD K "is_gate" "is_gate" (defArgs st_is_gate) (defBody st_is_gate) (defScope st_is_gate) [] [] (He.ga K "is_gate") fd
  f_are_outs : ∃ fd, FunD K "are_outs" "are_outs" (defArgs st_are_outs) (defBody st_are_outs) (defScope st_are_outs) [] [] (He.ga K "are_outs") fd
  f_is_net : ∃ fd, FunD K "is_net" "is_net" (defArgs st_is_net) (defBody st_is_net) (defScope st_is_net) [] [] (He.ga K "is_net") fd
  f_need_net : ∃ fd, FunD K "need_net" "need_net" (defArgs st_need_net) (defBody st_need_net) (defScope st_need_net) [] [] (He.ga K "need_net") fd
  f_told_by : ∃ fd, FunD K "told_by" "told_by" (defArgs st_told_by) (defBody st_told_by) (defScope st_told_by) [] [] (He.ga K "told_by") fd
  f_raw_run : ∃ fd, FunD K "raw_run" "raw_run" (defArgs st_raw_run) (defBody st_raw_run) (defScope st_raw_run) [] [] (He.ga K "raw_run") fd
  f_run : ∃ fd, FunD K "run" "run" (defArgs st_run) (defBody st_run) (defScope st_run) [] [] (He.ga K "run") fd
  f__law_open : ∃ fd, FunD K "_law_open" "_law_open" (defArgs st__law_open) (defBody st__law_open) (defScope st__law_open) [] [] (He.ga K "_law_open") fd
  f__law_spread : ∃ fd, FunD K "_law_spread" "_law_spread" (defArgs st__law_spread) (defBody st__law_spread) (defScope st__law_spread) [] [] (He.ga K "_law_spread") fd
  f__law_take : ∃ fd, FunD K "_law_take" "_law_take" (defArgs st__law_take) (defBody st__law_take) (defScope st__law_take) [] [] (He.ga K "_law_take") fd
  f__law_one_of : ∃ fd, FunD K "_law_one_of" "_law_one_of" (defArgs st__law_one_of) (defBody st__law_one_of) (defScope st__law_one_of) [] [] (He.ga K "_law_one_of") fd
  f__law_all : ∃ fd, FunD K "_law_all" "_law_all" (defArgs st__law_all) (defBody st__law_all) (defScope st__law_all) [] [] (He.ga K "_law_all") fd
  f__law_settled : ∃ fd, FunD K "_law_settled" "_law_settled" (defArgs st__law_settled) (defBody st__law_settled) (defScope st__law_settled) [] [] (He.ga K "_law_settled") fd
  f__law_joined : ∃ fd, FunD K "_law_joined" "_law_joined" (defArgs st__law_joined) (defBody st__law_joined) (defScope st__law_joined) [] [] (He.ga K "_law_joined") fd
  f__law_is_within : ∃ fd, FunD K "_law_is_within" "_law_is_within" (defArgs st__law_is_within) (defBody st__law_is_within) (defScope st__law_is_within) [] [] (He.ga K "_law_is_within") fd
  f__law_any_word : ∃ fd, FunD K "_law_any_word" "_law_any_word" (defArgs st__law_any_word) (defBody st__law_any_word) (defScope st__law_any_word) [] [] (He.ga K "_law_any_word") fd
  f__law_told : ∃ fd, FunD K "_law_told" "_law_told" (defArgs st__law_told) (defBody st__law_told) (defScope st__law_told) [] [] (He.ga K "_law_told") fd
  f__law_run : ∃ fd, FunD K "_law_run" "_law_run" (defArgs st__law_run) (defBody st__law_run) (defScope st__law_run) [] [] (He.ga K "_law_run") fd
  f__law_any_net : ∃ fd, FunD K "_law_any_net" "_law_any_net" (defArgs st__law_any_net) (defBody st__law_any_net) (defScope st__law_any_net) [] [] (He.ga K "_law_any_net") fd
  f__law_bent : ∃ fd, FunD K "_law_bent" "_law_bent" (defArgs st__law_bent) (defBody st__law_bent) (defScope st__law_bent) [] [] (He.ga K "_law_bent") fd
  f__law_word : ∃ fd, FunD K "_law_word" "_law_word" (defArgs st__law_word) (defBody st__law_word) (defScope st__law_word) [] [] (He.ga K "_law_word") fd
  f__law_is_number : ∃ fd, FunD K "_law_is_number" "_law_is_number" (defArgs st__law_is_number) (defBody st__law_is_number) (defScope st__law_is_number) [] [] (He.ga K "_law_is_number") fd
  f__law_is_net : ∃ fd, FunD K "_law_is_net" "_law_is_net" (defArgs st__law_is_net) (defBody st__law_is_net) (defScope st__law_is_net) [] [] (He.ga K "_law_is_net") fd
  f__law_odd_nets : ∃ fd, FunD K "_law_odd_nets" "_law_odd_nets" (defArgs st__law_odd_nets) (defBody st__law_odd_nets) (defScope st__law_odd_nets) [] [] (He.ga K "_law_odd_nets") fd
  f_law : ∃ fd, FunD K "law" "law" (defArgs st_law) (defBody st_law) (defScope st_law) [] [] (He.ga K "law") fd
  W__law_word : DL.WordFn K mg "_law_word" st__law_word "call" "e" 1 Nw__law_word "none" (clw__law_word K)
theorem fx {K : PySem.W.Frag} {h : Heap} {mg : Str → Option Value} (X : K.In h) (Gn : h.Ns mainGlobals mg) (c : He.SaysD fas fns K) (tu : ∀ q ∈ exs.tups, He.tupB K q.1 q.2 = true) : Fx K mg where
  g_is_within_bounds := He.glo_ok X Gn (c.fact 0 (f := .glo "is_within_bounds") rfl)
  g_is_word := He.glo_ok X Gn (c.fact 1 (f := .glo "is_word") rfl)
  g_need_word := He.glo_ok X Gn (c.fact 2 (f := .glo "need_word") rfl)
  g_is_gate := He.glo_ok X Gn (c.fact 3 (f := .glo "is_gate") rfl)
  g_are_outs := He.glo_ok X Gn (c.fact 4 (f := .glo "are_outs") rfl)
  g_is_net := He.glo_ok X Gn (c.fact 5 (f := .glo "is_net") rfl)
  g_need_net := He.glo_ok X Gn (c.fact 6 (f := .glo "need_net") rfl)
  g_told_by := He.glo_ok X Gn (c.fact 7 (f := .glo "told_by") rfl)
  g_raw_run := He.glo_ok X Gn (c.fact 8 (f := .glo "raw_run") rfl)
  g_run := He.glo_ok X Gn (c.fact 9 (f := .glo "run") rfl)
  g__law_open := He.glo_ok X Gn (c.fact 10 (f := .glo "_law_open") rfl)
  g__law_spread := He.glo_ok X Gn (c.fact 11 (f := .glo "_law_spread") rfl)
  g__law_take := He.glo_ok X Gn (c.fact 12 (f := .glo "_law_take") rfl)
  g__law_one_of := He.glo_ok X Gn (c.fact 13 (f := .glo "_law_one_of") rfl)
  g__law_all := He.glo_ok X Gn (c.fact 14 (f := .glo "_law_all") rfl)
  g__law_settled := He.glo_ok X Gn (c.fact 15 (f := .glo "_law_settled") rfl)
  g__law_joined := He.glo_ok X Gn (c.fact 16 (f := .glo "_law_joined") rfl)
  g__law_is_within := He.glo_ok X Gn (c.fact 17 (f := .glo "_law_is_within") rfl)
  g__law_any_word := He.glo_ok X Gn (c.fact 18 (f := .glo "_law_any_word") rfl)
  g__law_told := He.glo_ok X Gn (c.fact 19 (f := .glo "_law_told") rfl)
  g__law_run := He.glo_ok X Gn (c.fact 20 (f := .glo "_law_run") rfl)
  g__law_any_net := He.glo_ok X Gn (c.fact 21 (f := .glo "_law_any_net") rfl)
  g__law_bent := He.glo_ok X Gn (c.fact 22 (f := .glo "_law_bent") rfl)
  g__law_word := He.glo_ok X Gn (c.fact 23 (f := .glo "_law_word") rfl)
  g__law_is_number := He.glo_ok X Gn (c.fact 24 (f := .glo "_law_is_number") rfl)
  g__law_is_net := He.glo_ok X Gn (c.fact 25 (f := .glo "_law_is_net") rfl)
  g__law_odd_nets := He.glo_ok X Gn (c.fact 26 (f := .glo "_law_odd_nets") rfl)
  g_law := He.glo_ok X Gn (c.fact 27 (f := .glo "law") rfl)
  n_ValueError := He.free_ok X Gn (c.fact 32 (f := .free "ValueError") rfl)
  n_all := He.free_ok X Gn (c.fact 33 (f := .free "all") rfl)
  n_bool := He.free_ok X Gn (c.fact 34 (f := .free "bool") rfl)
  n_enumerate := He.free_ok X Gn (c.fact 35 (f := .free "enumerate") rfl)
  n_int := He.free_ok X Gn (c.fact 36 (f := .free "int") rfl)
  n_isinstance := He.free_ok X Gn (c.fact 37 (f := .free "isinstance") rfl)
  n_len := He.free_ok X Gn (c.fact 38 (f := .free "len") rfl)
  n_list := He.free_ok X Gn (c.fact 39 (f := .free "list") rfl)
  n_range := He.free_ok X Gn (c.fact 40 (f := .free "range") rfl)
  n_repr := He.free_ok X Gn (c.fact 41 (f := .free "repr") rfl)
  n_str := He.free_ok X Gn (c.fact 42 (f := .free "str") rfl)
  n_tuple := He.free_ok X Gn (c.fact 43 (f := .free "tuple") rfl)
  n_zip := He.free_ok X Gn (c.fact 44 (f := .free "zip") rfl)
  c_MOST_BITS := He.int_ok X Gn (c.fact 45 (f := .int "MOST_BITS" 32) rfl)
  c_MOST_GATES := He.int_ok X Gn (c.fact 46 (f := .int "MOST_GATES" 100000) rfl)
  x_NoWord := (let e := He.exc_ok (c.fact 48 (f := .exc "NoWord") rfl); ⟨He.glo_ok X Gn (c.fact 29 (f := .glo "NoWord") rfl), e.1, e.2.1, e.2.2.1, e.2.2.2⟩)
  x_NoNet := (let e := He.exc_ok (c.fact 49 (f := .exc "NoNet") rfl); ⟨He.glo_ok X Gn (c.fact 30 (f := .glo "NoNet") rfl), e.1, e.2.1, e.2.2.1, e.2.2.2⟩)
  x_NoMatch := (let e := He.exc_ok (c.fact 50 (f := .exc "NoMatch") rfl); ⟨He.glo_ok X Gn (c.fact 31 (f := .glo "NoMatch") rfl), e.1, e.2.1, e.2.2.1, e.2.2.2⟩)
  m_NoWord_NoNet := He.exm_ok (c.fact 51 (f := .exm "NoWord" "NoNet" false) rfl)
  m_NoWord_NoWord := He.exm_ok (c.fact 52 (f := .exm "NoWord" "NoWord" true) rfl)
  m_NoWord_NoMatch := He.exm_ok (c.fact 53 (f := .exm "NoWord" "NoMatch" false) rfl)
  m_NoWord_BitError := He.exm_ok (c.fact 54 (f := .exm "NoWord" "BitError" true) rfl)
  m_NoNet_NoNet := He.exm_ok (c.fact 55 (f := .exm "NoNet" "NoNet" true) rfl)
  m_NoNet_NoWord := He.exm_ok (c.fact 56 (f := .exm "NoNet" "NoWord" false) rfl)
  m_NoNet_NoMatch := He.exm_ok (c.fact 57 (f := .exm "NoNet" "NoMatch" false) rfl)
  m_NoNet_BitError := He.exm_ok (c.fact 58 (f := .exm "NoNet" "BitError" true) rfl)
  m_NoMatch_NoNet := He.exm_ok (c.fact 59 (f := .exm "NoMatch" "NoNet" false) rfl)
  m_NoMatch_NoWord := He.exm_ok (c.fact 60 (f := .exm "NoMatch" "NoWord" false) rfl)
  m_NoMatch_NoMatch := He.exm_ok (c.fact 61 (f := .exm "NoMatch" "NoMatch" true) rfl)
  m_NoMatch_BitError := He.exm_ok (c.fact 62 (f := .exm "NoMatch" "BitError" true) rfl)
  g_PLACES := He.glo_ok X Gn (c.fact 47 (f := .glo "PLACES") rfl)
  f_is_within_bounds := c.def_ 0 (d := d_is_within_bounds) rfl
  f_is_word := c.def_ 1 (d := d_is_word) rfl
  f_need_word := c.def_ 2 (d := d_need_word) rfl
  f_is_gate := c.def_ 3 (d := d_is_gate) rfl
  f_are_outs := c.def_ 4 (d := d_are_outs) rfl
  f_is_net := c.def_ 5 (d := d_is_net) rfl
  f_need_net := c.def_ 6 (d := d_need_net) rfl
  f_told_by := c.def_ 7 (d := d_told_by) rfl
  f_raw_run := c.def_ 8 (d := d_raw_run) rfl
  f_run := c.def_ 9 (d := d_run) rfl
  f__law_open := c.def_ 10 (d := d__law_open) rfl
  f__law_spread := c.def_ 11 (d := d__law_spread) rfl
  f__law_take := c.def_ 12 (d := d__law_take) rfl
  f__law_one_of := c.def_ 13 (d := d__law_one_of) rfl
  f__law_all := c.def_ 14 (d := d__law_all) rfl
  f__law_settled := c.def_ 15 (d := d__law_settled) rfl
  f__law_joined := c.def_ 16 (d := d__law_joined) rfl
  f__law_is_within := c.def_ 17 (d := d__law_is_within) rfl
  f__law_any_word := c.def_ 18 (d := d__law_any_word) rfl
  f__law_told := c.def_ 19 (d := d__law_told) rfl
  f__law_run := c.def_ 20 (d := d__law_run) rfl
  f__law_any_net := c.def_ 21 (d := d__law_any_net) rfl
  f__law_bent := c.def_ 22 (d := d__law_bent) rfl
  f__law_word := c.def_ 23 (d := d__law_word) rfl
  f__law_is_number := c.def_ 24 (d := d__law_is_number) rfl
  f__law_is_net := c.def_ 25 (d := d__law_is_net) rfl
  f__law_odd_nets := c.def_ 26 (d := d__law_odd_nets) rfl
  f_law := c.def_ 27 (d := d_law) rfl
  W__law_word := ⟨He.glo_ok X Gn (c.fact 23 (f := .glo "_law_word") rfl), (let ⟨fd, F⟩ := c.def_ 23 (d := d__law_word) rfl; ⟨fd, F, F.bindsN fun _ _ _ _ _ _ us hl => match us, hl with | [_], _ => rfl⟩),
      ⟨_, _, _, _, _, _, _, _, _, rfl, .cons rfl rfl (He.glo_ok X Gn (c.fact 30 (f := .glo "NoNet") rfl)) (.cons rfl rfl (He.glo_ok X Gn (c.fact 29 (f := .glo "NoWord") rfl)) (.cons rfl rfl (He.glo_ok X Gn (c.fact 31 (f := .glo "NoMatch") rfl)) (.cons rfl rfl (He.glo_ok X Gn (c.fact 28 (f := .glo "BitError") rfl)) (.nil)))), fun _ => rfl⟩, ⟨rfl, rfl, rfl, by decide +kernel, rfl, by decide +kernel, by decide +kernel⟩, rfl, rfl, by decide, Or.inl rfl, rfl, rfl, rfl⟩
end Lw

/-! text C -/
set_option Elab.async false
set_option linter.all false
set_option maxRecDepth 100000
set_option maxHeartbeats 2000000
namespace Lw
open PySem PySem.Spec PyProof.Rows L2 DL
section
variable {P : Program} {w : World} {base : Heap} {K : PySem.W.Frag} {ws : List Wv} {Q : Wv → List Wv → Prop} {Y : Value → List Wv → Prop} {mg : Str → Option Value}
def thing (d : D) : Prop := (∃ t, tyD d = some t) ∧ ∀ z, d = DS' z → z.length ≤ sizeLine
def bndF : List D → Except Str Wv
  | [.sc (.int i), .sc (.int a), .sc (.int b)] => .ok (.pu (DB' (decide (a ≤ i) && decide (i ≤ b))))
  | _ => .ok (.pu (DB' false))
def isW (z : Str) : Bool := decide (1 ≤ z.length) && decide (z.length ≤ 32) && z.cps.toList.all fun c => decide (c ∈ ("01?" : Str).cps.toList)
def str (d : D) : Str := match d with
  | .sc (.str z) => z
  | _ => ""
def isWD : D → Bool
  | .sc (.str z) => isW z
  | _ => false
def isBit (z : Str) : Bool := z == "0" || (z == "1" || z == "?")
def strsL (zs : List Str) : Wv := .ow (.lst (zs.map fun z => DS' z))
abbrev sp_is_within_bounds (K : PySem.W.Frag) : DSp := spX K 3 (fun ds => ∃ d t a b, ds = [d, DI' a, DI' b] ∧ tyD d = some t) bndF
abbrev sp_is_word (K : PySem.W.Frag) : DSp := spX K 1 (fun ds => ∀ d ∈ ds, thing d) fun ds => .ok (.pu (DB' (isWD (ds.headD DN'))))
abbrev sp_need_word (K : PySem.W.Frag) : DSp := spX K 1 (fun ds => ∀ d ∈ ds, thing d) fun ds => if isWD (ds.headD DN') then .ok (.pu DN') else .error "NoWord"
def PenOk (b : Nat) (pen : List D) : Prop := ∃ (cells : List Int) (k n : Int), pen = [.lst (cells.map fun c => DI' c), DI' k, DI' n] ∧ cells.length ≤ 12 ∧ 0 ≤ k ∧ k ≤ b ∧ 0 ≤ n
theorem PenOk.mono {b c : Nat} {pen : List D} (h : PenOk b pen) (l : b ≤ c) : PenOk c pen := by
  obtain ⟨cells, k, n, e, h1, h2, h3, h4⟩ := h
  exact ⟨cells, k, n, e, h1, h2, by omega, h4⟩
def sp__law_open (K : PySem.W.Frag) : DSp := fun ws Q Y => ∃ ns : List Int, ws = [.pu (.scr ns)] ∧ ns.length ≤ 63 ∧ ∀ pen, PenOk 0 pen → Q (.ow (.lst pen)) ws
def sp__law_spread (K : PySem.W.Frag) : DSp := fun ws Q Y => ∃ c k : Int, ws = [.pu (DI' c), .pu (DI' k)] ∧ 0 ≤ k ∧ k < 1073741824 ∧ ∀ v : Int, 0 ≤ v → Q (.pu (DI' v)) ws
def sp__law_take (K : PySem.W.Frag) : DSp := fun ws Q Y => ∃ (b : Nat) (pen : List D) (many : Int), ws = [.ow (.lst pen), .pu (DI' many)] ∧ PenOk b pen ∧ b < 1000000000 ∧ 0 < many ∧ many < 4294967296 ∧
  ∀ (v : Int) pen', 0 ≤ v → v < many → PenOk (b + 1) pen' → Q (.pu (DI' v)) [.ow (.lst pen'), .pu (DI' many)]
def sp__law_one_of (K : PySem.W.Frag) : DSp := fun ws Q Y => ∃ (b : Nat) (pen : List D) (some : D) (ds : List D), ws = [.ow (.lst pen), .pu some] ∧ PenOk b pen ∧ b < 1000000000 ∧ ((some = .lst ds) ∨ ∃ z, some = DS' z ∧ z.length ≤ sizeLine ∧ ds = z.cps.toList.map fun c => DS' (sign c)) ∧ ds ≠ [] ∧ ds.length < 1000000 ∧
  ∀ d pen', d ∈ ds → PenOk (b + 1) pen' → Q (.pu d) [.ow (.lst pen'), .pu some]
def sp__law_any_word (K : PySem.W.Frag) : DSp := fun ws Q Y => ∃ (b : Nat) (pen : List D) (n : Nat), ws = [.ow (.lst pen), .pu (DI' n)] ∧ PenOk b pen ∧ b + n < 999999999 ∧ n ≤ 64 ∧
  ∀ (z : Str) pen', z.length = n → (∀ c ∈ z.cps.toList, isBit (sign c) = true) → PenOk (b + 1 + n) pen' → Q (.pu (DS' z)) [.ow (.lst pen'), .pu (DI' n)]
def sp_law (K : PySem.W.Frag) : DSp := fun ws Q Y => ∃ ns : List Int, ws = [.pu (.scr ns)] ∧ ns.length ≤ 63 ∧ Q (.pu (DB' true)) ws
/-- the settlings of a word, in order -/
def opts (c : Nat) : List Str := if c = 63 then ["0", "1"] else [sign c]
def settle (cs : List Nat) : List Str := cs.foldl (fun found c => found.flatMap fun start => (opts c).map (start ++ ·)) [""]
def qs (z : Str) : Nat := z.cps.toList.count 63
def lstrs (d : D) : List Str := match d with
  | .lst xs => xs.map str
  | _ => []
def bitsS (z : Str) : Prop := ∀ c ∈ z.cps.toList, isBit (sign c) = true
def within (a b : List Nat) : Bool := (a.zip b).all fun p => p.2 == 63 || p.2 == p.1
/-- what words have in common, place by place -/
def at_ (z : Str) (k : Nat) : Nat := z.cps.toList.getD k 0
def colJ (zs : List Str) (k : Nat) : Nat := if zs.all (fun z => at_ z k == at_ (zs.headD "") k) then at_ (zs.headD "") k else 63
def strOf (cs : List Nat) : Str := ⟨cs.toArray⟩
def joinAll (zs : List Str) : Str := strOf ((List.range (zs.headD "").length).map (colJ zs))
def sameLen (zs : List Str) : Bool := zs.all fun z => z.length == (zs.headD "").length
abbrev sp__law_settled (K : PySem.W.Frag) : DSp := spX K 1 (fun ds => ∃ z : Str, ds = [DS' z] ∧ bitsS z ∧ z.length ≤ 32 ∧ qs z ≤ 8) fun ds => .ok (strsL (settle (str (ds.headD DN')).cps.toList))
abbrev sp__law_joined (K : PySem.W.Frag) : DSp := spX K 1 (fun ds => ∃ zs : List Str, ds = [.lst (zs.map fun z => DS' z)] ∧ zs ≠ [] ∧ zs.length ≤ 1000 ∧ sameLen zs = true ∧ (zs.headD "").length ≤ 32) fun ds => .ok (.pu (DS' (joinAll (lstrs (ds.headD DN')))))
def numOf : D → Int
  | .sc (.int i) => i
  | _ => 0
def isNum (d : D) (lo hi : Int) : Bool := match d with
  | .sc (.int i) => decide (lo ≤ i) && decide (i ≤ hi)
  | _ => false
def places (z : Str) : Option Int := (tab_PLACES.find? fun q => q.1 == z).map (·.2)
def gateB (d : D) (below : Int) : Bool := match d with
  | .tup (.sc (.str z) :: r) => (match places z with
    | some n => decide ((r.length : Int) = n) && r.all fun x => isNum x 0 (below - 1)
    | none => false)
  | _ => false
def outsB (d : D) (below : Int) : Bool := match d with
  | .tup xs => decide (1 ≤ xs.length) && decide (xs.length ≤ 32) && xs.all fun x => isNum x 0 (below - 1)
  | _ => false
def gatesB (gs : List D) (n : Int) : Bool := (List.range gs.length).all fun k => gateB (gs.getD k DN') (n + (k : Int))
def netB (d : D) : Bool := match d with
  | .tup [n, .tup gs, outs] => isNum n 1 32 && decide (gs.length ≤ 100000) && gatesB gs (numOf n) && outsB outs (numOf n + gs.length)
  | _ => false
def bitsOf : D → List Nat
  | .lst xs => xs.map fun x => at_ (str x) 0
  | _ => []
/-- what a gate tells of the bits -/
def toldB (d : D) (bs : List Nat) : Nat := match d with
  | .tup [.sc (.str z)] => if z = "0" then 48 else 49
  | .tup [.sc (.str _), i] => (let a := bs.getD (numOf i).toNat 0; if a = 48 then 49 else if a = 49 then 48 else 63)
  | .tup [.sc (.str z), i, j] => (let a := bs.getD (numOf i).toNat 0; let b := bs.getD (numOf j).toNat 0; let s := if z = "and" then 48 else 49
    if a = s ∨ b = s then s else if a = b then a else 63)
  | _ => 63
def runB (gs : List D) (bs : List Nat) : List Nat := gs.foldl (fun bs g => bs ++ [toldB g bs]) bs
def gatesOf : D → List D
  | .tup [_, .tup gs, _] => gs
  | _ => []
def outsOf : D → List D
  | .tup [_, _, .tup os] => os
  | _ => []
def inOf : D → Nat
  | .tup [n, _, _] => (numOf n).toNat
  | _ => 0
def netRun (d : D) (w : Str) : Str := strOf ((outsOf d).map fun o => (runB (gatesOf d) w.cps.toList).getD (numOf o).toNat 0)
abbrev sp_is_gate (K : PySem.W.Frag) : DSp := spX K 2 (fun ds => ∃ (d : D) (b : Int), ds = [d, DI' b] ∧ okB d = true) fun ds => .ok (.pu (DB' (gateB (ds.getD 0 DN') (numOf (ds.getD 1 DN')))))
abbrev sp_are_outs (K : PySem.W.Frag) : DSp := spX K 2 (fun ds => ∃ (d : D) (b : Int), ds = [d, DI' b] ∧ okB d = true) fun ds => .ok (.pu (DB' (outsB (ds.getD 0 DN') (numOf (ds.getD 1 DN')))))
abbrev sp_is_net (K : PySem.W.Frag) : DSp := spX K 1 (fun ds => ∀ d ∈ ds, okB d = true) fun ds => .ok (.pu (DB' (netB (ds.headD DN'))))
abbrev sp_need_net (K : PySem.W.Frag) : DSp := spX K 1 (fun ds => ∀ d ∈ ds, okB d = true) fun ds => if netB (ds.headD DN') then .ok (.pu DN') else .error "NoNet"
def bitsL (l : List Nat) : Prop := ∀ c ∈ l, isBit (sign c) = true
abbrev sp_told_by (K : PySem.W.Frag) : DSp := spX K 2 (fun ds => ∃ (d : D) (bs : List Nat), ds = [d, .lst (bs.map fun c => DS' (sign c))] ∧ gateB d bs.length = true ∧ bitsL bs ∧ bs.length ≤ 200000) fun ds => .ok (.pu (DS' (sign (toldB (ds.getD 0 DN') (bitsOf (ds.getD 1 DN'))))))
abbrev sp_raw_run (K : PySem.W.Frag) : DSp := spX K 2 (fun ds => ∃ (d : D) (w : Str), ds = [d, DS' w] ∧ netB d = true ∧ bitsS w ∧ w.length = inOf d) fun ds => .ok (.pu (DS' (netRun (ds.getD 0 DN') (str (ds.getD 1 DN')))))
abbrev sp_run (K : PySem.W.Frag) : DSp := spX K 2 (fun ds => ∀ d ∈ ds, okB d = true) fun ds => if netB (ds.getD 0 DN') then (if isWD (ds.getD 1 DN') then (if (str (ds.getD 1 DN')).length = inOf (ds.getD 0 DN') then .ok (.pu (DS' (netRun (ds.getD 0 DN') (str (ds.getD 1 DN'))))) else .error "NoMatch") else .error "NoWord") else .error "NoNet"
def toldS (z s : Str) : Str := if z = "not" then (if s = "1" then "0" else "1") else if z = "and" then (if s = "11" then "1" else "0") else (if s = "00" then "0" else "1")
def isKindS (z s : Str) : Prop := (z = "not" ∧ s ∈ (["0", "1"] : List Str)) ∨ ((z = "and" ∨ z = "or") ∧ s ∈ (["00", "01", "10", "11"] : List Str))
abbrev sp__law_is_within (K : PySem.W.Frag) : DSp := spX K 2 (fun ds => ∃ a b : Str, ds = [DS' a, DS' b] ∧ a.length = b.length ∧ a.length ≤ 32) fun ds => .ok (.pu (DB' (within (str (ds.getD 0 DN')).cps.toList (str (ds.getD 1 DN')).cps.toList)))
abbrev sp__law_told (K : PySem.W.Frag) : DSp := spX K 2 (fun ds => ∃ z s : Str, ds = [DS' z, DS' s] ∧ isKindS z s) fun ds => .ok (.pu (DS' (toldS (str (ds.getD 0 DN')) (str (ds.getD 1 DN')))))
abbrev sp__law_run (K : PySem.W.Frag) : DSp := spX K 2 (fun ds => ∃ (d : D) (w : Str), ds = [d, DS' w] ∧ netB d = true ∧ bitsS w ∧ w.length = inOf d) fun ds => .ok (.pu (DS' (netRun (ds.getD 0 DN') (str (ds.getD 1 DN')))))
def sp__law_any_net (K : PySem.W.Frag) : DSp := fun ws Q Y => ∃ (b : Nat) (pen : List D) (n most m : Nat), ws = [.ow (.lst pen), .pu (DI' n), .pu (DI' most), .pu (DI' m)] ∧ PenOk b pen ∧ b < 100000000 ∧ 1 ≤ n ∧ n ≤ 32 ∧ most ≤ 40 ∧ 1 ≤ m ∧ m ≤ 32 ∧
  ∀ (d : D) pen', netB d = true → inOf d = n → (gatesOf d).length ≤ most → (outsOf d).length = m → PenOk (b + 1000) pen' → Q (.pu d) [.ow (.lst pen'), .pu (DI' n), .pu (DI' most), .pu (DI' m)]
def sp__law_bentN (n : Nat) (K : PySem.W.Frag) : DSp := fun ws Q Y => ∃ (b : Nat) (pen : List D) (d : D), ws = [.ow (.lst pen), .pu d] ∧ PenOk b pen ∧ b + 10 * n < 100000000 ∧ ptB d = true ∧ dpD d + 1 ≤ n ∧ szD d ≤ 2000 ∧
  ∀ (d' : D) pen', Bent d' d → PenOk (b + 10 * n) pen' → Q (.pu d') [.ow (.lst pen'), .pu d]
abbrev sp__law_bent (K : PySem.W.Frag) : DSp := sp__law_bentN 4 K
abbrev sp__law_is_number (K : PySem.W.Frag) : DSp := spX K 3 (fun ds => ∃ (d : D) (a b : Int), ds = [d, DI' a, DI' b] ∧ okB d = true) fun ds => .ok (.pu (DB' (isNum (ds.getD 0 DN') (numOf (ds.getD 1 DN')) (numOf (ds.getD 2 DN')))))
abbrev sp__law_is_net (K : PySem.W.Frag) : DSp := spX K 1 (fun ds => ∀ d ∈ ds, okB d = true) fun ds => .ok (.pu (DB' (netB (ds.headD DN'))))
def sp__law_odd_nets (K : PySem.W.Frag) : DSp := fun ws Q Y => ∃ d : D, ws = [.pu d] ∧ netB d = true ∧ (gatesOf d).length ≤ 9 ∧ (outsOf d).length ≤ 3 ∧ ∀ L : List D, (∀ x ∈ L, goodB x = true) → L.length ≤ 40 → Q (.ow (.lst L)) ws
end
end Lw

/-! text W -/
set_option Elab.async false
set_option linter.all false
set_option maxRecDepth 100000
set_option maxHeartbeats 0
namespace Lw
open PySem PySem.Spec PyProof.Rows L2 LamX DL
section
variable {P : Program} {w : World} {K : PySem.W.Frag} {mg : Str → Option Value} {base : Heap} {f : Addr} {cdv : Value} {A : Around} {outer : List Env} {s : Shared} {H : Hp} {vs : List V} {E : XK}
def N_is_within_bounds : List Str := ["thing", "least", "most"]
theorem sc_is_within_bounds : FnScope N_is_within_bounds ["thing", "least", "most"] (defScope st_is_within_bounds) := ⟨rfl, rfl, rfl, by decide +kernel, rfl, by decide +kernel, by decide +kernel⟩
def t_is_within_bounds (K : PySem.W.Frag) : DTS := dRet (dAndV (dCallP isiP (dCons (dVar 0) (dCons (dC (.ty "int")) (dNil)))) (dAndV (dNotV (dCallP isiP (dCons (dVar 0) (dCons (dC (.ty "bool")) (dNil))))) (dChain leP leP (dVar 1) (dVar 0) (dVar 2))))
theorem w_is_within_bounds (Z : Fx K mg)  (hr : Room 0 (A.deeper (PyProof.Rows.envOfC "is_within_bounds" (defScope st_is_within_bounds) s.heap.objs.size f cdv))) :
    DSs (cxOf (L2.CX P w) P w K mg base N_is_within_bounds "is_within_bounds" (defScope st_is_within_bounds) f cdv A outer s H E) ⟨K, TT K, vs⟩ (fun c d _ H' => E c d H') (defBody st_is_within_bounds) (t_is_within_bounds K) := by
  have nd : N_is_within_bounds.Nodup := sc_is_within_bounds.nd
  have hP : PassesOwn (model P w) (cxOf (L2.CX P w) P w K mg base N_is_within_bounds "is_within_bounds" (defScope st_is_within_bounds) f cdv A outer s H E).A (cxOf (L2.CX P w) P w K mg base N_is_within_bounds "is_within_bounds" (defScope st_is_within_bounds) f cdv A outer s H E).env (cxOf (L2.CX P w) P w K mg base N_is_within_bounds "is_within_bounds" (defScope st_is_within_bounds) f cdv A outer s H E).xe := passes_of rfl
  exact dss_one (ds_ret (de_and (de_blt call_isi (by rfl) Z.n_isinstance boot_isinstance pr_isi (da_cons (de_var 0 (pv 0)) (da_cons (de_tc (pe_bltn (v := .ty "int") (by rfl) Z.n_int boot_int (by rfl))) (da_nil)))) (de_and (de_not (de_blt call_isi (by rfl) Z.n_isinstance boot_isinstance pr_isi (da_cons (de_var 0 (pv 0)) (da_cons (de_tc (pe_bltn (v := .ty "bool") (by rfl) Z.n_bool boot_bool (by rfl))) (da_nil))))) (de_one (de_chain op_le op_le pr_le pr_le (de_var 1 (pv 1)) (de_var 0 (pv 0)) (de_var 2 (pv 2)))))))
def N_is_word : List Str := ["thing", "bit"]
theorem sc_is_word : FnScope N_is_word ["thing"] (defScope st_is_word) := ⟨rfl, rfl, rfl, by decide +kernel, rfl, by decide +kernel, by decide +kernel⟩
def t_is_word (K : PySem.W.Frag) : DTS := dRet (dAndV (dCallP isiP (dCons (dVar 0) (dCons (dC (.ty "str")) (dNil)))) (dAndV (dChain leP leP (dC (.int 1)) (dCallP lenP (dCons (dVar 0) (dNil))) (dC (.int 32))) (dCallP allP (dCons (dLc (dIt (dVar 0)) (dgName 1) (dYes) (dFz (dOp (inP false) (dVar 1) (dC (.str "01?")))) [1]) (dNil)))))
theorem w_is_word (Z : Fx K mg)  (hr : Room 0 (A.deeper (PyProof.Rows.envOfC "is_word" (defScope st_is_word) s.heap.objs.size f cdv))) :
    DSs (cxOf (L2.CX P w) P w K mg base N_is_word "is_word" (defScope st_is_word) f cdv A outer s H E) ⟨K, TT K, vs⟩ (fun c d _ H' => E c d H') (defBody st_is_word) (t_is_word K) := by
  have nd : N_is_word.Nodup := sc_is_word.nd
  have hP : PassesOwn (model P w) (cxOf (L2.CX P w) P w K mg base N_is_word "is_word" (defScope st_is_word) f cdv A outer s H E).A (cxOf (L2.CX P w) P w K mg base N_is_word "is_word" (defScope st_is_word) f cdv A outer s H E).env (cxOf (L2.CX P w) P w K mg base N_is_word "is_word" (defScope st_is_word) f cdv A outer s H E).xe := passes_of rfl
  exact dss_one (ds_ret (de_and (de_blt call_isi (by rfl) Z.n_isinstance boot_isinstance pr_isi (da_cons (de_var 0 (pv 0)) (da_cons (de_tc (pe_bltn (v := .ty "str") (by rfl) Z.n_str boot_str (by rfl))) (da_nil)))) (de_and (de_chain op_le op_le pr_le pr_le (de_tc pe_int) (de_blt call_len (by rfl) Z.n_len PySem.boot_len pr_len (da_cons (de_var 0 (pv 0)) (da_nil))) (de_tc (v := .int 32) (pe_glob (by rfl) Z.c_MOST_BITS.choose_spec ⟨_, rfl⟩))) (de_one (de_blt (cr_all rfl) (by rfl) Z.n_all boot_all pr_all (da_cons (de_lcA [("bit", 1)] rfl nd (di_any rfl (de_var 0 (pv 0))) (blkOk_by (N := N_is_word) (sc := defScope st_is_word) (by decide +kernel)) (by decide) (fun _ _ _ _ _ => dg_name (i := 1) nd rfl (by first | exact Or.inl rfl | exact Or.inr rfl)) (fun _ _ _ _ _ => dts_nil) (fun _ _ _ _ _ => de_fz (de_cmp op_inA pr_in (de_var 1 (pv 1)) (de_tc pe_str) (by with_unfolding_all rfl)))) (da_nil)))))))
def N_need_word : List Str := ["thing"]
theorem sc_need_word : FnScope N_need_word ["thing"] (defScope st_need_word) := ⟨rfl, rfl, rfl, by decide +kernel, rfl, by decide +kernel, by decide +kernel⟩
def t_need_word (K : PySem.W.Frag) : DTS := dIfS (dNot (dTst (dCall ((sp_is_word K)) (dCons (dFz (dVar 0)) (dNil))))) (dRaise (He.ga K "NoWord")) (dNext)
theorem w_need_word (Z : Fx K mg) (C_is_word : CallOk P w K mg base (TT K) 1 "is_word" ["thing"] (sp_is_word K)) (hr : Room 1 (A.deeper (PyProof.Rows.envOfC "need_word" (defScope st_need_word) s.heap.objs.size f cdv))) :
    DSs (cxOf (L2.CX P w) P w K mg base N_need_word "need_word" (defScope st_need_word) f cdv A outer s H E) ⟨K, TT K, vs⟩ (fun c d _ H' => E c d H') (defBody st_need_word) (t_need_word K) := by
  have nd : N_need_word.Nodup := sc_need_word.nd
  have hP : PassesOwn (model P w) (cxOf (L2.CX P w) P w K mg base N_need_word "need_word" (defScope st_need_word) f cdv A outer s H E).A (cxOf (L2.CX P w) P w K mg base N_need_word "need_word" (defScope st_need_word) f cdv A outer s H E).env (cxOf (L2.CX P w) P w K mg base N_need_word "need_word" (defScope st_need_word) f cdv A outer s H E).xe := passes_of rfl
  exact dss_one (ds_if (dt_not (dt_val (de_cf C_is_word rfl hr (by rfl) (takes_of rfl rfl rfl rfl) (da_cons (de_fz (de_var 0 (pv 0))) (da_nil))))) (dss_one (ds_raiseE Z.x_NoWord rfl (takes_of rfl rfl rfl rfl) (by rfl))) (dss_nil))
def N_is_gate : List Str := ["thing", "below", "number"]
theorem sc_is_gate : FnScope N_is_gate ["thing", "below"] (defScope st_is_gate) := ⟨rfl, rfl, rfl, by decide +kernel, rfl, by decide +kernel, by decide +kernel⟩
def t_is_gate (K : PySem.W.Frag) : DTS := dSeq (dIfS (dOr (dNot (dTst (dCallP isiP (dCons (dVar 0) (dCons (dC (.ty "tuple")) (dNil)))))) (dOr (dTst (dOp eqEP (dVar 0) (dTup (dNil)))) (dOr (dNot (dTst (dCallP isiP (dCons (dOp ixP (dVar 0) (dC (.int 0))) (dCons (dC (.ty "str")) (dNil)))))) (dTst (dOp (inTabP (He.ga K "PLACES") tab_PLACES true) (dOp ixP (dVar 0) (dC (.int 0))) (dC (.ref (He.ga K "PLACES")))))))) (dRet (dC (.bl false))) (dNext))
  (dSeq (dIfS (dTst (dOp (eqP true) (dCallP lenP (dCons (dVar 0) (dNil))) (dOp addP (dOp (ixTabP (He.ga K "PLACES") tab_PLACES) (dC (.ref (He.ga K "PLACES"))) (dOp ixP (dVar 0) (dC (.int 0)))) (dC (.int 1))))) (dRet (dC (.bl false))) (dNext))
  (dRet (dCallP allP (dCons (dLc (dIt (dSl slP (dVar 0) (dOSome (dC (.int 1))) dONo)) (dgName 2) (dYes) (dFz (dCall ((sp_is_within_bounds K)) (dCons (dFz (dVar 2)) (dCons (dC (.int 0)) (dCons (dFz (dOp subP (dVar 1) (dC (.int 1)))) (dNil)))))) [2]) (dNil)))))
theorem w_is_gate (Z : Fx K mg) (C_is_within_bounds : CallOk P w K mg base (TT K) 1 "is_within_bounds" ["thing", "least", "most"] (sp_is_within_bounds K)) (TB_PLACES : TabOk w K (He.ga K "PLACES") tab_PLACES) (hr : Room 1 (A.deeper (PyProof.Rows.envOfC "is_gate" (defScope st_is_gate) s.heap.objs.size f cdv))) :
    DSs (cxOf (L2.CX P w) P w K mg base N_is_gate "is_gate" (defScope st_is_gate) f cdv A outer s H E) ⟨K, TT K, vs⟩ (fun c d _ H' => E c d H') (defBody st_is_gate) (t_is_gate K) := by
  have nd : N_is_gate.Nodup := sc_is_gate.nd
  have hP : PassesOwn (model P w) (cxOf (L2.CX P w) P w K mg base N_is_gate "is_gate" (defScope st_is_gate) f cdv A outer s H E).A (cxOf (L2.CX P w) P w K mg base N_is_gate "is_gate" (defScope st_is_gate) f cdv A outer s H E).env (cxOf (L2.CX P w) P w K mg base N_is_gate "is_gate" (defScope st_is_gate) f cdv A outer s H E).xe := passes_of rfl
  exact dss_cons (ds_if (DW.dt (dw_or (dt_not (dt_val (de_blt call_isi (by rfl) Z.n_isinstance boot_isinstance pr_isi (da_cons (de_var 0 (pv 0)) (da_cons (de_tc (pe_bltn (v := .ty "tuple") (by rfl) Z.n_tuple bootT (by rfl))) (da_nil)))))) (dw_or (dt_cmp (op_eqE (hu64 hr)) pr_eqE (de_var 0 (pv 0)) (de_tup (da_nil)) (nomark _)) (dw_or (dt_not (dt_val (de_blt call_isi (by rfl) Z.n_isinstance boot_isinstance pr_isi (da_cons (de_ix ix_seq pr_ix (de_var 0 (pv 0)) (de_tc pe_int) (fun _ _ => rfl)) (da_cons (de_tc (pe_bltn (v := .ty "str") (by rfl) Z.n_str boot_str (by rfl))) (da_nil)))))) (dw_or1 (dt_cmp (op_notIn_kd TB_PLACES.kd.choose_spec.choose_spec) (pr_notInTab TB_PLACES) (de_ix ix_seq pr_ix (de_var 0 (pv 0)) (de_tc pe_int) (fun _ _ => rfl)) (de_tc (v := .ref (He.ga K "PLACES")) (pe_glob (by rfl) Z.g_PLACES rfl)) (by with_unfolding_all rfl))))))) (dss_one (ds_ret (de_tc pe_bl))) (dss_nil))
    (dss_cons (ds_if (dt_cmp (op_neA (hu64 hr)) pr_ne (de_blt call_len (by rfl) Z.n_len PySem.boot_len pr_len (da_cons (de_var 0 (pv 0)) (da_nil))) (de_op op_addD pr_add (de_ix ix_kdict (pr_ixTab TB_PLACES) (de_tc (v := .ref (He.ga K "PLACES")) (pe_glob (by rfl) Z.g_PLACES rfl)) (de_ix ix_seq pr_ix (de_var 0 (pv 0)) (de_tc pe_int) (fun _ _ => rfl)) (fun _ _ => rfl)) (de_tc pe_int)) (nomark _)) (dss_one (ds_ret (de_tc pe_bl))) (dss_nil))
    (dss_one (ds_ret (de_blt (cr_all rfl) (by rfl) Z.n_all boot_all pr_all (da_cons (de_lcA [("number", 2)] rfl nd (di_any rfl (de_slice sl_all pr_sl (de_var 0 (pv 0)) (do_some (de_tc pe_int)) do_none)) (blkOk_by (N := N_is_gate) (sc := defScope st_is_gate) (by decide +kernel)) (by decide) (fun _ _ _ _ _ => dg_name (i := 2) nd rfl (by first | exact Or.inl rfl | exact Or.inr rfl)) (fun _ _ _ _ _ => dts_nil) (fun _ _ _ _ _ => de_fz (de_cf C_is_within_bounds rfl hr (by rfl) takesF (da_cons (de_fz (de_var 2 (pv 2))) (da_cons (de_tc pe_int) (da_cons (de_fz (de_op op_sub pr_sub (de_var 1 (pv 1)) (de_tc pe_int))) (da_nil))))))) (da_nil))))))
def N_are_outs : List Str := ["thing", "below", "number"]
theorem sc_are_outs : FnScope N_are_outs ["thing", "below"] (defScope st_are_outs) := ⟨rfl, rfl, rfl, by decide +kernel, rfl, by decide +kernel, by decide +kernel⟩
def t_are_outs (K : PySem.W.Frag) : DTS := dSeq (dIfS (dOr (dNot (dTst (dCallP isiP (dCons (dVar 0) (dCons (dC (.ty "tuple")) (dNil)))))) (dNot (dTst (dChain leP leP (dC (.int 1)) (dCallP lenP (dCons (dVar 0) (dNil))) (dC (.int 32)))))) (dRet (dC (.bl false))) (dNext))
  (dRet (dCallP allP (dCons (dLc (dIt (dVar 0)) (dgName 2) (dYes) (dFz (dCall ((sp_is_within_bounds K)) (dCons (dFz (dVar 2)) (dCons (dC (.int 0)) (dCons (dFz (dOp subP (dVar 1) (dC (.int 1)))) (dNil)))))) [2]) (dNil))))
theorem w_are_outs (Z : Fx K mg) (C_is_within_bounds : CallOk P w K mg base (TT K) 1 "is_within_bounds" ["thing", "least", "most"] (sp_is_within_bounds K)) (hr : Room 1 (A.deeper (PyProof.Rows.envOfC "are_outs" (defScope st_are_outs) s.heap.objs.size f cdv))) :
    DSs (cxOf (L2.CX P w) P w K mg base N_are_outs "are_outs" (defScope st_are_outs) f cdv A outer s H E) ⟨K, TT K, vs⟩ (fun c d _ H' => E c d H') (defBody st_are_outs) (t_are_outs K) := by
  have nd : N_are_outs.Nodup := sc_are_outs.nd
  have hP : PassesOwn (model P w) (cxOf (L2.CX P w) P w K mg base N_are_outs "are_outs" (defScope st_are_outs) f cdv A outer s H E).A (cxOf (L2.CX P w) P w K mg base N_are_outs "are_outs" (defScope st_are_outs) f cdv A outer s H E).env (cxOf (L2.CX P w) P w K mg base N_are_outs "are_outs" (defScope st_are_outs) f cdv A outer s H E).xe := passes_of rfl
  exact dss_cons (ds_if (DW.dt (dw_or (dt_not (dt_val (de_blt call_isi (by rfl) Z.n_isinstance boot_isinstance pr_isi (da_cons (de_var 0 (pv 0)) (da_cons (de_tc (pe_bltn (v := .ty "tuple") (by rfl) Z.n_tuple bootT (by rfl))) (da_nil)))))) (dw_or1 (dt_not (dt_chain op_le op_le pr_le pr_le (de_tc pe_int) (de_blt call_len (by rfl) Z.n_len PySem.boot_len pr_len (da_cons (de_var 0 (pv 0)) (da_nil))) (de_tc (v := .int 32) (pe_glob (by rfl) Z.c_MOST_BITS.choose_spec ⟨_, rfl⟩))))))) (dss_one (ds_ret (de_tc pe_bl))) (dss_nil))
    (dss_one (ds_ret (de_blt (cr_all rfl) (by rfl) Z.n_all boot_all pr_all (da_cons (de_lcA [("number", 2)] rfl nd (di_any rfl (de_var 0 (pv 0))) (blkOk_by (N := N_are_outs) (sc := defScope st_are_outs) (by decide +kernel)) (by decide) (fun _ _ _ _ _ => dg_name (i := 2) nd rfl (by first | exact Or.inl rfl | exact Or.inr rfl)) (fun _ _ _ _ _ => dts_nil) (fun _ _ _ _ _ => de_fz (de_cf C_is_within_bounds rfl hr (by rfl) takesF (da_cons (de_fz (de_var 2 (pv 2))) (da_cons (de_tc pe_int) (da_cons (de_fz (de_op op_sub pr_sub (de_var 1 (pv 1)) (de_tc pe_int))) (da_nil))))))) (da_nil)))))
def N_is_net : List Str := ["thing", "n", "gates", "outs", "at", "gate"]
theorem sc_is_net : FnScope N_is_net ["thing"] (defScope st_is_net) := ⟨rfl, rfl, rfl, by decide +kernel, rfl, by decide +kernel, by decide +kernel⟩
def t_is_net (K : PySem.W.Frag) : DTS := dSeq (dIfS (dOr (dNot (dTst (dCallP isiP (dCons (dVar 0) (dCons (dC (.ty "tuple")) (dNil)))))) (dOr (dTst (dOp (eqP true) (dCallP lenP (dCons (dVar 0) (dNil))) (dC (.int 3)))) (dNot (dTst (dCall ((sp_is_within_bounds K)) (dCons (dFz (dOp ixP (dVar 0) (dC (.int 0)))) (dCons (dC (.int 1)) (dCons (dC (.int 32)) (dNil))))))))) (dRet (dC (.bl false))) (dNext))
  (dSeq (dAsg (dVar 0) (dgTup (dgCons (dgName 1) (dgCons (dgName 2) (dgCons (dgName 3) (dgNil))))))
  (dSeq (dIfS (dOr (dNot (dTst (dCallP isiP (dCons (dVar 2) (dCons (dC (.ty "tuple")) (dNil)))))) (dTst (dOp gtP (dCallP lenP (dCons (dVar 2) (dNil))) (dC (.int 100000))))) (dRet (dC (.bl false))) (dNext))
  (dSeq (dIfS (dNot (dTst (dCallP allP (dCons (dLc (dEnum (dCons (dFz (dVar 2)) (dNil))) (dgTup (dgCons (dgName 4) (dgCons (dgName 5) (dgNil)))) (dYes) (dFz (dCall ((sp_is_gate K)) (dCons (dFz (dVar 5)) (dCons (dFz (dOp addP (dVar 1) (dVar 4))) (dNil))))) [4, 5]) (dNil))))) (dRet (dC (.bl false))) (dNext))
  (dRet (dCall ((sp_are_outs K)) (dCons (dFz (dVar 3)) (dCons (dFz (dOp addP (dVar 1) (dCallP lenP (dCons (dVar 2) (dNil))))) (dNil))))))))
theorem w_is_net (Z : Fx K mg) (C_are_outs : CallOk P w K mg base (TT K) 2 "are_outs" ["thing", "below"] (sp_are_outs K)) (C_is_gate : CallOk P w K mg base (TT K) 2 "is_gate" ["thing", "below"] (sp_is_gate K)) (C_is_within_bounds : CallOk P w K mg base (TT K) 1 "is_within_bounds" ["thing", "least", "most"] (sp_is_within_bounds K)) (hr : Room 2 (A.deeper (PyProof.Rows.envOfC "is_net" (defScope st_is_net) s.heap.objs.size f cdv))) :
    DSs (cxOf (L2.CX P w) P w K mg base N_is_net "is_net" (defScope st_is_net) f cdv A outer s H E) ⟨K, TT K, vs⟩ (fun c d _ H' => E c d H') (defBody st_is_net) (t_is_net K) := by
  have nd : N_is_net.Nodup := sc_is_net.nd
  have hP : PassesOwn (model P w) (cxOf (L2.CX P w) P w K mg base N_is_net "is_net" (defScope st_is_net) f cdv A outer s H E).A (cxOf (L2.CX P w) P w K mg base N_is_net "is_net" (defScope st_is_net) f cdv A outer s H E).env (cxOf (L2.CX P w) P w K mg base N_is_net "is_net" (defScope st_is_net) f cdv A outer s H E).xe := passes_of rfl
  exact dss_cons (ds_if (DW.dt (dw_or (dt_not (dt_val (de_blt call_isi (by rfl) Z.n_isinstance boot_isinstance pr_isi (da_cons (de_var 0 (pv 0)) (da_cons (de_tc (pe_bltn (v := .ty "tuple") (by rfl) Z.n_tuple bootT (by rfl))) (da_nil)))))) (dw_or (dt_cmp (op_neA (hu64 hr)) pr_ne (de_blt call_len (by rfl) Z.n_len PySem.boot_len pr_len (da_cons (de_var 0 (pv 0)) (da_nil))) (de_tc pe_int) (nomark _)) (dw_or1 (dt_not (dt_val (de_cf C_is_within_bounds rfl hr (by rfl) (takes_of rfl rfl rfl rfl) (da_cons (de_fz (de_ix ix_seq pr_ix (de_var 0 (pv 0)) (de_tc pe_int) (fun _ _ => rfl))) (da_cons (de_tc pe_int) (da_cons (de_tc (v := .int 32) (pe_glob (by rfl) Z.c_MOST_BITS.choose_spec ⟨_, rfl⟩)) (da_nil))))))))))) (dss_one (ds_ret (de_tc pe_bl))) (dss_nil))
    (dss_cons (ds_asg (de_var 0 (pv 0)) (dg_tup rfl rfl (dgs_cons (dg_name (i := 1) nd rfl (by first | exact Or.inl rfl | exact Or.inr rfl)) (dgs_cons (dg_name (i := 2) nd rfl (by first | exact Or.inl rfl | exact Or.inr rfl)) (dgs_cons (dg_name (i := 3) nd rfl (by first | exact Or.inl rfl | exact Or.inr rfl)) (dgs_nil)))) (GL.len (gl_cons (gv_name) (gl_cons (gv_name) (gl_cons (gv_name) (gl_nil)))))))
    (dss_cons (ds_if (DW.dt (dw_or (dt_not (dt_val (de_blt call_isi (by rfl) Z.n_isinstance boot_isinstance pr_isi (da_cons (de_var 2 (pv 2)) (da_cons (de_tc (pe_bltn (v := .ty "tuple") (by rfl) Z.n_tuple bootT (by rfl))) (da_nil)))))) (dw_or1 (dt_cmp op_gt pr_gt (de_blt call_len (by rfl) Z.n_len PySem.boot_len pr_len (da_cons (de_var 2 (pv 2)) (da_nil))) (de_tc (v := .int 100000) (pe_glob (by rfl) Z.c_MOST_GATES.choose_spec ⟨_, rfl⟩)) (nomark _))))) (dss_one (ds_ret (de_tc pe_bl))) (dss_nil))
    (dss_cons (ds_if (dt_not (dt_val (de_blt (cr_all rfl) (by rfl) Z.n_all boot_all pr_all (da_cons (de_lcA [("at", 4), ("gate", 5)] rfl nd (di_en rfl (by rfl) Z.n_enumerate (da_cons (de_fz (de_var 2 (pv 2))) (da_nil))) (blkOk_by (N := N_is_net) (sc := defScope st_is_net) (by decide +kernel)) (by decide) (fun _ _ _ _ _ => dg_tup rfl rfl (dgs_cons (dg_name (i := 4) nd rfl (by first | exact Or.inl rfl | exact Or.inr rfl)) (dgs_cons (dg_name (i := 5) nd rfl (by first | exact Or.inl rfl | exact Or.inr rfl)) (dgs_nil))) (GL.len (gl_cons (gv_name) (gl_cons (gv_name) (gl_nil))))) (fun _ _ _ _ _ => dts_nil) (fun _ _ _ _ _ => de_fz (de_cf C_is_gate rfl hr (by rfl) takesF (da_cons (de_fz (de_var 5 (pv 5))) (da_cons (de_fz (de_op op_addD pr_add (de_var 1 (pv 1)) (de_var 4 (pv 4)))) (da_nil)))))) (da_nil))))) (dss_one (ds_ret (de_tc pe_bl))) (dss_nil))
    (dss_one (ds_ret (de_cf C_are_outs rfl hr (by rfl) (takes_of rfl rfl rfl rfl) (da_cons (de_fz (de_var 3 (pv 3))) (da_cons (de_fz (de_op op_addD pr_add (de_var 1 (pv 1)) (de_blt call_len (by rfl) Z.n_len PySem.boot_len pr_len (da_cons (de_var 2 (pv 2)) (da_nil))))) (da_nil)))))))))
def N_need_net : List Str := ["thing"]
theorem sc_need_net : FnScope N_need_net ["thing"] (defScope st_need_net) := ⟨rfl, rfl, rfl, by decide +kernel, rfl, by decide +kernel, by decide +kernel⟩
def t_need_net (K : PySem.W.Frag) : DTS := dIfS (dNot (dTst (dCall ((sp_is_net K)) (dCons (dFz (dVar 0)) (dNil))))) (dRaise (He.ga K "NoNet")) (dNext)
theorem w_need_net (Z : Fx K mg) (C_is_net : CallOk P w K mg base (TT K) 3 "is_net" ["thing"] (sp_is_net K)) (hr : Room 3 (A.deeper (PyProof.Rows.envOfC "need_net" (defScope st_need_net) s.heap.objs.size f cdv))) :
    DSs (cxOf (L2.CX P w) P w K mg base N_need_net "need_net" (defScope st_need_net) f cdv A outer s H E) ⟨K, TT K, vs⟩ (fun c d _ H' => E c d H') (defBody st_need_net) (t_need_net K) := by
  have nd : N_need_net.Nodup := sc_need_net.nd
  have hP : PassesOwn (model P w) (cxOf (L2.CX P w) P w K mg base N_need_net "need_net" (defScope st_need_net) f cdv A outer s H E).A (cxOf (L2.CX P w) P w K mg base N_need_net "need_net" (defScope st_need_net) f cdv A outer s H E).env (cxOf (L2.CX P w) P w K mg base N_need_net "need_net" (defScope st_need_net) f cdv A outer s H E).xe := passes_of rfl
  exact dss_one (ds_if (dt_not (dt_val (de_cf C_is_net rfl hr (by rfl) (takes_of rfl rfl rfl rfl) (da_cons (de_fz (de_var 0 (pv 0))) (da_nil))))) (dss_one (ds_raiseE Z.x_NoNet rfl (takes_of rfl rfl rfl rfl) (by rfl))) (dss_nil))
def N_told_by : List Str := ["gate", "bits", "one", "other", "strong"]
theorem sc_told_by : FnScope N_told_by ["gate", "bits"] (defScope st_told_by) := ⟨rfl, rfl, rfl, by decide +kernel, rfl, by decide +kernel, by decide +kernel⟩
def t_told_by (K : PySem.W.Frag) : DTS := dSeq (dIfS (dTst (dOp (inP false) (dOp ixP (dVar 0) (dC (.int 0))) (dTup (dCons (dC (.str "0")) (dCons (dC (.str "1")) (dNil)))))) (dRet (dOp ixP (dVar 0) (dC (.int 0)))) (dNext))
  (dSeq (dSet 2 (dOp ixP (dVar 1) (dOp ixP (dVar 0) (dC (.int 1)))))
  (dSeq (dIfS (dTst (dOp (eqP false) (dOp ixP (dVar 0) (dC (.int 0))) (dC (.str "not")))) (dRet (dDGet [(.inr "0", .str "1"), (.inr "1", .str "0")] (.str "?") (dVar 2))) (dNext))
  (dSeq (dPar 3 4 (dCons (dFz (dOp ixP (dVar 1) (dOp ixP (dVar 0) (dC (.int 2))))) (dCons (dFz (dIf (dTst (dOp (eqP false) (dOp ixP (dVar 0) (dC (.int 0))) (dC (.str "and")))) (dC (.str "0")) (dC (.str "1")))) (dNil))))
  (dSeq (dIfS (dTst (dOp (inP false) (dVar 4) (dTup (dCons (dFz (dVar 2)) (dCons (dFz (dVar 3)) (dNil)))))) (dRet (dVar 4)) (dNext))
  (dRet (dIf (dTst (dOp (eqP false) (dVar 2) (dVar 3))) (dVar 2) (dC (.str "?"))))))))
theorem w_told_by (Z : Fx K mg)  (hr : Room 0 (A.deeper (PyProof.Rows.envOfC "told_by" (defScope st_told_by) s.heap.objs.size f cdv))) :
    DSs (cxOf (L2.CX P w) P w K mg base N_told_by "told_by" (defScope st_told_by) f cdv A outer s H E) ⟨K, TT K, vs⟩ (fun c d _ H' => E c d H') (defBody st_told_by) (t_told_by K) := by
  have nd : N_told_by.Nodup := sc_told_by.nd
  have hP : PassesOwn (model P w) (cxOf (L2.CX P w) P w K mg base N_told_by "told_by" (defScope st_told_by) f cdv A outer s H E).A (cxOf (L2.CX P w) P w K mg base N_told_by "told_by" (defScope st_told_by) f cdv A outer s H E).env (cxOf (L2.CX P w) P w K mg base N_told_by "told_by" (defScope st_told_by) f cdv A outer s H E).xe := passes_of rfl
  exact dss_cons (ds_if (dt_cmp op_inA pr_in (de_ix ix_seq pr_ix (de_var 0 (pv 0)) (de_tc pe_int) (fun _ _ => rfl)) (de_tup (da_cons (de_tc pe_str) (da_cons (de_tc pe_str) (da_nil)))) (by with_unfolding_all rfl)) (dss_one (ds_ret (de_ix ix_seq pr_ix (de_var 0 (pv 0)) (de_tc pe_int) (fun _ _ => rfl)))) (dss_nil))
    (dss_cons (ds_set (i := 2) nd rfl (by first | exact Or.inl rfl | exact Or.inr rfl) (de_ix ix_seq pr_ix (de_var 1 (pv 1)) (de_ix ix_seq pr_ix (de_var 0 (pv 0)) (de_tc pe_int) (fun _ _ => rfl)) (fun _ _ => rfl)))
    (dss_cons (ds_if (dt_cmp (op_eqA (hu64 hr)) pr_eq (de_ix ix_seq pr_ix (de_var 0 (pv 0)) (de_tc pe_int) (fun _ _ => rfl)) (de_tc pe_str) (nomark _)) (dss_one (ds_ret (de_dget (kvs := [(.inr "0", .str "1"), (.inr "1", .str "0")]) (d := .str "?") (hu64 hr) (pps_cons pe_str pe_str (pps_cons pe_str pe_str (pps_nil))) (by rfl) (by rfl) (fun z => by cases z) (by decide) (by decide) (de_var 2 (pv 2)) pe_str ⟨by rfl, by rfl, by rfl, by rfl⟩))) (dss_nil))
    (dss_cons (ds_par (i := 3) (j := 4) rfl nd rfl rfl (by decide) rfl rfl (da_cons (de_fz (de_ix ix_seq pr_ix (de_var 1 (pv 1)) (de_ix ix_seq pr_ix (de_var 0 (pv 0)) (de_tc pe_int) (fun _ _ => rfl)) (fun _ _ => rfl))) (da_cons (de_fz (de_if (dt_cmp (op_eqA (hu64 hr)) pr_eq (de_ix ix_seq pr_ix (de_var 0 (pv 0)) (de_tc pe_int) (fun _ _ => rfl)) (de_tc pe_str) (nomark _)) (de_tc pe_str) (de_tc pe_str))) (da_nil))) rfl)
    (dss_cons (ds_if (dt_cmp op_inA pr_in (de_var 4 (pv 4)) (de_tup (da_cons (de_fz (de_var 2 (pv 2))) (da_cons (de_fz (de_var 3 (pv 3))) (da_nil)))) (by with_unfolding_all rfl)) (dss_one (ds_ret (de_var 4 (pv 4)))) (dss_nil))
    (dss_one (ds_ret (de_if (dt_cmp (op_eqA (hu64 hr)) pr_eq (de_var 2 (pv 2)) (de_var 3 (pv 3)) (nomark _)) (de_var 2 (pv 2)) (de_tc pe_str))))))))
def N_raw_run : List Str := ["net", "word", "bits", "gate", "out"]
theorem sc_raw_run : FnScope N_raw_run ["net", "word"] (defScope st_raw_run) := ⟨rfl, rfl, rfl, by decide +kernel, rfl, by decide +kernel, by decide +kernel⟩
def t_raw_run (K : PySem.W.Frag) : DTS := dSeq (dSet 2 (dCallP list2P (dCons (dVar 1) (dNil))))
  (dSeq (dFor (dIt (dOp ixP (dVar 0) (dC (.int 1)))) (dgName 3) (dDrop (dMi appP (dVar 2) (dCons (dFz (dCallB ((sp_told_by K)) (dCons (dVar 3) (dCons (dVar 2) (dNil))))) (dNil)))))
  (dRet (dMs joinP (dC (.str "")) (dCons (dLc (dIt (dOp ixP (dVar 0) (dC (.int 2)))) (dgName 4) (dYes) (dFz (dOp ixP (dVar 2) (dVar 4))) [4]) (dNil)))))
theorem w_raw_run (Z : Fx K mg) (C_told_by : CallOk P w K mg base (TT K) 1 "told_by" ["gate", "bits"] (sp_told_by K)) (hr : Room 1 (A.deeper (PyProof.Rows.envOfC "raw_run" (defScope st_raw_run) s.heap.objs.size f cdv))) :
    DSs (cxOf (L2.CX P w) P w K mg base N_raw_run "raw_run" (defScope st_raw_run) f cdv A outer s H E) ⟨K, TT K, vs⟩ (fun c d _ H' => E c d H') (defBody st_raw_run) (t_raw_run K) := by
  have nd : N_raw_run.Nodup := sc_raw_run.nd
  have hP : PassesOwn (model P w) (cxOf (L2.CX P w) P w K mg base N_raw_run "raw_run" (defScope st_raw_run) f cdv A outer s H E).A (cxOf (L2.CX P w) P w K mg base N_raw_run "raw_run" (defScope st_raw_run) f cdv A outer s H E).env (cxOf (L2.CX P w) P w K mg base N_raw_run "raw_run" (defScope st_raw_run) f cdv A outer s H E).xe := passes_of rfl
  exact dss_cons (ds_set (i := 2) nd rfl (by first | exact Or.inl rfl | exact Or.inr rfl) (de_bty (call_list2 rfl) (by rfl) Z.n_list bootL pr_list2 (da_cons (de_var 1 (pv 1)) (da_nil))))
    (dss_cons (ds_for hP rfl (di_any rfl (de_ix ix_seq pr_ix (de_var 0 (pv 0)) (de_tc pe_int) (fun _ _ => rfl))) (dg_name (i := 3) nd rfl (by first | exact Or.inl rfl | exact Or.inr rfl)) (dss_one (ds_expr (de_ml PySem.F.plainAttrs_list PySem.F.slot_list_append PySem.F.type_list_append mt_append pr_app rfl (de_var 2 (pv 2)) (da_cons (de_fz (de_cb C_told_by rfl hr (by rfl) (takes_of rfl rfl rfl rfl) (da_cons (de_var 3 (pv 3)) (da_cons (de_var 2 (pv 2)) (da_nil))))) (da_nil))))))
    (dss_one (ds_ret (de_mt PySem.F.plainAttrs_str PySem.F.slot_str_join PySem.F.type_str_join mt_join pr_join (de_tc pe_str) (da_cons (de_lcA [("out", 4)] rfl nd (di_any rfl (de_ix ix_seq pr_ix (de_var 0 (pv 0)) (de_tc pe_int) (fun _ _ => rfl))) (blkOk_by (N := N_raw_run) (sc := defScope st_raw_run) (by decide +kernel)) (by decide) (fun _ _ _ _ _ => dg_name (i := 4) nd rfl (by first | exact Or.inl rfl | exact Or.inr rfl)) (fun _ _ _ _ _ => dts_nil) (fun _ _ _ _ _ => de_fz (de_ix ix_seq pr_ix (de_var 2 (pv 2)) (de_var 4 (pv 4)) (fun _ _ => rfl)))) (da_nil))))))
def N_run : List Str := ["net", "word"]
theorem sc_run : FnScope N_run ["net", "word"] (defScope st_run) := ⟨rfl, rfl, rfl, by decide +kernel, rfl, by decide +kernel, by decide +kernel⟩
def t_run (K : PySem.W.Frag) : DTS := dSeq (dDrop (dCall ((sp_need_net K)) (dCons (dFz (dVar 0)) (dNil))))
  (dSeq (dDrop (dCall ((sp_need_word K)) (dCons (dFz (dVar 1)) (dNil))))
  (dSeq (dIfS (dTst (dOp (eqP true) (dCallP lenP (dCons (dVar 1) (dNil))) (dOp ixP (dVar 0) (dC (.int 0))))) (dRaise (He.ga K "NoMatch")) (dNext))
  (dRet (dCall ((sp_raw_run K)) (dCons (dFz (dVar 0)) (dCons (dFz (dVar 1)) (dNil)))))))
theorem w_run (Z : Fx K mg) (C_need_net : CallOk P w K mg base (TT K) 4 "need_net" ["thing"] (sp_need_net K)) (C_need_word : CallOk P w K mg base (TT K) 2 "need_word" ["thing"] (sp_need_word K)) (C_raw_run : CallOk P w K mg base (TT K) 2 "raw_run" ["net", "word"] (sp_raw_run K)) (hr : Room 4 (A.deeper (PyProof.Rows.envOfC "run" (defScope st_run) s.heap.objs.size f cdv))) :
    DSs (cxOf (L2.CX P w) P w K mg base N_run "run" (defScope st_run) f cdv A outer s H E) ⟨K, TT K, vs⟩ (fun c d _ H' => E c d H') (defBody st_run) (t_run K) := by
  have nd : N_run.Nodup := sc_run.nd
  have hP : PassesOwn (model P w) (cxOf (L2.CX P w) P w K mg base N_run "run" (defScope st_run) f cdv A outer s H E).A (cxOf (L2.CX P w) P w K mg base N_run "run" (defScope st_run) f cdv A outer s H E).env (cxOf (L2.CX P w) P w K mg base N_run "run" (defScope st_run) f cdv A outer s H E).xe := passes_of rfl
  exact dss_cons (ds_expr (de_cf C_need_net rfl hr (by rfl) (takes_of rfl rfl rfl rfl) (da_cons (de_fz (de_var 0 (pv 0))) (da_nil))))
    (dss_cons (ds_expr (de_cf C_need_word rfl hr (by rfl) (takes_of rfl rfl rfl rfl) (da_cons (de_fz (de_var 1 (pv 1))) (da_nil))))
    (dss_cons (ds_if (dt_cmp (op_neA (hu64 hr)) pr_ne (de_blt call_len (by rfl) Z.n_len PySem.boot_len pr_len (da_cons (de_var 1 (pv 1)) (da_nil))) (de_ix ix_seq pr_ix (de_var 0 (pv 0)) (de_tc pe_int) (fun _ _ => rfl)) (nomark _)) (dss_one (ds_raiseE Z.x_NoMatch rfl (takes_of rfl rfl rfl rfl) (by rfl))) (dss_nil))
    (dss_one (ds_ret (de_cf C_raw_run rfl hr (by rfl) (takes_of rfl rfl rfl rfl) (da_cons (de_fz (de_var 0 (pv 0))) (da_cons (de_fz (de_var 1 (pv 1))) (da_nil))))))))
def N__law_open : List Str := ["script", "cells", "k", "cell"]
theorem sc__law_open : FnScope N__law_open ["script"] (defScope st__law_open) := ⟨rfl, rfl, rfl, by decide +kernel, rfl, by decide +kernel, by decide +kernel⟩
def t__law_open (K : PySem.W.Frag) : DTS := dSeq (dSet 1 (dCallP listP (dCons (dSl slP (dVar 0) dONo (dOSome (dC (.int 12)))) (dNil))))
  (dSeq (dFor (dEnum (dCons (dFz (dSl slP (dVar 0) (dOSome (dC (.int 12))) (dOSome (dC (.int 63))))) (dNil))) (dgTup (dgCons (dgName 2) (dgCons (dgName 3) (dgNil)))) (dAsg (dOp addP (dOp ixP (dVar 1) (dOp modP (dCallP intP (dCons (dVar 2) (dNil))) (dC (.int 12)))) (dVar 3)) (dgSet (dVar 1) (dOp modP (dCallP intP (dCons (dVar 2) (dNil))) (dC (.int 12))))))
  (dRet (dLst (dCons (dFz (dVar 1)) (dCons (dC (.int 0)) (dCons (dC (.int 0)) (dNil)))))))
theorem w__law_open (Z : Fx K mg)  (hr : Room 0 (A.deeper (PyProof.Rows.envOfC "_law_open" (defScope st__law_open) s.heap.objs.size f cdv))) :
    DSs (cxOf (L2.CX P w) P w K mg base N__law_open "_law_open" (defScope st__law_open) f cdv A outer s H E) ⟨K, TT K, vs⟩ (fun c d _ H' => E c d H') (defBody st__law_open) (t__law_open K) := by
  have nd : N__law_open.Nodup := sc__law_open.nd
  have hP : PassesOwn (model P w) (cxOf (L2.CX P w) P w K mg base N__law_open "_law_open" (defScope st__law_open) f cdv A outer s H E).A (cxOf (L2.CX P w) P w K mg base N__law_open "_law_open" (defScope st__law_open) f cdv A outer s H E).env (cxOf (L2.CX P w) P w K mg base N__law_open "_law_open" (defScope st__law_open) f cdv A outer s H E).xe := passes_of rfl
  exact dss_cons (ds_set (i := 1) nd rfl (by first | exact Or.inl rfl | exact Or.inr rfl) (de_bty call_list_of (by rfl) Z.n_list bootL pr_list (da_cons (de_slice sl_all pr_sl (de_var 0 (pv 0)) do_none (do_some (de_tc pe_int))) (da_nil))))
    (dss_cons (ds_for hP rfl (di_en rfl (by rfl) Z.n_enumerate (da_cons (de_fz (de_slice sl_all pr_sl (de_var 0 (pv 0)) (do_some (de_tc pe_int)) (do_some (de_tc pe_int)))) (da_nil))) (dg_tup rfl rfl (dgs_cons (dg_name (i := 2) nd rfl (by first | exact Or.inl rfl | exact Or.inr rfl)) (dgs_cons (dg_name (i := 3) nd rfl (by first | exact Or.inl rfl | exact Or.inr rfl)) (dgs_nil))) (GL.len (gl_cons (gv_name) (gl_cons (gv_name) (gl_nil))))) (dss_one (ds_asg (de_op op_addD pr_add (de_ix ix_seq pr_ix (de_var 1 (pv 1)) (de_op op_mod pr_mod (de_bty call_int1 (by rfl) Z.n_int boot_int pr_int (da_cons (de_var 2 (pv 2)) (da_nil))) (de_tc pe_int)) (fun _ _ => rfl)) (de_var 3 (pv 3))) (dg_set (Wx := WxF) (de_var 1 (pv 1)) (de_op op_mod pr_mod (de_bty call_int1 (by rfl) Z.n_int boot_int pr_int (da_cons (de_var 2 (pv 2)) (da_nil))) (de_tc pe_int))))))
    (dss_one (ds_ret (de_lst (da_cons (de_fz (de_var 1 (pv 1))) (da_cons (de_tc pe_int) (da_cons (de_tc pe_int) (da_nil))))))))
def N__law_spread : List Str := ["cell", "k", "primes", "one", "two", "three"]
theorem sc__law_spread : FnScope N__law_spread ["cell", "k"] (defScope st__law_spread) := ⟨rfl, rfl, rfl, by decide +kernel, rfl, by decide +kernel, by decide +kernel⟩
def t__law_spread (K : PySem.W.Frag) : DTS := dSeq (dIfS (dTst (dOp geP (dVar 0) (dOp powP (dC (.int 10)) (dC (.int 18))))) (dRet (dVar 0)) (dNext))
  (dSeq (dSet 2 (dLst (dCons (dC (.int 2147483629)) (dCons (dC (.int 2147483587)) (dCons (dC (.int 2147483579)) (dCons (dC (.int 2147483563)) (dCons (dC (.int 2147483549)) (dCons (dC (.int 2147483543)) (dCons (dC (.int 2147483497)) (dCons (dC (.int 2147483489)) (dNil)))))))))))
  (dSeq (dSet 2 (dOp addP (dVar 2) (dLst (dCons (dC (.int 2147483477)) (dCons (dC (.int 2147483423)) (dCons (dC (.int 2147483399)) (dCons (dC (.int 2147483353)) (dCons (dC (.int 2147483323)) (dNil)))))))))
  (dSeq (dSet 3 (dOp mulP (dOp modP (dCallP intP (dCons (dVar 0) (dNil))) (dC (.int 1000000007))) (dOp addP (dOp mulP (dC (.int 2)) (dVar 1)) (dC (.int 69069)))))
  (dSeq (dSet 3 (dOp modP (dCallP intP (dCons (dOp powP (dOp addP (dOp addP (dVar 3) (dOp mulP (dVar 1) (dC (.int 40503)))) (dC (.int 977))) (dC (.int 3))) (dNil))) (dOp ixP (dVar 2) (dOp modP (dCallP intP (dCons (dVar 1) (dNil))) (dC (.int 13))))))
  (dSeq (dSet 4 (dOp modP (dCallP intP (dCons (dOp powP (dOp addP (dOp addP (dOp mulP (dVar 3) (dOp addP (dVar 1) (dC (.int 3)))) (dOp modP (dCallP intP (dCons (dVar 0) (dNil))) (dC (.int 65537)))) (dC (.int 5))) (dC (.int 5))) (dNil))) (dOp ixP (dVar 2) (dOp modP (dCallP intP (dCons (dOp addP (dVar 1) (dC (.int 5))) (dNil))) (dC (.int 13))))))
  (dSeq (dSet 5 (dOp modP (dCallP intP (dCons (dOp powP (dOp addP (dOp addP (dVar 4) (dOp modP (dCallP intP (dCons (dVar 3) (dNil))) (dC (.int 1009)))) (dVar 1)) (dC (.int 3))) (dNil))) (dOp ixP (dVar 2) (dOp modP (dCallP intP (dCons (dOp addP (dVar 1) (dC (.int 7))) (dNil))) (dC (.int 13))))))
  (dRet (dOp addP (dOp mulP (dOp addP (dOp mulP (dVar 3) (dC (.int 2147483647))) (dVar 4)) (dC (.int 2147483647))) (dVar 5)))))))))
theorem w__law_spread (Z : Fx K mg)  (hr : Room 0 (A.deeper (PyProof.Rows.envOfC "_law_spread" (defScope st__law_spread) s.heap.objs.size f cdv))) :
    DSs (cxOf (L2.CX P w) P w K mg base N__law_spread "_law_spread" (defScope st__law_spread) f cdv A outer s H E) ⟨K, TT K, vs⟩ (fun c d _ H' => E c d H') (defBody st__law_spread) (t__law_spread K) := by
  have nd : N__law_spread.Nodup := sc__law_spread.nd
  have hP : PassesOwn (model P w) (cxOf (L2.CX P w) P w K mg base N__law_spread "_law_spread" (defScope st__law_spread) f cdv A outer s H E).A (cxOf (L2.CX P w) P w K mg base N__law_spread "_law_spread" (defScope st__law_spread) f cdv A outer s H E).env (cxOf (L2.CX P w) P w K mg base N__law_spread "_law_spread" (defScope st__law_spread) f cdv A outer s H E).xe := passes_of rfl
  exact dss_cons (ds_if (dt_cmp op_ge pr_ge (de_var 0 (pv 0)) (de_op op_pow pr_pow (de_tc pe_int) (de_tc pe_int)) (nomark _)) (dss_one (ds_ret (de_var 0 (pv 0)))) (dss_nil))
    (dss_cons (ds_set (i := 2) nd rfl (by first | exact Or.inl rfl | exact Or.inr rfl) (de_lst (da_cons (de_tc pe_int) (da_cons (de_tc pe_int) (da_cons (de_tc pe_int) (da_cons (de_tc pe_int) (da_cons (de_tc pe_int) (da_cons (de_tc pe_int) (da_cons (de_tc pe_int) (da_cons (de_tc pe_int) (da_nil)))))))))))
    (dss_cons (ds_set (i := 2) nd rfl (by first | exact Or.inl rfl | exact Or.inr rfl) (de_op op_addD pr_add (de_var 2 (pv 2)) (de_lst (da_cons (de_tc pe_int) (da_cons (de_tc pe_int) (da_cons (de_tc pe_int) (da_cons (de_tc pe_int) (da_cons (de_tc pe_int) (da_nil)))))))))
    (dss_cons (ds_set (i := 3) nd rfl (by first | exact Or.inl rfl | exact Or.inr rfl) (de_op op_mulD pr_mul (de_op op_mod pr_mod (de_bty call_int1 (by rfl) Z.n_int boot_int pr_int (da_cons (de_var 0 (pv 0)) (da_nil))) (de_tc pe_int)) (de_op op_addD pr_add (de_op op_mulD pr_mul (de_tc pe_int) (de_var 1 (pv 1))) (de_tc pe_int))))
    (dss_cons (ds_set (i := 3) nd rfl (by first | exact Or.inl rfl | exact Or.inr rfl) (de_op op_mod pr_mod (de_bty call_int1 (by rfl) Z.n_int boot_int pr_int (da_cons (de_op op_pow pr_pow (de_op op_addD pr_add (de_op op_addD pr_add (de_var 3 (pv 3)) (de_op op_mulD pr_mul (de_var 1 (pv 1)) (de_tc pe_int))) (de_tc pe_int)) (de_tc pe_int)) (da_nil))) (de_ix ix_seq pr_ix (de_var 2 (pv 2)) (de_op op_mod pr_mod (de_bty call_int1 (by rfl) Z.n_int boot_int pr_int (da_cons (de_var 1 (pv 1)) (da_nil))) (de_tc pe_int)) (fun _ _ => rfl))))
    (dss_cons (ds_set (i := 4) nd rfl (by first | exact Or.inl rfl | exact Or.inr rfl) (de_op op_mod pr_mod (de_bty call_int1 (by rfl) Z.n_int boot_int pr_int (da_cons (de_op op_pow pr_pow (de_op op_addD pr_add (de_op op_addD pr_add (de_op op_mulD pr_mul (de_var 3 (pv 3)) (de_op op_addD pr_add (de_var 1 (pv 1)) (de_tc pe_int))) (de_op op_mod pr_mod (de_bty call_int1 (by rfl) Z.n_int boot_int pr_int (da_cons (de_var 0 (pv 0)) (da_nil))) (de_tc pe_int))) (de_tc pe_int)) (de_tc pe_int)) (da_nil))) (de_ix ix_seq pr_ix (de_var 2 (pv 2)) (de_op op_mod pr_mod (de_bty call_int1 (by rfl) Z.n_int boot_int pr_int (da_cons (de_op op_addD pr_add (de_var 1 (pv 1)) (de_tc pe_int)) (da_nil))) (de_tc pe_int)) (fun _ _ => rfl))))
    (dss_cons (ds_set (i := 5) nd rfl (by first | exact Or.inl rfl | exact Or.inr rfl) (de_op op_mod pr_mod (de_bty call_int1 (by rfl) Z.n_int boot_int pr_int (da_cons (de_op op_pow pr_pow (de_op op_addD pr_add (de_op op_addD pr_add (de_var 4 (pv 4)) (de_op op_mod pr_mod (de_bty call_int1 (by rfl) Z.n_int boot_int pr_int (da_cons (de_var 3 (pv 3)) (da_nil))) (de_tc pe_int))) (de_var 1 (pv 1))) (de_tc pe_int)) (da_nil))) (de_ix ix_seq pr_ix (de_var 2 (pv 2)) (de_op op_mod pr_mod (de_bty call_int1 (by rfl) Z.n_int boot_int pr_int (da_cons (de_op op_addD pr_add (de_var 1 (pv 1)) (de_tc pe_int)) (da_nil))) (de_tc pe_int)) (fun _ _ => rfl))))
    (dss_one (ds_ret (de_op op_addD pr_add (de_op op_mulD pr_mul (de_op op_addD pr_add (de_op op_mulD pr_mul (de_var 3 (pv 3)) (de_tc pe_int)) (de_var 4 (pv 4))) (de_tc pe_int)) (de_var 5 (pv 5)))))))))))
def N__law_take : List Str := ["pen", "many", "k", "cell", "found"]
theorem sc__law_take : FnScope N__law_take ["pen", "many"] (defScope st__law_take) := ⟨rfl, rfl, rfl, by decide +kernel, rfl, by decide +kernel, by decide +kernel⟩
def t__law_take (K : PySem.W.Frag) : DTS := dSeq (dIfS (dTst (dOp ltP (dOp ixP (dVar 0) (dC (.int 2))) (dVar 1))) (dSeq (dSet 2 (dOp ixP (dVar 0) (dC (.int 1))))
  (dSeq (dSet 3 (dC (.int 0)))
  (dSeq (dIfS (dTst (dOp ltP (dVar 2) (dCallP lenP (dCons (dOp ixP (dVar 0) (dC (.int 0))) (dNil))))) (dSet 3 (dOp ixP (dOp ixP (dVar 0) (dC (.int 0))) (dVar 2))) (dIfS (dTst (dOp gtP (dCallP lenP (dCons (dOp ixP (dVar 0) (dC (.int 0))) (dNil))) (dC (.int 0)))) (dSet 3 (dOp modP (dCallP intP (dCons (dOp ixP (dOp ixP (dVar 0) (dC (.int 0))) (dOp modP (dCallP intP (dCons (dOp addP (dOp mulP (dVar 2) (dC (.int 5))) (dC (.int 3))) (dNil))) (dCallP lenP (dCons (dOp ixP (dVar 0) (dC (.int 0))) (dNil))))) (dNil))) (dOp addP (dOp powP (dC (.int 10)) (dC (.int 17))) (dVar 2)))) (dNext)))
  (dSeq (dAsg (dOp addP (dVar 2) (dC (.int 1))) (dgSet (dVar 0) (dC (.int 1))))
  (dAsg (dCall ((sp__law_spread K)) (dCons (dFz (dVar 3)) (dCons (dFz (dVar 2)) (dNil)))) (dgSet (dVar 0) (dC (.int 2)))))))) (dNext))
  (dSeq (dSet 4 (dOp modP (dCallP intP (dCons (dOp ixP (dVar 0) (dC (.int 2))) (dNil))) (dVar 1)))
  (dSeq (dAsg (dOp divP (dOp ixP (dVar 0) (dC (.int 2))) (dVar 1)) (dgSet (dVar 0) (dC (.int 2))))
  (dRet (dVar 4))))
theorem w__law_take (Z : Fx K mg) (C__law_spread : CallOk P w K mg base (TT K) 1 "_law_spread" ["cell", "k"] (sp__law_spread K)) (hr : Room 1 (A.deeper (PyProof.Rows.envOfC "_law_take" (defScope st__law_take) s.heap.objs.size f cdv))) :
    DSs (cxOf (L2.CX P w) P w K mg base N__law_take "_law_take" (defScope st__law_take) f cdv A outer s H E) ⟨K, TT K, vs⟩ (fun c d _ H' => E c d H') (defBody st__law_take) (t__law_take K) := by
  have nd : N__law_take.Nodup := sc__law_take.nd
  have hP : PassesOwn (model P w) (cxOf (L2.CX P w) P w K mg base N__law_take "_law_take" (defScope st__law_take) f cdv A outer s H E).A (cxOf (L2.CX P w) P w K mg base N__law_take "_law_take" (defScope st__law_take) f cdv A outer s H E).env (cxOf (L2.CX P w) P w K mg base N__law_take "_law_take" (defScope st__law_take) f cdv A outer s H E).xe := passes_of rfl
  exact dss_cons (ds_if (dt_cmp op_lt pr_lt (de_ix ix_seq pr_ix (de_var 0 (pv 0)) (de_tc pe_int) (fun _ _ => rfl)) (de_var 1 (pv 1)) (nomark _)) (dss_cons (ds_set (i := 2) nd rfl (by first | exact Or.inl rfl | exact Or.inr rfl) (de_ix ix_seq pr_ix (de_var 0 (pv 0)) (de_tc pe_int) (fun _ _ => rfl)))
    (dss_cons (ds_set (i := 3) nd rfl (by first | exact Or.inl rfl | exact Or.inr rfl) (de_tc pe_int))
    (dss_cons (ds_if (dt_cmp op_lt pr_lt (de_var 2 (pv 2)) (de_blt call_len (by rfl) Z.n_len PySem.boot_len pr_len (da_cons (de_ix ix_seq pr_ix (de_var 0 (pv 0)) (de_tc pe_int) (fun _ _ => rfl)) (da_nil))) (nomark _)) (dss_one (ds_set (i := 3) nd rfl (by first | exact Or.inl rfl | exact Or.inr rfl) (de_ix ix_seq pr_ix (de_ix ix_seq pr_ix (de_var 0 (pv 0)) (de_tc pe_int) (fun _ _ => rfl)) (de_var 2 (pv 2)) (fun _ _ => rfl)))) (dss_one (ds_if (dt_cmp op_gt pr_gt (de_blt call_len (by rfl) Z.n_len PySem.boot_len pr_len (da_cons (de_ix ix_seq pr_ix (de_var 0 (pv 0)) (de_tc pe_int) (fun _ _ => rfl)) (da_nil))) (de_tc pe_int) (nomark _)) (dss_one (ds_set (i := 3) nd rfl (by first | exact Or.inl rfl | exact Or.inr rfl) (de_op op_mod pr_mod (de_bty call_int1 (by rfl) Z.n_int boot_int pr_int (da_cons (de_ix ix_seq pr_ix (de_ix ix_seq pr_ix (de_var 0 (pv 0)) (de_tc pe_int) (fun _ _ => rfl)) (de_op op_mod pr_mod (de_bty call_int1 (by rfl) Z.n_int boot_int pr_int (da_cons (de_op op_addD pr_add (de_op op_mulD pr_mul (de_var 2 (pv 2)) (de_tc pe_int)) (de_tc pe_int)) (da_nil))) (de_blt call_len (by rfl) Z.n_len PySem.boot_len pr_len (da_cons (de_ix ix_seq pr_ix (de_var 0 (pv 0)) (de_tc pe_int) (fun _ _ => rfl)) (da_nil)))) (fun _ _ => rfl)) (da_nil))) (de_op op_addD pr_add (de_op op_pow pr_pow (de_tc pe_int) (de_tc pe_int)) (de_var 2 (pv 2)))))) (dss_nil))))
    (dss_cons (ds_asg (de_op op_addD pr_add (de_var 2 (pv 2)) (de_tc pe_int)) (dg_set (Wx := WxF) (de_var 0 (pv 0)) (de_tc pe_int)))
    (dss_one (ds_asg (de_cf C__law_spread rfl hr (by rfl) (takes_of rfl rfl rfl rfl) (da_cons (de_fz (de_var 3 (pv 3))) (da_cons (de_fz (de_var 2 (pv 2))) (da_nil)))) (dg_set (Wx := WxF) (de_var 0 (pv 0)) (de_tc pe_int)))))))) (dss_nil))
    (dss_cons (ds_set (i := 4) nd rfl (by first | exact Or.inl rfl | exact Or.inr rfl) (de_op op_mod pr_mod (de_bty call_int1 (by rfl) Z.n_int boot_int pr_int (da_cons (de_ix ix_seq pr_ix (de_var 0 (pv 0)) (de_tc pe_int) (fun _ _ => rfl)) (da_nil))) (de_var 1 (pv 1))))
    (dss_cons (ds_asg (de_op op_fdivW pr_div (de_ix ix_seq pr_ix (de_var 0 (pv 0)) (de_tc pe_int) (fun _ _ => rfl)) (de_var 1 (pv 1))) (dg_set (Wx := WxF) (de_var 0 (pv 0)) (de_tc pe_int)))
    (dss_one (ds_ret (de_var 4 (pv 4))))))
def N__law_one_of : List Str := ["pen", "some"]
theorem sc__law_one_of : FnScope N__law_one_of ["pen", "some"] (defScope st__law_one_of) := ⟨rfl, rfl, rfl, by decide +kernel, rfl, by decide +kernel, by decide +kernel⟩
def t__law_one_of (K : PySem.W.Frag) : DTS := dRet (dOp ixP (dVar 1) (dCall ((sp__law_take K)) (dCons (dVar 0) (dCons (dFz (dCallP lenP (dCons (dVar 1) (dNil)))) (dNil)))))
theorem w__law_one_of (Z : Fx K mg) (C__law_take : CallOk P w K mg base (TT K) 2 "_law_take" ["pen", "many"] (sp__law_take K)) (hr : Room 2 (A.deeper (PyProof.Rows.envOfC "_law_one_of" (defScope st__law_one_of) s.heap.objs.size f cdv))) :
    DSs (cxOf (L2.CX P w) P w K mg base N__law_one_of "_law_one_of" (defScope st__law_one_of) f cdv A outer s H E) ⟨K, TT K, vs⟩ (fun c d _ H' => E c d H') (defBody st__law_one_of) (t__law_one_of K) := by
  have nd : N__law_one_of.Nodup := sc__law_one_of.nd
  have hP : PassesOwn (model P w) (cxOf (L2.CX P w) P w K mg base N__law_one_of "_law_one_of" (defScope st__law_one_of) f cdv A outer s H E).A (cxOf (L2.CX P w) P w K mg base N__law_one_of "_law_one_of" (defScope st__law_one_of) f cdv A outer s H E).env (cxOf (L2.CX P w) P w K mg base N__law_one_of "_law_one_of" (defScope st__law_one_of) f cdv A outer s H E).xe := passes_of rfl
  exact dss_one (ds_ret (de_ix ix_seq pr_ix (de_var 1 (pv 1)) (de_cf C__law_take rfl hr (by rfl) (takes_of rfl rfl rfl rfl) (da_cons (de_var 0 (pv 0)) (da_cons (de_fz (de_blt call_len (by rfl) Z.n_len PySem.boot_len pr_len (da_cons (de_var 1 (pv 1)) (da_nil)))) (da_nil)))) (fun _ _ => rfl)))
def N__law_settled : List Str := ["word", "found", "bit", "longer", "start", "one"]
theorem sc__law_settled : FnScope N__law_settled ["word"] (defScope st__law_settled) := ⟨rfl, rfl, rfl, by decide +kernel, rfl, by decide +kernel, by decide +kernel⟩
def t__law_settled (K : PySem.W.Frag) : DTS := dSeq (dSet 1 (dLst (dCons (dC (.str "")) (dNil))))
  (dSeq (dFor (dIt (dVar 0)) (dgName 2) (dSeq (dSet 3 (dLst (dNil)))
  (dSeq (dFor (dIt (dVar 1)) (dgName 4) (dSet 3 (dOp addP (dVar 3) (dLc (dIt (dC (.str "01"))) (dgName 5) (dTst (dOp (inP false) (dVar 2) (dLst (dCons (dFz (dVar 5)) (dCons (dC (.str "?")) (dNil)))))) (dFz (dOp addP (dVar 4) (dVar 5))) [5]))))
  (dSet 1 (dVar 3)))))
  (dRet (dVar 1)))
theorem w__law_settled (Z : Fx K mg)  (hr : Room 0 (A.deeper (PyProof.Rows.envOfC "_law_settled" (defScope st__law_settled) s.heap.objs.size f cdv))) :
    DSs (cxOf (L2.CX P w) P w K mg base N__law_settled "_law_settled" (defScope st__law_settled) f cdv A outer s H E) ⟨K, TT K, vs⟩ (fun c d _ H' => E c d H') (defBody st__law_settled) (t__law_settled K) := by
  have nd : N__law_settled.Nodup := sc__law_settled.nd
  have hP : PassesOwn (model P w) (cxOf (L2.CX P w) P w K mg base N__law_settled "_law_settled" (defScope st__law_settled) f cdv A outer s H E).A (cxOf (L2.CX P w) P w K mg base N__law_settled "_law_settled" (defScope st__law_settled) f cdv A outer s H E).env (cxOf (L2.CX P w) P w K mg base N__law_settled "_law_settled" (defScope st__law_settled) f cdv A outer s H E).xe := passes_of rfl
  exact dss_cons (ds_set (i := 1) nd rfl (by first | exact Or.inl rfl | exact Or.inr rfl) (de_lst (da_cons (de_tc pe_str) (da_nil))))
    (dss_cons (ds_for hP rfl (di_any rfl (de_var 0 (pv 0))) (dg_name (i := 2) nd rfl (by first | exact Or.inl rfl | exact Or.inr rfl)) (dss_cons (ds_set (i := 3) nd rfl (by first | exact Or.inl rfl | exact Or.inr rfl) (de_lst (da_nil)))
    (dss_cons (ds_for hP rfl (di_any rfl (de_var 1 (pv 1))) (dg_name (i := 4) nd rfl (by first | exact Or.inl rfl | exact Or.inr rfl)) (dss_one (ds_set (i := 3) nd rfl (by first | exact Or.inl rfl | exact Or.inr rfl) (de_op op_addD pr_add (de_var 3 (pv 3)) (de_lcA [("one", 5)] rfl nd (di_any rfl (de_tc pe_str)) (blkOk_by (N := N__law_settled) (sc := defScope st__law_settled) (by decide +kernel)) (by decide) (fun _ _ _ _ _ => dg_name (i := 5) nd rfl (by first | exact Or.inl rfl | exact Or.inr rfl)) (fun _ _ _ _ _ => dts_one (dt_cmp op_inA pr_in (de_var 2 (pv 2)) (de_lst (da_cons (de_fz (de_var 5 (pv 5))) (da_cons (de_tc pe_str) (da_nil)))) (by with_unfolding_all rfl))) (fun _ _ _ _ _ => de_fz (de_op op_addD pr_add (de_var 4 (pv 4)) (de_var 5 (pv 5)))))))))
    (dss_one (ds_set (i := 1) nd rfl (by first | exact Or.inl rfl | exact Or.inr rfl) (de_var 3 (pv 3)))))))
    (dss_one (ds_ret (de_var 1 (pv 1)))))
def N__law_joined : List Str := ["words", "found", "k", "bits", "word"]
theorem sc__law_joined : FnScope N__law_joined ["words"] (defScope st__law_joined) := ⟨rfl, rfl, rfl, by decide +kernel, rfl, by decide +kernel, by decide +kernel⟩
def t__law_joined (K : PySem.W.Frag) : DTS := dSeq (dSet 1 (dC (.str "")))
  (dSeq (dFor (dRng1 (dCons (dCallP lenP (dCons (dOp ixP (dVar 0) (dC (.int 0))) (dNil))) (dNil))) (dgName 2) (dSeq (dSet 3 (dLc (dIt (dVar 0)) (dgName 4) (dYes) (dFz (dOp ixP (dVar 4) (dVar 2))) [4]))
  (dSet 1 (dOp addP (dVar 1) (dIf (dTst (dOp (eqP false) (dMl lcountP (dVar 3) (dCons (dOp ixP (dVar 3) (dC (.int 0))) (dNil))) (dCallP lenP (dCons (dVar 3) (dNil))))) (dOp ixP (dVar 3) (dC (.int 0))) (dC (.str "?")))))))
  (dRet (dVar 1)))
theorem w__law_joined (Z : Fx K mg)  (hr : Room 0 (A.deeper (PyProof.Rows.envOfC "_law_joined" (defScope st__law_joined) s.heap.objs.size f cdv))) :
    DSs (cxOf (L2.CX P w) P w K mg base N__law_joined "_law_joined" (defScope st__law_joined) f cdv A outer s H E) ⟨K, TT K, vs⟩ (fun c d _ H' => E c d H') (defBody st__law_joined) (t__law_joined K) := by
  have nd : N__law_joined.Nodup := sc__law_joined.nd
  have hP : PassesOwn (model P w) (cxOf (L2.CX P w) P w K mg base N__law_joined "_law_joined" (defScope st__law_joined) f cdv A outer s H E).A (cxOf (L2.CX P w) P w K mg base N__law_joined "_law_joined" (defScope st__law_joined) f cdv A outer s H E).env (cxOf (L2.CX P w) P w K mg base N__law_joined "_law_joined" (defScope st__law_joined) f cdv A outer s H E).xe := passes_of rfl
  exact dss_cons (ds_set (i := 1) nd rfl (by first | exact Or.inl rfl | exact Or.inr rfl) (de_tc pe_str))
    (dss_cons (ds_for hP rfl (di_rng1 (by rfl) Z.n_range (da_cons (de_blt call_len (by rfl) Z.n_len PySem.boot_len pr_len (da_cons (de_ix ix_seq pr_ix (de_var 0 (pv 0)) (de_tc pe_int) (fun _ _ => rfl)) (da_nil))) (da_nil))) (dg_name (i := 2) nd rfl (by first | exact Or.inl rfl | exact Or.inr rfl)) (dss_cons ((by first | exact ds_setLcA [("word", 4)] rfl nd (i := 3) rfl rfl (sw_true rfl rfl rfl (by decide +kernel)) (di_any rfl (de_var 0 (pv 0))) (blkOk_by (N := N__law_joined) (sc := defScope st__law_joined) (by decide +kernel)) (by decide) (fun _ _ _ _ _ => dg_name (i := 4) nd rfl (by first | exact Or.inl rfl | exact Or.inr rfl)) (fun _ _ _ _ _ => dts_nil) (fun _ _ _ _ _ => de_fz (de_ix ix_seq pr_ix (de_var 4 (pv 4)) (de_var 2 (pv 2)) (fun _ _ => rfl))) | exact ds_set (i := 3) nd rfl (by first | exact Or.inl rfl | exact Or.inr rfl) (de_lcA [("word", 4)] rfl nd  (di_any rfl (de_var 0 (pv 0))) (blkOk_by (N := N__law_joined) (sc := defScope st__law_joined) (by decide +kernel)) (by decide) (fun _ _ _ _ _ => dg_name (i := 4) nd rfl (by first | exact Or.inl rfl | exact Or.inr rfl)) (fun _ _ _ _ _ => dts_nil) (fun _ _ _ _ _ => de_fz (de_ix ix_seq pr_ix (de_var 4 (pv 4)) (de_var 2 (pv 2)) (fun _ _ => rfl))))))
    (dss_one (ds_set (i := 1) nd rfl (by first | exact Or.inl rfl | exact Or.inr rfl) (de_op op_addD pr_add (de_var 1 (pv 1)) (de_if (dt_cmp (op_eqA (hu64 hr)) pr_eq (de_mlr PySem.F.plainAttrs_list PySem.F.slot_list_count PySem.F.type_list_count mt_lcountA rfl pr_lcount (de_var 3 (pv 3)) (da_cons (de_ix ix_seq pr_ix (de_var 3 (pv 3)) (de_tc pe_int) (fun _ _ => rfl)) (da_nil))) (de_blt call_len (by rfl) Z.n_len PySem.boot_len pr_len (da_cons (de_var 3 (pv 3)) (da_nil))) (nomark _)) (de_ix ix_seq pr_ix (de_var 3 (pv 3)) (de_tc pe_int) (fun _ _ => rfl)) (de_tc pe_str)))))))
    (dss_one (ds_ret (de_var 1 (pv 1)))))
def N__law_is_within : List Str := ["word", "other", "one", "two"]
theorem sc__law_is_within : FnScope N__law_is_within ["word", "other"] (defScope st__law_is_within) := ⟨rfl, rfl, rfl, by decide +kernel, rfl, by decide +kernel, by decide +kernel⟩
def t__law_is_within (K : PySem.W.Frag) : DTS := dRet (dOp (eqP false) (dLc (dZip false (dCons (dFz (dVar 0)) (dCons (dFz (dVar 1)) (dNil)))) (dgTup (dgCons (dgName 2) (dgCons (dgName 3) (dgNil)))) (dAnd (dTst (dOp (eqP true) (dVar 3) (dC (.str "?")))) (dTst (dOp (eqP true) (dVar 3) (dVar 2)))) (dC (.int 1)) [2, 3]) (dLst (dNil)))
theorem w__law_is_within (Z : Fx K mg)  (hr : Room 0 (A.deeper (PyProof.Rows.envOfC "_law_is_within" (defScope st__law_is_within) s.heap.objs.size f cdv))) :
    DSs (cxOf (L2.CX P w) P w K mg base N__law_is_within "_law_is_within" (defScope st__law_is_within) f cdv A outer s H E) ⟨K, TT K, vs⟩ (fun c d _ H' => E c d H') (defBody st__law_is_within) (t__law_is_within K) := by
  have nd : N__law_is_within.Nodup := sc__law_is_within.nd
  have hP : PassesOwn (model P w) (cxOf (L2.CX P w) P w K mg base N__law_is_within "_law_is_within" (defScope st__law_is_within) f cdv A outer s H E).A (cxOf (L2.CX P w) P w K mg base N__law_is_within "_law_is_within" (defScope st__law_is_within) f cdv A outer s H E).env (cxOf (L2.CX P w) P w K mg base N__law_is_within "_law_is_within" (defScope st__law_is_within) f cdv A outer s H E).xe := passes_of rfl
  exact dss_one (ds_ret (de_cmp (op_eqA (hu64 hr)) pr_eq (de_lcA [("one", 2), ("two", 3)] rfl nd (di_zip rfl (by rfl) Z.n_zip (da_cons (de_fz (de_var 0 (pv 0))) (da_cons (de_fz (de_var 1 (pv 1))) (da_nil)))) (blkOk_by (N := N__law_is_within) (sc := defScope st__law_is_within) (by decide +kernel)) (by decide) (fun _ _ _ _ _ => dg_tup rfl rfl (dgs_cons (dg_name (i := 2) nd rfl (by first | exact Or.inl rfl | exact Or.inr rfl)) (dgs_cons (dg_name (i := 3) nd rfl (by first | exact Or.inl rfl | exact Or.inr rfl)) (dgs_nil))) (GL.len (gl_cons (gv_name) (gl_cons (gv_name) (gl_nil))))) (fun _ _ _ _ _ => dts_one (DW.dt (dw_and (dt_cmp (op_neA (hu64 hr)) pr_ne (de_var 3 (pv 3)) (de_tc pe_str) (nomark _)) (dw_and1 (dt_cmp (op_neA (hu64 hr)) pr_ne (de_var 3 (pv 3)) (de_var 2 (pv 2)) (nomark _)))))) (fun _ _ _ _ _ => de_tc pe_int)) (de_lst (da_nil)) (nomark _)))
def N__law_any_word : List Str := ["pen", "n", "bits", "k"]
theorem sc__law_any_word : FnScope N__law_any_word ["pen", "n"] (defScope st__law_any_word) := ⟨rfl, rfl, rfl, by decide +kernel, rfl, by decide +kernel, by decide +kernel⟩
def t__law_any_word (K : PySem.W.Frag) : DTS := dSeq (dSet 2 (dCall ((sp__law_one_of K)) (dCons (dVar 0) (dCons (dFz (dLst (dCons (dC (.str "01")) (dCons (dC (.str "01?")) (dCons (dC (.str "0?")) (dCons (dC (.str "1?")) (dCons (dC (.str "?01")) (dNil)))))))) (dNil)))))
  (dRet (dMs joinP (dC (.str "")) (dCons (dLc (dRng1 (dCons (dVar 1) (dNil))) (dgName 3) (dYes) (dFz (dCall ((sp__law_one_of K)) (dCons (dVar 0) (dCons (dFz (dVar 2)) (dNil))))) [3]) (dNil))))
theorem w__law_any_word (Z : Fx K mg) (C__law_one_of : CallOk P w K mg base (TT K) 3 "_law_one_of" ["pen", "some"] (sp__law_one_of K)) (hr : Room 3 (A.deeper (PyProof.Rows.envOfC "_law_any_word" (defScope st__law_any_word) s.heap.objs.size f cdv))) :
    DSs (cxOf (L2.CX P w) P w K mg base N__law_any_word "_law_any_word" (defScope st__law_any_word) f cdv A outer s H E) ⟨K, TT K, vs⟩ (fun c d _ H' => E c d H') (defBody st__law_any_word) (t__law_any_word K) := by
  have nd : N__law_any_word.Nodup := sc__law_any_word.nd
  have hP : PassesOwn (model P w) (cxOf (L2.CX P w) P w K mg base N__law_any_word "_law_any_word" (defScope st__law_any_word) f cdv A outer s H E).A (cxOf (L2.CX P w) P w K mg base N__law_any_word "_law_any_word" (defScope st__law_any_word) f cdv A outer s H E).env (cxOf (L2.CX P w) P w K mg base N__law_any_word "_law_any_word" (defScope st__law_any_word) f cdv A outer s H E).xe := passes_of rfl
  exact dss_cons (ds_set (i := 2) nd rfl (by first | exact Or.inl rfl | exact Or.inr rfl) (de_cf C__law_one_of rfl hr (by rfl) (takes_of rfl rfl rfl rfl) (da_cons (de_var 0 (pv 0)) (da_cons (de_fz (de_lst (da_cons (de_tc pe_str) (da_cons (de_tc pe_str) (da_cons (de_tc pe_str) (da_cons (de_tc pe_str) (da_cons (de_tc pe_str) (da_nil)))))))) (da_nil)))))
    (dss_one (ds_ret (de_mt PySem.F.plainAttrs_str PySem.F.slot_str_join PySem.F.type_str_join mt_join pr_join (de_tc pe_str) (da_cons (de_lcA [("k", 3)] rfl nd (di_rng1 (by rfl) Z.n_range (da_cons (de_var 1 (pv 1)) (da_nil))) (blkOk_by (N := N__law_any_word) (sc := defScope st__law_any_word) (by decide +kernel)) (by decide) (fun _ _ _ _ _ => dg_name (i := 3) nd rfl (by first | exact Or.inl rfl | exact Or.inr rfl)) (fun _ _ _ _ _ => dts_nil) (fun _ _ _ _ _ => de_fz (de_cf C__law_one_of rfl hr (by rfl) takesF (da_cons (de_var 0 (pv 0)) (da_cons (de_fz (de_var 2 (pv 2))) (da_nil)))))) (da_nil)))))
def N__law_told : List Str := ["word", "bits"]
theorem sc__law_told : FnScope N__law_told ["word", "bits"] (defScope st__law_told) := ⟨rfl, rfl, rfl, by decide +kernel, rfl, by decide +kernel, by decide +kernel⟩
def t__law_told (K : PySem.W.Frag) : DTS := dSeq (dIfS (dTst (dOp (eqP false) (dVar 0) (dC (.str "not")))) (dRet (dIf (dTst (dOp (eqP false) (dOp ixP (dVar 1) (dC (.int 0))) (dC (.str "1")))) (dC (.str "0")) (dC (.str "1")))) (dNext))
  (dSeq (dIfS (dTst (dOp (eqP false) (dVar 0) (dC (.str "and")))) (dRet (dIf (dTst (dOp (eqP false) (dVar 1) (dC (.str "11")))) (dC (.str "1")) (dC (.str "0")))) (dNext))
  (dRet (dIf (dTst (dOp (eqP false) (dVar 1) (dC (.str "00")))) (dC (.str "0")) (dC (.str "1")))))
theorem w__law_told (Z : Fx K mg)  (hr : Room 0 (A.deeper (PyProof.Rows.envOfC "_law_told" (defScope st__law_told) s.heap.objs.size f cdv))) :
    DSs (cxOf (L2.CX P w) P w K mg base N__law_told "_law_told" (defScope st__law_told) f cdv A outer s H E) ⟨K, TT K, vs⟩ (fun c d _ H' => E c d H') (defBody st__law_told) (t__law_told K) := by
  have nd : N__law_told.Nodup := sc__law_told.nd
  have hP : PassesOwn (model P w) (cxOf (L2.CX P w) P w K mg base N__law_told "_law_told" (defScope st__law_told) f cdv A outer s H E).A (cxOf (L2.CX P w) P w K mg base N__law_told "_law_told" (defScope st__law_told) f cdv A outer s H E).env (cxOf (L2.CX P w) P w K mg base N__law_told "_law_told" (defScope st__law_told) f cdv A outer s H E).xe := passes_of rfl
  exact dss_cons (ds_if (dt_cmp (op_eqA (hu64 hr)) pr_eq (de_var 0 (pv 0)) (de_tc pe_str) (nomark _)) (dss_one (ds_ret (de_if (dt_cmp (op_eqA (hu64 hr)) pr_eq (de_ix ix_seq pr_ix (de_var 1 (pv 1)) (de_tc pe_int) (fun _ _ => rfl)) (de_tc pe_str) (nomark _)) (de_tc pe_str) (de_tc pe_str)))) (dss_nil))
    (dss_cons (ds_if (dt_cmp (op_eqA (hu64 hr)) pr_eq (de_var 0 (pv 0)) (de_tc pe_str) (nomark _)) (dss_one (ds_ret (de_if (dt_cmp (op_eqA (hu64 hr)) pr_eq (de_var 1 (pv 1)) (de_tc pe_str) (nomark _)) (de_tc pe_str) (de_tc pe_str)))) (dss_nil))
    (dss_one (ds_ret (de_if (dt_cmp (op_eqA (hu64 hr)) pr_eq (de_var 1 (pv 1)) (de_tc pe_str) (nomark _)) (de_tc pe_str) (de_tc pe_str)))))
def N__law_run : List Str := ["net", "word", "found", "gate", "given", "number", "bits", "out"]
theorem sc__law_run : FnScope N__law_run ["net", "word"] (defScope st__law_run) := ⟨rfl, rfl, rfl, by decide +kernel, rfl, by decide +kernel, by decide +kernel⟩
def t__law_run (K : PySem.W.Frag) : DTS := dSeq (dSet 2 (dCallP list2P (dCons (dVar 1) (dNil))))
  (dSeq (dFor (dIt (dOp ixP (dVar 0) (dC (.int 1)))) (dgName 3) (dIfS (dTst (dOp (eqP false) (dCallP lenP (dCons (dVar 3) (dNil))) (dC (.int 1)))) (dDrop (dMi appP (dVar 2) (dCons (dFz (dOp ixP (dVar 3) (dC (.int 0)))) (dNil)))) (dSeq (dSet 4 (dMs joinP (dC (.str "")) (dCons (dLc (dIt (dSl slP (dVar 3) (dOSome (dC (.int 1))) dONo)) (dgName 5) (dYes) (dFz (dOp ixP (dVar 2) (dVar 5))) [5]) (dNil))))
  (dDrop (dMi appP (dVar 2) (dCons (dFz (dCall ((sp__law_joined K)) (dCons (dFz (dLc (dIt (dCall ((sp__law_settled K)) (dCons (dFz (dVar 4)) (dNil)))) (dgName 6) (dYes) (dFz (dCall ((sp__law_told K)) (dCons (dFz (dOp ixP (dVar 3) (dC (.int 0)))) (dCons (dFz (dVar 6)) (dNil))))) [6])) (dNil)))) (dNil)))))))
  (dRet (dMs joinP (dC (.str "")) (dCons (dLc (dIt (dOp ixP (dVar 0) (dC (.int 2)))) (dgName 7) (dYes) (dFz (dOp ixP (dVar 2) (dVar 7))) [7]) (dNil)))))
theorem w__law_run (Z : Fx K mg) (C__law_joined : CallOk P w K mg base (TT K) 1 "_law_joined" ["words"] (sp__law_joined K)) (C__law_settled : CallOk P w K mg base (TT K) 1 "_law_settled" ["word"] (sp__law_settled K)) (C__law_told : CallOk P w K mg base (TT K) 1 "_law_told" ["word", "bits"] (sp__law_told K)) (hr : Room 1 (A.deeper (PyProof.Rows.envOfC "_law_run" (defScope st__law_run) s.heap.objs.size f cdv))) :
    DSs (cxOf (L2.CX P w) P w K mg base N__law_run "_law_run" (defScope st__law_run) f cdv A outer s H E) ⟨K, TT K, vs⟩ (fun c d _ H' => E c d H') (defBody st__law_run) (t__law_run K) := by
  have nd : N__law_run.Nodup := sc__law_run.nd
  have hP : PassesOwn (model P w) (cxOf (L2.CX P w) P w K mg base N__law_run "_law_run" (defScope st__law_run) f cdv A outer s H E).A (cxOf (L2.CX P w) P w K mg base N__law_run "_law_run" (defScope st__law_run) f cdv A outer s H E).env (cxOf (L2.CX P w) P w K mg base N__law_run "_law_run" (defScope st__law_run) f cdv A outer s H E).xe := passes_of rfl
  exact dss_cons (ds_set (i := 2) nd rfl (by first | exact Or.inl rfl | exact Or.inr rfl) (de_bty (call_list2 rfl) (by rfl) Z.n_list bootL pr_list2 (da_cons (de_var 1 (pv 1)) (da_nil))))
    (dss_cons (ds_for hP rfl (di_any rfl (de_ix ix_seq pr_ix (de_var 0 (pv 0)) (de_tc pe_int) (fun _ _ => rfl))) (dg_name (i := 3) nd rfl (by first | exact Or.inl rfl | exact Or.inr rfl)) (dss_one (ds_if (dt_cmp (op_eqA (hu64 hr)) pr_eq (de_blt call_len (by rfl) Z.n_len PySem.boot_len pr_len (da_cons (de_var 3 (pv 3)) (da_nil))) (de_tc pe_int) (nomark _)) (dss_one (ds_expr (de_ml PySem.F.plainAttrs_list PySem.F.slot_list_append PySem.F.type_list_append mt_append pr_app rfl (de_var 2 (pv 2)) (da_cons (de_fz (de_ix ix_seq pr_ix (de_var 3 (pv 3)) (de_tc pe_int) (fun _ _ => rfl))) (da_nil))))) (dss_cons (ds_set (i := 4) nd rfl (by first | exact Or.inl rfl | exact Or.inr rfl) (de_mt PySem.F.plainAttrs_str PySem.F.slot_str_join PySem.F.type_str_join mt_join pr_join (de_tc pe_str) (da_cons (de_lcA [("number", 5)] rfl nd (di_any rfl (de_slice sl_all pr_sl (de_var 3 (pv 3)) (do_some (de_tc pe_int)) do_none)) (blkOk_by (N := N__law_run) (sc := defScope st__law_run) (by decide +kernel)) (by decide) (fun _ _ _ _ _ => dg_name (i := 5) nd rfl (by first | exact Or.inl rfl | exact Or.inr rfl)) (fun _ _ _ _ _ => dts_nil) (fun _ _ _ _ _ => de_fz (de_ix ix_seq pr_ix (de_var 2 (pv 2)) (de_var 5 (pv 5)) (fun _ _ => rfl)))) (da_nil))))
    (dss_one (ds_expr (de_ml PySem.F.plainAttrs_list PySem.F.slot_list_append PySem.F.type_list_append mt_append pr_app rfl (de_var 2 (pv 2)) (da_cons (de_fz (de_cf C__law_joined rfl hr (by rfl) (takes_of rfl rfl rfl rfl) (da_cons (de_fz (de_lcA [("bits", 6)] rfl nd (di_any rfl (de_cf C__law_settled rfl hr (by rfl) (takes_of rfl rfl rfl rfl) (da_cons (de_fz (de_var 4 (pv 4))) (da_nil)))) (blkOk_by (N := N__law_run) (sc := defScope st__law_run) (by decide +kernel)) (by decide) (fun _ _ _ _ _ => dg_name (i := 6) nd rfl (by first | exact Or.inl rfl | exact Or.inr rfl)) (fun _ _ _ _ _ => dts_nil) (fun _ _ _ _ _ => de_fz (de_cf C__law_told rfl hr (by rfl) takesF (da_cons (de_fz (de_ix ix_seq pr_ix (de_var 3 (pv 3)) (de_tc pe_int) (fun _ _ => rfl))) (da_cons (de_fz (de_var 6 (pv 6))) (da_nil))))))) (da_nil)))) (da_nil)))))))))
    (dss_one (ds_ret (de_mt PySem.F.plainAttrs_str PySem.F.slot_str_join PySem.F.type_str_join mt_join pr_join (de_tc pe_str) (da_cons (de_lcA [("out", 7)] rfl nd (di_any rfl (de_ix ix_seq pr_ix (de_var 0 (pv 0)) (de_tc pe_int) (fun _ _ => rfl))) (blkOk_by (N := N__law_run) (sc := defScope st__law_run) (by decide +kernel)) (by decide) (fun _ _ _ _ _ => dg_name (i := 7) nd rfl (by first | exact Or.inl rfl | exact Or.inr rfl)) (fun _ _ _ _ _ => dts_nil) (fun _ _ _ _ _ => de_fz (de_ix ix_seq pr_ix (de_var 2 (pv 2)) (de_var 7 (pv 7)) (fun _ _ => rfl)))) (da_nil))))))
def N__law_any_net : List Str := ["pen", "n", "most", "m", "gates", "turn", "below", "kind", "numbers", "k"]
theorem sc__law_any_net : FnScope N__law_any_net ["pen", "n", "most", "m"] (defScope st__law_any_net) := ⟨rfl, rfl, rfl, by decide +kernel, rfl, by decide +kernel, by decide +kernel⟩
def t__law_any_net (K : PySem.W.Frag) : DTS := dSeq (dSet 4 (dLst (dNil)))
  (dSeq (dFor (dRng1 (dCons (dCall ((sp__law_take K)) (dCons (dVar 0) (dCons (dFz (dOp addP (dVar 2) (dC (.int 1)))) (dNil)))) (dNil))) (dgName 5) (dSeq (dAsg (dTup (dCons (dFz (dOp addP (dVar 1) (dCallP lenP (dCons (dVar 4) (dNil))))) (dCons (dFz (dCall ((sp__law_one_of K)) (dCons (dVar 0) (dCons (dFz (dLst (dCons (dC (.str "not")) (dCons (dC (.str "and")) (dCons (dC (.str "or")) (dCons (dC (.str "and")) (dCons (dC (.str "or")) (dCons (dC (.str "0")) (dCons (dC (.str "1")) (dNil)))))))))) (dNil))))) (dNil)))) (dgTup (dgCons (dgName 6) (dgCons (dgName 7) (dgNil)))))
  (dSeq (dSet 8 (dLc (dRng1 (dCons (dDGet [(.inr "not", .int 1), (.inr "and", .int 2), (.inr "or", .int 2)] (.int 0) (dVar 7)) (dNil))) (dgName 9) (dYes) (dFz (dCall ((sp__law_take K)) (dCons (dVar 0) (dCons (dFz (dVar 6)) (dNil))))) [9]))
  (dDrop (dMi appP (dVar 4) (dCons (dFz (dCallP tupleP (dCons (dOp addP (dLst (dCons (dFz (dVar 7)) (dNil))) (dVar 8)) (dNil)))) (dNil)))))))
  (dRet (dTup (dCons (dFz (dVar 1)) (dCons (dFz (dCallP tupleP (dCons (dVar 4) (dNil)))) (dCons (dFz (dCallP tupleP (dCons (dLc (dRng1 (dCons (dVar 3) (dNil))) (dgName 9) (dYes) (dFz (dCall ((sp__law_take K)) (dCons (dVar 0) (dCons (dFz (dOp addP (dVar 1) (dCallP lenP (dCons (dVar 4) (dNil))))) (dNil))))) [9]) (dNil)))) (dNil)))))))
theorem w__law_any_net (Z : Fx K mg) (C__law_one_of : CallOk P w K mg base (TT K) 3 "_law_one_of" ["pen", "some"] (sp__law_one_of K)) (C__law_take : CallOk P w K mg base (TT K) 2 "_law_take" ["pen", "many"] (sp__law_take K)) (hr : Room 3 (A.deeper (PyProof.Rows.envOfC "_law_any_net" (defScope st__law_any_net) s.heap.objs.size f cdv))) :
    DSs (cxOf (L2.CX P w) P w K mg base N__law_any_net "_law_any_net" (defScope st__law_any_net) f cdv A outer s H E) ⟨K, TT K, vs⟩ (fun c d _ H' => E c d H') (defBody st__law_any_net) (t__law_any_net K) := by
  have nd : N__law_any_net.Nodup := sc__law_any_net.nd
  have hP : PassesOwn (model P w) (cxOf (L2.CX P w) P w K mg base N__law_any_net "_law_any_net" (defScope st__law_any_net) f cdv A outer s H E).A (cxOf (L2.CX P w) P w K mg base N__law_any_net "_law_any_net" (defScope st__law_any_net) f cdv A outer s H E).env (cxOf (L2.CX P w) P w K mg base N__law_any_net "_law_any_net" (defScope st__law_any_net) f cdv A outer s H E).xe := passes_of rfl
  exact dss_cons (ds_set (i := 4) nd rfl (by first | exact Or.inl rfl | exact Or.inr rfl) (de_lst (da_nil)))
    (dss_cons (ds_for hP rfl (di_rng1 (by rfl) Z.n_range (da_cons (de_cf C__law_take rfl hr (by rfl) (takes_of rfl rfl rfl rfl) (da_cons (de_var 0 (pv 0)) (da_cons (de_fz (de_op op_addD pr_add (de_var 2 (pv 2)) (de_tc pe_int))) (da_nil)))) (da_nil))) (dg_name (i := 5) nd rfl (by first | exact Or.inl rfl | exact Or.inr rfl)) (dss_cons (ds_asg (de_tup (da_cons (de_fz (de_op op_addD pr_add (de_var 1 (pv 1)) (de_blt call_len (by rfl) Z.n_len PySem.boot_len pr_len (da_cons (de_var 4 (pv 4)) (da_nil))))) (da_cons (de_fz (de_cf C__law_one_of rfl hr (by rfl) (takes_of rfl rfl rfl rfl) (da_cons (de_var 0 (pv 0)) (da_cons (de_fz (de_lst (da_cons (de_tc pe_str) (da_cons (de_tc pe_str) (da_cons (de_tc pe_str) (da_cons (de_tc pe_str) (da_cons (de_tc pe_str) (da_cons (de_tc pe_str) (da_cons (de_tc pe_str) (da_nil)))))))))) (da_nil))))) (da_nil)))) (dg_tup rfl rfl (dgs_cons (dg_name (i := 6) nd rfl (by first | exact Or.inl rfl | exact Or.inr rfl)) (dgs_cons (dg_name (i := 7) nd rfl (by first | exact Or.inl rfl | exact Or.inr rfl)) (dgs_nil))) (GL.len (gl_cons (gv_name) (gl_cons (gv_name) (gl_nil))))))
    (dss_cons ((by first | exact ds_setLcA [("k", 9)] rfl nd (i := 8) rfl rfl (sw_true rfl rfl rfl (by decide +kernel)) (di_rng1 (by rfl) Z.n_range (da_cons (de_dget (kvs := [(.inr "not", .int 1), (.inr "and", .int 2), (.inr "or", .int 2)]) (d := .int 0) (hu64 hr) (pps_cons pe_str pe_int (pps_cons pe_str pe_int (pps_cons pe_str pe_int (pps_nil)))) (by rfl) (by rfl) (fun z => by cases z) (by decide) (by decide) (de_var 7 (pv 7)) pe_int ⟨by rfl, by rfl, by rfl, by rfl⟩) (da_nil))) (blkOk_by (N := N__law_any_net) (sc := defScope st__law_any_net) (by decide +kernel)) (by decide) (fun _ _ _ _ _ => dg_name (i := 9) nd rfl (by first | exact Or.inl rfl | exact Or.inr rfl)) (fun _ _ _ _ _ => dts_nil) (fun _ _ _ _ _ => de_fz (de_cf C__law_take rfl hr (by rfl) takesF (da_cons (de_var 0 (pv 0)) (da_cons (de_fz (de_var 6 (pv 6))) (da_nil))))) | exact ds_set (i := 8) nd rfl (by first | exact Or.inl rfl | exact Or.inr rfl) (de_lcA [("k", 9)] rfl nd  (di_rng1 (by rfl) Z.n_range (da_cons (de_dget (kvs := [(.inr "not", .int 1), (.inr "and", .int 2), (.inr "or", .int 2)]) (d := .int 0) (hu64 hr) (pps_cons pe_str pe_int (pps_cons pe_str pe_int (pps_cons pe_str pe_int (pps_nil)))) (by rfl) (by rfl) (fun z => by cases z) (by decide) (by decide) (de_var 7 (pv 7)) pe_int ⟨by rfl, by rfl, by rfl, by rfl⟩) (da_nil))) (blkOk_by (N := N__law_any_net) (sc := defScope st__law_any_net) (by decide +kernel)) (by decide) (fun _ _ _ _ _ => dg_name (i := 9) nd rfl (by first | exact Or.inl rfl | exact Or.inr rfl)) (fun _ _ _ _ _ => dts_nil) (fun _ _ _ _ _ => de_fz (de_cf C__law_take rfl hr (by rfl) takesF (da_cons (de_var 0 (pv 0)) (da_cons (de_fz (de_var 6 (pv 6))) (da_nil))))))))
    (dss_one (ds_expr (de_ml PySem.F.plainAttrs_list PySem.F.slot_list_append PySem.F.type_list_append mt_append pr_app rfl (de_var 4 (pv 4)) (da_cons (de_fz (de_bty call_tuple_of (by rfl) Z.n_tuple bootT pr_tuple (da_cons (de_op op_addD pr_add (de_lst (da_cons (de_fz (de_var 7 (pv 7))) (da_nil))) (de_var 8 (pv 8))) (da_nil)))) (da_nil))))))))
    (dss_one (ds_ret (de_tup (da_cons (de_fz (de_var 1 (pv 1))) (da_cons (de_fz (de_bty call_tuple_of (by rfl) Z.n_tuple bootT pr_tuple (da_cons (de_var 4 (pv 4)) (da_nil)))) (da_cons (de_fz (de_bty call_tuple_of (by rfl) Z.n_tuple bootT pr_tuple (da_cons (de_lcA [("k", 9)] rfl nd (di_rng1 (by rfl) Z.n_range (da_cons (de_var 3 (pv 3)) (da_nil))) (blkOk_by (N := N__law_any_net) (sc := defScope st__law_any_net) (by decide +kernel)) (by decide) (fun _ _ _ _ _ => dg_name (i := 9) nd rfl (by first | exact Or.inl rfl | exact Or.inr rfl)) (fun _ _ _ _ _ => dts_nil) (fun _ _ _ _ _ => de_fz (de_cf C__law_take rfl hr (by rfl) takesF (da_cons (de_var 0 (pv 0)) (da_cons (de_fz (de_op op_addD pr_add (de_var 1 (pv 1)) (de_blt call_len (by rfl) Z.n_len PySem.boot_len pr_len (da_cons (de_var 4 (pv 4)) (da_nil))))) (da_nil)))))) (da_nil)))) (da_nil))))))))
def N__law_bent : List Str := ["pen", "value", "some", "k", "way"]
theorem sc__law_bent : FnScope N__law_bent ["pen", "value"] (defScope st__law_bent) := ⟨rfl, rfl, rfl, by decide +kernel, rfl, by decide +kernel, by decide +kernel⟩
def t__law_bent (spR : DSp) (K : PySem.W.Frag) : DTS := dSeq (dSet 2 (dLst (dCons (dC .non) (dCons (dC (.bl true)) (dCons (dC (.bl false)) (dCons (dC (.int 0)) (dCons (dC (.int 1)) (dCons (dFz (dUn negP (dC (.int 1)))) (dCons (dC (.int 2)) (dCons (dC (.int 7)) (dCons (dC (.str "a")) (dCons (dC (.str "")) (dCons (dC (.str "?")) (dCons (dC (.str "01")) (dCons (dFz (dTup (dNil))) (dCons (dFz (dLst (dNil))) (dCons (dFz (dNewD)) (dCons (dFz (dTup (dCons (dC (.int 0)) (dNil)))) (dCons (dFz (dTup (dCons (dC (.str "0")) (dNil)))) (dCons (dFz (dTup (dCons (dC .non) (dNil)))) (dCons (dFz (dLst (dCons (dC (.int 0)) (dNil)))) (dCons (dC (.str "and")) (dNil)))))))))))))))))))))))
  (dSeq (dIfS (dOr (dTst (dCallP isiP (dCons (dVar 1) (dCons (dC (.ty "bool")) (dNil))))) (dOr (dNot (dTst (dIsiT ["int", "tuple", "str"] (dVar 1)))) (dTst (dOp (eqP false) (dCall ((sp__law_take K)) (dCons (dVar 0) (dCons (dC (.int 9)) (dNil)))) (dC (.int 0)))))) (dRet (dCall ((sp__law_one_of K)) (dCons (dVar 0) (dCons (dFz (dVar 2)) (dNil))))) (dNext))
  (dSeq (dIfS (dTst (dCallP isiP (dCons (dVar 1) (dCons (dC (.ty "int")) (dNil))))) (dRet (dCall ((sp__law_one_of K)) (dCons (dVar 0) (dCons (dFz (dLst (dCons (dFz (dOp addP (dVar 1) (dC (.int 1)))) (dCons (dFz (dUn negP (dC (.int 1)))) (dCons (dFz (dIf (dTst (dChain leP ltP (dC (.int 0)) (dVar 1) (dC (.int 2)))) (dOp (eqP false) (dVar 1) (dC (.int 1))) (dC .non))) (dCons (dFz (dCallP strP (dCons (dVar 1) (dNil)))) (dCons (dFz (dOp addP (dVar 1) (dC (.int 9)))) (dNil)))))))) (dNil))))) (dNext))
  (dSeq (dIfS (dTst (dOp (eqP false) (dCallP lenP (dCons (dVar 1) (dNil))) (dC (.int 0)))) (dRet (dCall ((sp__law_one_of K)) (dCons (dVar 0) (dCons (dFz (dVar 2)) (dNil))))) (dNext))
  (dSeq (dPar 3 4 (dCons (dFz (dCall ((sp__law_take K)) (dCons (dVar 0) (dCons (dFz (dCallP lenP (dCons (dVar 1) (dNil)))) (dNil))))) (dCons (dFz (dCall ((sp__law_take K)) (dCons (dVar 0) (dCons (dC (.int 16)) (dNil))))) (dNil))))
  (dSeq (dIfS (dTst (dCallP isiP (dCons (dVar 1) (dCons (dC (.ty "str")) (dNil))))) (dRet (dCall ((sp__law_one_of K)) (dCons (dVar 0) (dCons (dFz (dLst (dCons (dFz (dOp addP (dSl slP (dVar 1) dONo (dOSome (dVar 3))) (dSl slP (dVar 1) (dOSome (dOp addP (dVar 3) (dC (.int 1)))) dONo))) (dCons (dFz (dOp addP (dVar 1) (dOp ixP (dVar 1) (dVar 3)))) (dCons (dFz (dUn revP (dVar 1))) (dCons (dFz (dUpper (dVar 1))) (dCons (dFz (dCallP list2P (dCons (dVar 1) (dNil)))) (dNil)))))))) (dNil))))) (dNext))
  (dSeq (dIfS (dTst (dOp gtP (dVar 4) (dC (.int 3)))) (dRet (dOp addP (dOp addP (dSl slP (dVar 1) dONo (dOSome (dVar 3))) (dTup (dCons (dFz (dCall spR (dCons (dVar 0) (dCons (dFz (dOp ixP (dVar 1) (dVar 3))) (dNil))))) (dNil)))) (dSl slP (dVar 1) (dOSome (dOp addP (dVar 3) (dC (.int 1)))) dONo))) (dNext))
  (dRet (dOp ixP (dLst (dCons (dFz (dOp addP (dSl slP (dVar 1) dONo (dOSome (dVar 3))) (dSl slP (dVar 1) (dOSome (dOp addP (dVar 3) (dC (.int 1)))) dONo))) (dCons (dFz (dOp addP (dOp addP (dSl slP (dVar 1) dONo (dOSome (dVar 3))) (dSl slP (dVar 1) (dOSome (dVar 3)) (dOSome (dOp addP (dVar 3) (dC (.int 1)))))) (dSl slP (dVar 1) (dOSome (dVar 3)) dONo))) (dCons (dFz (dCallP list2P (dCons (dVar 1) (dNil)))) (dCons (dFz (dUn revP (dVar 1))) (dNil)))))) (dVar 4)))))))))
theorem w__law_bent (Z : Fx K mg) {spR : DSp} {lv kk : Nat} (C__law_bent : CallOk P w K mg base (TT K) lv "_law_bent" ["pen", "value"] spR) (C__law_one_of : CallOk P w K mg base (TT K) 3 "_law_one_of" ["pen", "some"] (sp__law_one_of K)) (C__law_take : CallOk P w K mg base (TT K) 2 "_law_take" ["pen", "many"] (sp__law_take K)) (hlv : lv ≤ kk) (hkk : 3 ≤ kk) (hr : Room kk (A.deeper (PyProof.Rows.envOfC "_law_bent" (defScope st__law_bent) s.heap.objs.size f cdv))) :
    DSs (cxOf (L2.CX P w) P w K mg base N__law_bent "_law_bent" (defScope st__law_bent) f cdv A outer s H E) ⟨K, TT K, vs⟩ (fun c d _ H' => E c d H') (defBody st__law_bent) (t__law_bent spR K) := by
  have nd : N__law_bent.Nodup := sc__law_bent.nd
  have hP : PassesOwn (model P w) (cxOf (L2.CX P w) P w K mg base N__law_bent "_law_bent" (defScope st__law_bent) f cdv A outer s H E).A (cxOf (L2.CX P w) P w K mg base N__law_bent "_law_bent" (defScope st__law_bent) f cdv A outer s H E).env (cxOf (L2.CX P w) P w K mg base N__law_bent "_law_bent" (defScope st__law_bent) f cdv A outer s H E).xe := passes_of rfl
  exact dss_cons (ds_set (i := 2) nd rfl (by first | exact Or.inl rfl | exact Or.inr rfl) (de_lst (da_cons (de_tc pe_non) (da_cons (de_tc pe_bl) (da_cons (de_tc pe_bl) (da_cons (de_tc pe_int) (da_cons (de_tc pe_int) (da_cons (de_fz (de_un un_neg pr_neg (de_tc pe_int))) (da_cons (de_tc pe_int) (da_cons (de_tc pe_int) (da_cons (de_tc pe_str) (da_cons (de_tc pe_str) (da_cons (de_tc pe_str) (da_cons (de_tc pe_str) (da_cons (de_fz (de_tup (da_nil))) (da_cons (de_fz (de_lst (da_nil))) (da_cons (de_fz (de_dnew)) (da_cons (de_fz (de_tup (da_cons (de_tc pe_int) (da_nil)))) (da_cons (de_fz (de_tup (da_cons (de_tc pe_str) (da_nil)))) (da_cons (de_fz (de_tup (da_cons (de_tc pe_non) (da_nil)))) (da_cons (de_fz (de_lst (da_cons (de_tc pe_int) (da_nil)))) (da_cons (de_tc pe_str) (da_nil)))))))))))))))))))))))
    (dss_cons (ds_if (DW.dt (dw_or (dt_val (de_blt call_isi (by rfl) Z.n_isinstance boot_isinstance pr_isi (da_cons (de_var 1 (pv 1)) (da_cons (de_tc (pe_bltn (v := .ty "bool") (by rfl) Z.n_bool boot_bool (by rfl))) (da_nil))))) (dw_or (dt_not (dt_val (de_isiT (Ts := ["int", "tuple", "str"]) (by rfl) Z.n_isinstance rfl (de_var 1 (pv 1)) (pa_cons (pe_bltn (v := .ty "int") (by rfl) Z.n_int boot_int (by rfl)) (pa_cons (pe_bltn (v := .ty "tuple") (by rfl) Z.n_tuple bootT (by rfl)) (pa_cons (pe_bltn (v := .ty "str") (by rfl) Z.n_str boot_str (by rfl)) (pa_nil)))) (fun _ _ _ h => h) (by decide)))) (dw_or1 (dt_cmp (op_eqA (hu64 hr)) pr_eq (de_cf C__law_take rfl hr (by rfl) (takes_of rfl rfl rfl rfl) (da_cons (de_var 0 (pv 0)) (da_cons (de_tc pe_int) (da_nil))) (hjk := Nat.le_trans (by decide) hkk)) (de_tc pe_int) (nomark _)))))) (dss_one (ds_ret (de_cf C__law_one_of rfl hr (by rfl) (takes_of rfl rfl rfl rfl) (da_cons (de_var 0 (pv 0)) (da_cons (de_fz (de_var 2 (pv 2))) (da_nil))) (hjk := Nat.le_trans (by decide) hkk)))) (dss_nil))
    (dss_cons (ds_if (dt_val (de_blt call_isi (by rfl) Z.n_isinstance boot_isinstance pr_isi (da_cons (de_var 1 (pv 1)) (da_cons (de_tc (pe_bltn (v := .ty "int") (by rfl) Z.n_int boot_int (by rfl))) (da_nil))))) (dss_one (ds_ret (de_cf C__law_one_of rfl hr (by rfl) (takes_of rfl rfl rfl rfl) (da_cons (de_var 0 (pv 0)) (da_cons (de_fz (de_lst (da_cons (de_fz (de_op op_addD pr_add (de_var 1 (pv 1)) (de_tc pe_int))) (da_cons (de_fz (de_un un_neg pr_neg (de_tc pe_int))) (da_cons (de_fz (de_if (dt_chain op_le op_lt pr_le pr_lt (de_tc pe_int) (de_var 1 (pv 1)) (de_tc pe_int)) (de_cmp (op_eqA (hu64 hr)) pr_eq (de_var 1 (pv 1)) (de_tc pe_int) (nomark _)) (de_tc pe_non))) (da_cons (de_fz (de_bty call_str_int (by rfl) Z.n_str boot_str pr_str (da_cons (de_var 1 (pv 1)) (da_nil)))) (da_cons (de_fz (de_op op_addD pr_add (de_var 1 (pv 1)) (de_tc pe_int))) (da_nil)))))))) (da_nil))) (hjk := Nat.le_trans (by decide) hkk)))) (dss_nil))
    (dss_cons (ds_if (dt_cmp (op_eqA (hu64 hr)) pr_eq (de_blt call_len (by rfl) Z.n_len PySem.boot_len pr_len (da_cons (de_var 1 (pv 1)) (da_nil))) (de_tc pe_int) (nomark _)) (dss_one (ds_ret (de_cf C__law_one_of rfl hr (by rfl) (takes_of rfl rfl rfl rfl) (da_cons (de_var 0 (pv 0)) (da_cons (de_fz (de_var 2 (pv 2))) (da_nil))) (hjk := Nat.le_trans (by decide) hkk)))) (dss_nil))
    (dss_cons (ds_par (i := 3) (j := 4) rfl nd rfl rfl (by decide) rfl rfl (da_cons (de_fz (de_cf C__law_take rfl hr (by rfl) (takes_of rfl rfl rfl rfl) (da_cons (de_var 0 (pv 0)) (da_cons (de_fz (de_blt call_len (by rfl) Z.n_len PySem.boot_len pr_len (da_cons (de_var 1 (pv 1)) (da_nil)))) (da_nil))) (hjk := Nat.le_trans (by decide) hkk))) (da_cons (de_fz (de_cf C__law_take rfl hr (by rfl) (takes_of rfl rfl rfl rfl) (da_cons (de_var 0 (pv 0)) (da_cons (de_tc pe_int) (da_nil))) (hjk := Nat.le_trans (by decide) hkk))) (da_nil))) rfl)
    (dss_cons (ds_if (dt_val (de_blt call_isi (by rfl) Z.n_isinstance boot_isinstance pr_isi (da_cons (de_var 1 (pv 1)) (da_cons (de_tc (pe_bltn (v := .ty "str") (by rfl) Z.n_str boot_str (by rfl))) (da_nil))))) (dss_one (ds_ret (de_cf C__law_one_of rfl hr (by rfl) (takes_of rfl rfl rfl rfl) (da_cons (de_var 0 (pv 0)) (da_cons (de_fz (de_lst (da_cons (de_fz (de_op op_addD pr_add (de_slice sl_all pr_sl (de_var 1 (pv 1)) do_none (do_some (de_var 3 (pv 3)))) (de_slice sl_all pr_sl (de_var 1 (pv 1)) (do_some (de_op op_addD pr_add (de_var 3 (pv 3)) (de_tc pe_int))) do_none))) (da_cons (de_fz (de_op op_addD pr_add (de_var 1 (pv 1)) (de_ix ix_seq pr_ix (de_var 1 (pv 1)) (de_var 3 (pv 3)) (fun _ _ => rfl)))) (da_cons (de_fz (de_rev rfl (de_var 1 (pv 1)))) (da_cons (de_fz (de_upper (de_var 1 (pv 1)))) (da_cons (de_fz (de_bty (call_list2 rfl) (by rfl) Z.n_list bootL pr_list2 (da_cons (de_var 1 (pv 1)) (da_nil)))) (da_nil)))))))) (da_nil))) (hjk := Nat.le_trans (by decide) hkk)))) (dss_nil))
    (dss_cons (ds_if (dt_cmp op_gt pr_gt (de_var 4 (pv 4)) (de_tc pe_int) (nomark _)) (dss_one (ds_ret (de_op op_addD pr_add (de_op op_addD pr_add (de_slice sl_all pr_sl (de_var 1 (pv 1)) do_none (do_some (de_var 3 (pv 3)))) (de_tup (da_cons (de_fz (de_cf C__law_bent rfl hr (by rfl) (takes_of rfl rfl rfl rfl) (da_cons (de_var 0 (pv 0)) (da_cons (de_fz (de_ix ix_seq pr_ix (de_var 1 (pv 1)) (de_var 3 (pv 3)) (fun _ _ => rfl))) (da_nil))) (hjk := hlv))) (da_nil)))) (de_slice sl_all pr_sl (de_var 1 (pv 1)) (do_some (de_op op_addD pr_add (de_var 3 (pv 3)) (de_tc pe_int))) do_none)))) (dss_nil))
    (dss_one (ds_ret (de_ix ix_seq pr_ix (de_lst (da_cons (de_fz (de_op op_addD pr_add (de_slice sl_all pr_sl (de_var 1 (pv 1)) do_none (do_some (de_var 3 (pv 3)))) (de_slice sl_all pr_sl (de_var 1 (pv 1)) (do_some (de_op op_addD pr_add (de_var 3 (pv 3)) (de_tc pe_int))) do_none))) (da_cons (de_fz (de_op op_addD pr_add (de_op op_addD pr_add (de_slice sl_all pr_sl (de_var 1 (pv 1)) do_none (do_some (de_var 3 (pv 3)))) (de_slice sl_all pr_sl (de_var 1 (pv 1)) (do_some (de_var 3 (pv 3))) (do_some (de_op op_addD pr_add (de_var 3 (pv 3)) (de_tc pe_int))))) (de_slice sl_all pr_sl (de_var 1 (pv 1)) (do_some (de_var 3 (pv 3))) do_none))) (da_cons (de_fz (de_bty (call_list2 rfl) (by rfl) Z.n_list bootL pr_list2 (da_cons (de_var 1 (pv 1)) (da_nil)))) (da_cons (de_fz (de_rev rfl (de_var 1 (pv 1)))) (da_nil)))))) (de_var 4 (pv 4)) (fun _ _ => rfl))))))))))
def N__law_is_number : List Str := ["thing", "least", "most"]
theorem sc__law_is_number : FnScope N__law_is_number ["thing", "least", "most"] (defScope st__law_is_number) := ⟨rfl, rfl, rfl, by decide +kernel, rfl, by decide +kernel, by decide +kernel⟩
def t__law_is_number (K : PySem.W.Frag) : DTS := dRet (dAndV (dCallP isiP (dCons (dVar 0) (dCons (dC (.ty "int")) (dNil)))) (dAndV (dNotV (dCallP isiP (dCons (dVar 0) (dCons (dC (.ty "bool")) (dNil))))) (dChain leP leP (dVar 1) (dVar 0) (dVar 2))))
theorem w__law_is_number (Z : Fx K mg)  (hr : Room 0 (A.deeper (PyProof.Rows.envOfC "_law_is_number" (defScope st__law_is_number) s.heap.objs.size f cdv))) :
    DSs (cxOf (L2.CX P w) P w K mg base N__law_is_number "_law_is_number" (defScope st__law_is_number) f cdv A outer s H E) ⟨K, TT K, vs⟩ (fun c d _ H' => E c d H') (defBody st__law_is_number) (t__law_is_number K) := by
  have nd : N__law_is_number.Nodup := sc__law_is_number.nd
  have hP : PassesOwn (model P w) (cxOf (L2.CX P w) P w K mg base N__law_is_number "_law_is_number" (defScope st__law_is_number) f cdv A outer s H E).A (cxOf (L2.CX P w) P w K mg base N__law_is_number "_law_is_number" (defScope st__law_is_number) f cdv A outer s H E).env (cxOf (L2.CX P w) P w K mg base N__law_is_number "_law_is_number" (defScope st__law_is_number) f cdv A outer s H E).xe := passes_of rfl
  exact dss_one (ds_ret (de_and (de_blt call_isi (by rfl) Z.n_isinstance boot_isinstance pr_isi (da_cons (de_var 0 (pv 0)) (da_cons (de_tc (pe_bltn (v := .ty "int") (by rfl) Z.n_int boot_int (by rfl))) (da_nil)))) (de_and (de_not (de_blt call_isi (by rfl) Z.n_isinstance boot_isinstance pr_isi (da_cons (de_var 0 (pv 0)) (da_cons (de_tc (pe_bltn (v := .ty "bool") (by rfl) Z.n_bool boot_bool (by rfl))) (da_nil))))) (de_one (de_chain op_le op_le pr_le pr_le (de_var 1 (pv 1)) (de_var 0 (pv 0)) (de_var 2 (pv 2)))))))
def N__law_is_net : List Str := ["thing", "n", "gates", "outs", "at", "gate", "number", "out"]
theorem sc__law_is_net : FnScope N__law_is_net ["thing"] (defScope st__law_is_net) := ⟨rfl, rfl, rfl, by decide +kernel, rfl, by decide +kernel, by decide +kernel⟩
def t__law_is_net (K : PySem.W.Frag) : DTS := dSeq (dIfS (dOr (dNot (dTst (dCallP isiP (dCons (dVar 0) (dCons (dC (.ty "tuple")) (dNil)))))) (dOr (dTst (dOp (eqP true) (dCallP lenP (dCons (dVar 0) (dNil))) (dC (.int 3)))) (dNot (dTst (dCall ((sp__law_is_number K)) (dCons (dFz (dOp ixP (dVar 0) (dC (.int 0)))) (dCons (dC (.int 1)) (dCons (dC (.int 32)) (dNil))))))))) (dRet (dC (.bl false))) (dNext))
  (dSeq (dAsg (dVar 0) (dgTup (dgCons (dgName 1) (dgCons (dgName 2) (dgCons (dgName 3) (dgNil))))))
  (dSeq (dIfS (dOr (dNot (dTst (dCallP isiP (dCons (dVar 2) (dCons (dC (.ty "tuple")) (dNil)))))) (dOr (dNot (dTst (dCallP isiP (dCons (dVar 3) (dCons (dC (.ty "tuple")) (dNil)))))) (dNot (dTst (dChain leP leP (dC (.int 1)) (dCallP lenP (dCons (dVar 3) (dNil))) (dC (.int 32))))))) (dRet (dC (.bl false))) (dNext))
  (dSeq (dFor (dEnum (dCons (dFz (dVar 2)) (dNil))) (dgTup (dgCons (dgName 4) (dgCons (dgName 5) (dgNil)))) (dSeq (dIfS (dOr (dNot (dTst (dCallP isiP (dCons (dVar 5) (dCons (dC (.ty "tuple")) (dNil)))))) (dOr (dTst (dOp eqEP (dVar 5) (dTup (dNil)))) (dNot (dTst (dCallP isiP (dCons (dOp ixP (dVar 5) (dC (.int 0))) (dCons (dC (.ty "str")) (dNil)))))))) (dRet (dC (.bl false))) (dNext))
  (dSeq (dIfS (dTst (dOp (eqP true) (dCallP lenP (dCons (dVar 5) (dNil))) (dDGet [(.inr "0", .int 1), (.inr "1", .int 1), (.inr "not", .int 2), (.inr "and", .int 3), (.inr "or", .int 3)] (.int 0) (dOp ixP (dVar 5) (dC (.int 0)))))) (dRet (dC (.bl false))) (dNext))
  (dIfS (dTst (dOp (eqP true) (dLc (dIt (dSl slP (dVar 5) (dOSome (dC (.int 1))) dONo)) (dgName 6) (dNot (dTst (dCall ((sp__law_is_number K)) (dCons (dFz (dVar 6)) (dCons (dC (.int 0)) (dCons (dFz (dOp subP (dOp addP (dVar 1) (dVar 4)) (dC (.int 1)))) (dNil))))))) (dC (.int 1)) [6]) (dLst (dNil)))) (dRet (dC (.bl false))) (dNext)))))
  (dRet (dOp (eqP false) (dLc (dIt (dVar 3)) (dgName 7) (dNot (dTst (dCall ((sp__law_is_number K)) (dCons (dFz (dVar 7)) (dCons (dC (.int 0)) (dCons (dFz (dOp subP (dOp addP (dVar 1) (dCallP lenP (dCons (dVar 2) (dNil)))) (dC (.int 1)))) (dNil))))))) (dC (.int 1)) [7]) (dLst (dNil)))))))
theorem w__law_is_net (Z : Fx K mg) (C__law_is_number : CallOk P w K mg base (TT K) 1 "_law_is_number" ["thing", "least", "most"] (sp__law_is_number K)) (hr : Room 1 (A.deeper (PyProof.Rows.envOfC "_law_is_net" (defScope st__law_is_net) s.heap.objs.size f cdv))) :
    DSs (cxOf (L2.CX P w) P w K mg base N__law_is_net "_law_is_net" (defScope st__law_is_net) f cdv A outer s H E) ⟨K, TT K, vs⟩ (fun c d _ H' => E c d H') (defBody st__law_is_net) (t__law_is_net K) := by
  have nd : N__law_is_net.Nodup := sc__law_is_net.nd
  have hP : PassesOwn (model P w) (cxOf (L2.CX P w) P w K mg base N__law_is_net "_law_is_net" (defScope st__law_is_net) f cdv A outer s H E).A (cxOf (L2.CX P w) P w K mg base N__law_is_net "_law_is_net" (defScope st__law_is_net) f cdv A outer s H E).env (cxOf (L2.CX P w) P w K mg base N__law_is_net "_law_is_net" (defScope st__law_is_net) f cdv A outer s H E).xe := passes_of rfl
  exact dss_cons (ds_if (DW.dt (dw_or (dt_not (dt_val (de_blt call_isi (by rfl) Z.n_isinstance boot_isinstance pr_isi (da_cons (de_var 0 (pv 0)) (da_cons (de_tc (pe_bltn (v := .ty "tuple") (by rfl) Z.n_tuple bootT (by rfl))) (da_nil)))))) (dw_or (dt_cmp (op_neA (hu64 hr)) pr_ne (de_blt call_len (by rfl) Z.n_len PySem.boot_len pr_len (da_cons (de_var 0 (pv 0)) (da_nil))) (de_tc pe_int) (nomark _)) (dw_or1 (dt_not (dt_val (de_cf C__law_is_number rfl hr (by rfl) (takes_of rfl rfl rfl rfl) (da_cons (de_fz (de_ix ix_seq pr_ix (de_var 0 (pv 0)) (de_tc pe_int) (fun _ _ => rfl))) (da_cons (de_tc pe_int) (da_cons (de_tc pe_int) (da_nil))))))))))) (dss_one (ds_ret (de_tc pe_bl))) (dss_nil))
    (dss_cons (ds_asg (de_var 0 (pv 0)) (dg_tup rfl rfl (dgs_cons (dg_name (i := 1) nd rfl (by first | exact Or.inl rfl | exact Or.inr rfl)) (dgs_cons (dg_name (i := 2) nd rfl (by first | exact Or.inl rfl | exact Or.inr rfl)) (dgs_cons (dg_name (i := 3) nd rfl (by first | exact Or.inl rfl | exact Or.inr rfl)) (dgs_nil)))) (GL.len (gl_cons (gv_name) (gl_cons (gv_name) (gl_cons (gv_name) (gl_nil)))))))
    (dss_cons (ds_if (DW.dt (dw_or (dt_not (dt_val (de_blt call_isi (by rfl) Z.n_isinstance boot_isinstance pr_isi (da_cons (de_var 2 (pv 2)) (da_cons (de_tc (pe_bltn (v := .ty "tuple") (by rfl) Z.n_tuple bootT (by rfl))) (da_nil)))))) (dw_or (dt_not (dt_val (de_blt call_isi (by rfl) Z.n_isinstance boot_isinstance pr_isi (da_cons (de_var 3 (pv 3)) (da_cons (de_tc (pe_bltn (v := .ty "tuple") (by rfl) Z.n_tuple bootT (by rfl))) (da_nil)))))) (dw_or1 (dt_not (dt_chain op_le op_le pr_le pr_le (de_tc pe_int) (de_blt call_len (by rfl) Z.n_len PySem.boot_len pr_len (da_cons (de_var 3 (pv 3)) (da_nil))) (de_tc pe_int))))))) (dss_one (ds_ret (de_tc pe_bl))) (dss_nil))
    (dss_cons (ds_for hP rfl (di_en rfl (by rfl) Z.n_enumerate (da_cons (de_fz (de_var 2 (pv 2))) (da_nil))) (dg_tup rfl rfl (dgs_cons (dg_name (i := 4) nd rfl (by first | exact Or.inl rfl | exact Or.inr rfl)) (dgs_cons (dg_name (i := 5) nd rfl (by first | exact Or.inl rfl | exact Or.inr rfl)) (dgs_nil))) (GL.len (gl_cons (gv_name) (gl_cons (gv_name) (gl_nil))))) (dss_cons (ds_if (DW.dt (dw_or (dt_not (dt_val (de_blt call_isi (by rfl) Z.n_isinstance boot_isinstance pr_isi (da_cons (de_var 5 (pv 5)) (da_cons (de_tc (pe_bltn (v := .ty "tuple") (by rfl) Z.n_tuple bootT (by rfl))) (da_nil)))))) (dw_or (dt_cmp (op_eqE (hu64 hr)) pr_eqE (de_var 5 (pv 5)) (de_tup (da_nil)) (nomark _)) (dw_or1 (dt_not (dt_val (de_blt call_isi (by rfl) Z.n_isinstance boot_isinstance pr_isi (da_cons (de_ix ix_seq pr_ix (de_var 5 (pv 5)) (de_tc pe_int) (fun _ _ => rfl)) (da_cons (de_tc (pe_bltn (v := .ty "str") (by rfl) Z.n_str boot_str (by rfl))) (da_nil)))))))))) (dss_one (ds_ret (de_tc pe_bl))) (dss_nil))
    (dss_cons (ds_if (dt_cmp (op_neA (hu64 hr)) pr_ne (de_blt call_len (by rfl) Z.n_len PySem.boot_len pr_len (da_cons (de_var 5 (pv 5)) (da_nil))) (de_dget (kvs := [(.inr "0", .int 1), (.inr "1", .int 1), (.inr "not", .int 2), (.inr "and", .int 3), (.inr "or", .int 3)]) (d := .int 0) (hu64 hr) (pps_cons pe_str pe_int (pps_cons pe_str pe_int (pps_cons pe_str pe_int (pps_cons pe_str pe_int (pps_cons pe_str pe_int (pps_nil)))))) (by rfl) (by rfl) (fun z => by cases z) (by decide) (by decide) (de_ix ix_seq pr_ix (de_var 5 (pv 5)) (de_tc pe_int) (fun _ _ => rfl)) pe_int ⟨by rfl, by rfl, by rfl, by rfl⟩) (nomark _)) (dss_one (ds_ret (de_tc pe_bl))) (dss_nil))
    (dss_one (ds_if (dt_cmp (op_neA (hu64 hr)) pr_ne (de_lcA [("number", 6)] rfl nd (di_any rfl (de_slice sl_all pr_sl (de_var 5 (pv 5)) (do_some (de_tc pe_int)) do_none)) (blkOk_by (N := N__law_is_net) (sc := defScope st__law_is_net) (by decide +kernel)) (by decide) (fun _ _ _ _ _ => dg_name (i := 6) nd rfl (by first | exact Or.inl rfl | exact Or.inr rfl)) (fun _ _ _ _ _ => dts_one (dt_not (dt_val (de_cf C__law_is_number rfl hr (by rfl) takesF (da_cons (de_fz (de_var 6 (pv 6))) (da_cons (de_tc pe_int) (da_cons (de_fz (de_op op_sub pr_sub (de_op op_addD pr_add (de_var 1 (pv 1)) (de_var 4 (pv 4))) (de_tc pe_int))) (da_nil)))))))) (fun _ _ _ _ _ => de_tc pe_int)) (de_lst (da_nil)) (nomark _)) (dss_one (ds_ret (de_tc pe_bl))) (dss_nil))))))
    (dss_one (ds_ret (de_cmp (op_eqA (hu64 hr)) pr_eq (de_lcA [("out", 7)] rfl nd (di_any rfl (de_var 3 (pv 3))) (blkOk_by (N := N__law_is_net) (sc := defScope st__law_is_net) (by decide +kernel)) (by decide) (fun _ _ _ _ _ => dg_name (i := 7) nd rfl (by first | exact Or.inl rfl | exact Or.inr rfl)) (fun _ _ _ _ _ => dts_one (dt_not (dt_val (de_cf C__law_is_number rfl hr (by rfl) takesF (da_cons (de_fz (de_var 7 (pv 7))) (da_cons (de_tc pe_int) (da_cons (de_fz (de_op op_sub pr_sub (de_op op_addD pr_add (de_var 1 (pv 1)) (de_blt call_len (by rfl) Z.n_len PySem.boot_len pr_len (da_cons (de_var 2 (pv 2)) (da_nil)))) (de_tc pe_int))) (da_nil)))))))) (fun _ _ _ _ _ => de_tc pe_int)) (de_lst (da_nil)) (nomark _)))))))
def N__law_odd_nets : List Str := ["net", "n", "gates", "outs", "odd"]
theorem sc__law_odd_nets : FnScope N__law_odd_nets ["net"] (defScope st__law_odd_nets) := ⟨rfl, rfl, rfl, by decide +kernel, rfl, by decide +kernel, by decide +kernel⟩
def t__law_odd_nets (K : PySem.W.Frag) : DTS := dSeq (dAsg (dVar 0) (dgTup (dgCons (dgName 1) (dgCons (dgName 2) (dgCons (dgName 3) (dgNil))))))
  (dSeq (dSet 4 (dLst (dCons (dC .non) (dCons (dFz (dTup (dNil))) (dCons (dFz (dSl slP (dVar 0) dONo (dOSome (dC (.int 2))))) (dCons (dFz (dCallP listP (dCons (dVar 0) (dNil)))) (dCons (dFz (dOp addP (dVar 0) (dTup (dCons (dC (.int 0)) (dNil))))) (dCons (dFz (dTup (dCons (dFz (dVar 1)) (dCons (dFz (dCallP listP (dCons (dVar 2) (dNil)))) (dCons (dFz (dVar 3)) (dNil)))))) (dCons (dFz (dTup (dCons (dFz (dVar 1)) (dCons (dFz (dVar 2)) (dCons (dFz (dCallP listP (dCons (dVar 3) (dNil)))) (dNil)))))) (dNil))))))))))
  (dSeq (dSet 4 (dOp addP (dVar 4) (dLst (dCons (dFz (dTup (dCons (dC (.int 0)) (dCons (dFz (dTup (dNil))) (dCons (dFz (dTup (dCons (dC (.int 0)) (dNil)))) (dNil)))))) (dCons (dFz (dTup (dCons (dC (.int 33)) (dCons (dFz (dTup (dNil))) (dCons (dFz (dTup (dCons (dC (.int 0)) (dNil)))) (dNil)))))) (dCons (dFz (dTup (dCons (dC (.bl true)) (dCons (dFz (dTup (dNil))) (dCons (dFz (dTup (dCons (dC (.int 0)) (dNil)))) (dNil)))))) (dCons (dFz (dTup (dCons (dFz (dVar 1)) (dCons (dFz (dVar 2)) (dCons (dFz (dOp addP (dVar 3) (dTup (dCons (dFz (dOp addP (dVar 1) (dCallP lenP (dCons (dVar 2) (dNil))))) (dNil))))) (dNil)))))) (dCons (dC (.int 7)) (dCons (dFz (dNewD)) (dNil))))))))))
  (dSeq (dSet 4 (dOp addP (dVar 4) (dLst (dCons (dFz (dTup (dCons (dFz (dVar 1)) (dCons (dFz (dVar 2)) (dCons (dFz (dTup (dCons (dFz (dUn negP (dC (.int 1)))) (dNil)))) (dNil)))))) (dCons (dFz (dTup (dCons (dFz (dVar 1)) (dCons (dFz (dVar 2)) (dCons (dFz (dTup (dNil))) (dNil)))))) (dNil))))))
  (dSeq (dSet 4 (dOp addP (dVar 4) (dLst (dCons (dFz (dTup (dCons (dFz (dVar 1)) (dCons (dFz (dOp addP (dVar 2) (dTup (dCons (dFz (dTup (dCons (dC (.str "and")) (dCons (dFz (dOp addP (dVar 1) (dCallP lenP (dCons (dVar 2) (dNil))))) (dCons (dC (.int 0)) (dNil)))))) (dNil))))) (dCons (dFz (dVar 3)) (dNil)))))) (dCons (dFz (dTup (dCons (dFz (dVar 1)) (dCons (dFz (dOp addP (dVar 2) (dTup (dCons (dFz (dTup (dCons (dC (.str "xor")) (dCons (dC (.int 0)) (dCons (dC (.int 0)) (dNil)))))) (dNil))))) (dCons (dFz (dVar 3)) (dNil)))))) (dCons (dC (.str "net")) (dNil)))))))
  (dSeq (dSet 4 (dOp addP (dVar 4) (dLst (dCons (dFz (dTup (dCons (dFz (dVar 1)) (dCons (dFz (dOp addP (dVar 2) (dTup (dCons (dFz (dTup (dCons (dC (.str "not")) (dCons (dC (.int 0)) (dCons (dC (.int 0)) (dNil)))))) (dNil))))) (dCons (dFz (dVar 3)) (dNil)))))) (dCons (dFz (dTup (dCons (dFz (dVar 1)) (dCons (dFz (dOp addP (dVar 2) (dTup (dCons (dFz (dTup (dCons (dC (.str "and")) (dCons (dC (.int 0)) (dNil))))) (dNil))))) (dCons (dFz (dVar 3)) (dNil)))))) (dCons (dFz (dTup (dCons (dFz (dVar 1)) (dCons (dFz (dOp addP (dVar 2) (dTup (dCons (dFz (dTup (dCons (dC (.str "0")) (dCons (dC (.int 0)) (dNil))))) (dNil))))) (dCons (dFz (dVar 3)) (dNil)))))) (dNil)))))))
  (dSeq (dSet 4 (dOp addP (dVar 4) (dLst (dCons (dFz (dTup (dCons (dFz (dVar 1)) (dCons (dFz (dOp addP (dVar 2) (dTup (dCons (dFz (dLst (dCons (dC (.str "not")) (dCons (dC (.int 0)) (dNil))))) (dNil))))) (dCons (dFz (dVar 3)) (dNil)))))) (dCons (dFz (dTup (dCons (dFz (dVar 1)) (dCons (dFz (dOp addP (dVar 2) (dTup (dCons (dFz (dTup (dCons (dC (.str "or")) (dCons (dC (.int 0)) (dCons (dC (.bl true)) (dNil)))))) (dNil))))) (dCons (dFz (dVar 3)) (dNil)))))) (dCons (dFz (dTup (dCons (dFz (dVar 1)) (dCons (dFz (dOp addP (dVar 2) (dTup (dCons (dFz (dTup (dNil))) (dNil))))) (dCons (dFz (dVar 3)) (dNil)))))) (dNil)))))))
  (dSeq (dSet 4 (dOp addP (dVar 4) (dLst (dCons (dFz (dTup (dCons (dFz (dVar 1)) (dCons (dFz (dOp addP (dVar 2) (dTup (dCons (dFz (dTup (dCons (dC .non) (dCons (dC (.int 0)) (dNil))))) (dNil))))) (dCons (dFz (dVar 3)) (dNil)))))) (dCons (dFz (dTup (dCons (dFz (dVar 1)) (dCons (dFz (dOp addP (dVar 2) (dTup (dCons (dC (.str "not")) (dNil))))) (dCons (dFz (dVar 3)) (dNil)))))) (dCons (dFz (dTup (dCons (dFz (dVar 1)) (dCons (dFz (dVar 2)) (dCons (dFz (dOp mulP (dVar 3) (dC (.int 33)))) (dNil)))))) (dNil)))))))
  (dRet (dOp addP (dVar 4) (dLst (dCons (dFz (dTup (dCons (dFz (dVar 1)) (dCons (dFz (dVar 2)) (dCons (dFz (dTup (dCons (dC .non) (dNil)))) (dNil)))))) (dNil))))))))))))
theorem w__law_odd_nets (Z : Fx K mg)  (hr : Room 0 (A.deeper (PyProof.Rows.envOfC "_law_odd_nets" (defScope st__law_odd_nets) s.heap.objs.size f cdv))) :
    DSs (cxOf (L2.CX P w) P w K mg base N__law_odd_nets "_law_odd_nets" (defScope st__law_odd_nets) f cdv A outer s H E) ⟨K, TT K, vs⟩ (fun c d _ H' => E c d H') (defBody st__law_odd_nets) (t__law_odd_nets K) := by
  have nd : N__law_odd_nets.Nodup := sc__law_odd_nets.nd
  have hP : PassesOwn (model P w) (cxOf (L2.CX P w) P w K mg base N__law_odd_nets "_law_odd_nets" (defScope st__law_odd_nets) f cdv A outer s H E).A (cxOf (L2.CX P w) P w K mg base N__law_odd_nets "_law_odd_nets" (defScope st__law_odd_nets) f cdv A outer s H E).env (cxOf (L2.CX P w) P w K mg base N__law_odd_nets "_law_odd_nets" (defScope st__law_odd_nets) f cdv A outer s H E).xe := passes_of rfl
  exact dss_cons (ds_asg (de_var 0 (pv 0)) (dg_tup rfl rfl (dgs_cons (dg_name (i := 1) nd rfl (by first | exact Or.inl rfl | exact Or.inr rfl)) (dgs_cons (dg_name (i := 2) nd rfl (by first | exact Or.inl rfl | exact Or.inr rfl)) (dgs_cons (dg_name (i := 3) nd rfl (by first | exact Or.inl rfl | exact Or.inr rfl)) (dgs_nil)))) (GL.len (gl_cons (gv_name) (gl_cons (gv_name) (gl_cons (gv_name) (gl_nil)))))))
    (dss_cons (ds_set (i := 4) nd rfl (by first | exact Or.inl rfl | exact Or.inr rfl) (de_lst (da_cons (de_tc pe_non) (da_cons (de_fz (de_tup (da_nil))) (da_cons (de_fz (de_slice sl_all pr_sl (de_var 0 (pv 0)) do_none (do_some (de_tc pe_int)))) (da_cons (de_fz (de_bty call_list_of (by rfl) Z.n_list bootL pr_list (da_cons (de_var 0 (pv 0)) (da_nil)))) (da_cons (de_fz (de_op op_addD pr_add (de_var 0 (pv 0)) (de_tup (da_cons (de_tc pe_int) (da_nil))))) (da_cons (de_fz (de_tup (da_cons (de_fz (de_var 1 (pv 1))) (da_cons (de_fz (de_bty call_list_of (by rfl) Z.n_list bootL pr_list (da_cons (de_var 2 (pv 2)) (da_nil)))) (da_cons (de_fz (de_var 3 (pv 3))) (da_nil)))))) (da_cons (de_fz (de_tup (da_cons (de_fz (de_var 1 (pv 1))) (da_cons (de_fz (de_var 2 (pv 2))) (da_cons (de_fz (de_bty call_list_of (by rfl) Z.n_list bootL pr_list (da_cons (de_var 3 (pv 3)) (da_nil)))) (da_nil)))))) (da_nil))))))))))
    (dss_cons (ds_set (i := 4) nd rfl (by first | exact Or.inl rfl | exact Or.inr rfl) (de_op op_addD pr_add (de_var 4 (pv 4)) (de_lst (da_cons (de_fz (de_tup (da_cons (de_tc pe_int) (da_cons (de_fz (de_tup (da_nil))) (da_cons (de_fz (de_tup (da_cons (de_tc pe_int) (da_nil)))) (da_nil)))))) (da_cons (de_fz (de_tup (da_cons (de_tc pe_int) (da_cons (de_fz (de_tup (da_nil))) (da_cons (de_fz (de_tup (da_cons (de_tc pe_int) (da_nil)))) (da_nil)))))) (da_cons (de_fz (de_tup (da_cons (de_tc pe_bl) (da_cons (de_fz (de_tup (da_nil))) (da_cons (de_fz (de_tup (da_cons (de_tc pe_int) (da_nil)))) (da_nil)))))) (da_cons (de_fz (de_tup (da_cons (de_fz (de_var 1 (pv 1))) (da_cons (de_fz (de_var 2 (pv 2))) (da_cons (de_fz (de_op op_addD pr_add (de_var 3 (pv 3)) (de_tup (da_cons (de_fz (de_op op_addD pr_add (de_var 1 (pv 1)) (de_blt call_len (by rfl) Z.n_len PySem.boot_len pr_len (da_cons (de_var 2 (pv 2)) (da_nil))))) (da_nil))))) (da_nil)))))) (da_cons (de_tc pe_int) (da_cons (de_fz (de_dnew)) (da_nil))))))))))
    (dss_cons (ds_set (i := 4) nd rfl (by first | exact Or.inl rfl | exact Or.inr rfl) (de_op op_addD pr_add (de_var 4 (pv 4)) (de_lst (da_cons (de_fz (de_tup (da_cons (de_fz (de_var 1 (pv 1))) (da_cons (de_fz (de_var 2 (pv 2))) (da_cons (de_fz (de_tup (da_cons (de_fz (de_un un_neg pr_neg (de_tc pe_int))) (da_nil)))) (da_nil)))))) (da_cons (de_fz (de_tup (da_cons (de_fz (de_var 1 (pv 1))) (da_cons (de_fz (de_var 2 (pv 2))) (da_cons (de_fz (de_tup (da_nil))) (da_nil)))))) (da_nil))))))
    (dss_cons (ds_set (i := 4) nd rfl (by first | exact Or.inl rfl | exact Or.inr rfl) (de_op op_addD pr_add (de_var 4 (pv 4)) (de_lst (da_cons (de_fz (de_tup (da_cons (de_fz (de_var 1 (pv 1))) (da_cons (de_fz (de_op op_addD pr_add (de_var 2 (pv 2)) (de_tup (da_cons (de_fz (de_tup (da_cons (de_tc pe_str) (da_cons (de_fz (de_op op_addD pr_add (de_var 1 (pv 1)) (de_blt call_len (by rfl) Z.n_len PySem.boot_len pr_len (da_cons (de_var 2 (pv 2)) (da_nil))))) (da_cons (de_tc pe_int) (da_nil)))))) (da_nil))))) (da_cons (de_fz (de_var 3 (pv 3))) (da_nil)))))) (da_cons (de_fz (de_tup (da_cons (de_fz (de_var 1 (pv 1))) (da_cons (de_fz (de_op op_addD pr_add (de_var 2 (pv 2)) (de_tup (da_cons (de_fz (de_tup (da_cons (de_tc pe_str) (da_cons (de_tc pe_int) (da_cons (de_tc pe_int) (da_nil)))))) (da_nil))))) (da_cons (de_fz (de_var 3 (pv 3))) (da_nil)))))) (da_cons (de_tc pe_str) (da_nil)))))))
    (dss_cons (ds_set (i := 4) nd rfl (by first | exact Or.inl rfl | exact Or.inr rfl) (de_op op_addD pr_add (de_var 4 (pv 4)) (de_lst (da_cons (de_fz (de_tup (da_cons (de_fz (de_var 1 (pv 1))) (da_cons (de_fz (de_op op_addD pr_add (de_var 2 (pv 2)) (de_tup (da_cons (de_fz (de_tup (da_cons (de_tc pe_str) (da_cons (de_tc pe_int) (da_cons (de_tc pe_int) (da_nil)))))) (da_nil))))) (da_cons (de_fz (de_var 3 (pv 3))) (da_nil)))))) (da_cons (de_fz (de_tup (da_cons (de_fz (de_var 1 (pv 1))) (da_cons (de_fz (de_op op_addD pr_add (de_var 2 (pv 2)) (de_tup (da_cons (de_fz (de_tup (da_cons (de_tc pe_str) (da_cons (de_tc pe_int) (da_nil))))) (da_nil))))) (da_cons (de_fz (de_var 3 (pv 3))) (da_nil)))))) (da_cons (de_fz (de_tup (da_cons (de_fz (de_var 1 (pv 1))) (da_cons (de_fz (de_op op_addD pr_add (de_var 2 (pv 2)) (de_tup (da_cons (de_fz (de_tup (da_cons (de_tc pe_str) (da_cons (de_tc pe_int) (da_nil))))) (da_nil))))) (da_cons (de_fz (de_var 3 (pv 3))) (da_nil)))))) (da_nil)))))))
    (dss_cons (ds_set (i := 4) nd rfl (by first | exact Or.inl rfl | exact Or.inr rfl) (de_op op_addD pr_add (de_var 4 (pv 4)) (de_lst (da_cons (de_fz (de_tup (da_cons (de_fz (de_var 1 (pv 1))) (da_cons (de_fz (de_op op_addD pr_add (de_var 2 (pv 2)) (de_tup (da_cons (de_fz (de_lst (da_cons (de_tc pe_str) (da_cons (de_tc pe_int) (da_nil))))) (da_nil))))) (da_cons (de_fz (de_var 3 (pv 3))) (da_nil)))))) (da_cons (de_fz (de_tup (da_cons (de_fz (de_var 1 (pv 1))) (da_cons (de_fz (de_op op_addD pr_add (de_var 2 (pv 2)) (de_tup (da_cons (de_fz (de_tup (da_cons (de_tc pe_str) (da_cons (de_tc pe_int) (da_cons (de_tc pe_bl) (da_nil)))))) (da_nil))))) (da_cons (de_fz (de_var 3 (pv 3))) (da_nil)))))) (da_cons (de_fz (de_tup (da_cons (de_fz (de_var 1 (pv 1))) (da_cons (de_fz (de_op op_addD pr_add (de_var 2 (pv 2)) (de_tup (da_cons (de_fz (de_tup (da_nil))) (da_nil))))) (da_cons (de_fz (de_var 3 (pv 3))) (da_nil)))))) (da_nil)))))))
    (dss_cons (ds_set (i := 4) nd rfl (by first | exact Or.inl rfl | exact Or.inr rfl) (de_op op_addD pr_add (de_var 4 (pv 4)) (de_lst (da_cons (de_fz (de_tup (da_cons (de_fz (de_var 1 (pv 1))) (da_cons (de_fz (de_op op_addD pr_add (de_var 2 (pv 2)) (de_tup (da_cons (de_fz (de_tup (da_cons (de_tc pe_non) (da_cons (de_tc pe_int) (da_nil))))) (da_nil))))) (da_cons (de_fz (de_var 3 (pv 3))) (da_nil)))))) (da_cons (de_fz (de_tup (da_cons (de_fz (de_var 1 (pv 1))) (da_cons (de_fz (de_op op_addD pr_add (de_var 2 (pv 2)) (de_tup (da_cons (de_tc pe_str) (da_nil))))) (da_cons (de_fz (de_var 3 (pv 3))) (da_nil)))))) (da_cons (de_fz (de_tup (da_cons (de_fz (de_var 1 (pv 1))) (da_cons (de_fz (de_var 2 (pv 2))) (da_cons (de_fz (de_op op_mulD pr_mul (de_var 3 (pv 3)) (de_tc pe_int))) (da_nil)))))) (da_nil)))))))
    (dss_one (ds_ret (de_op op_addD pr_add (de_var 4 (pv 4)) (de_lst (da_cons (de_fz (de_tup (da_cons (de_fz (de_var 1 (pv 1))) (da_cons (de_fz (de_var 2 (pv 2))) (da_cons (de_fz (de_tup (da_cons (de_tc pe_non) (da_nil)))) (da_nil)))))) (da_nil)))))))))))))
def N_law : List Str := ["script", "pen", "turn", "n", "net", "text", "again", "word", "told", "due", "more", "thing", "was", "is_due", "odd", "chain", "wide", "k"]
theorem sc_law : FnScope N_law ["script"] (defScope st_law) := ⟨rfl, rfl, rfl, by decide +kernel, rfl, by decide +kernel, by decide +kernel⟩
def t_law (K : PySem.W.Frag) : DTS := dSeq (dSet 1 (dCall ((sp__law_open K)) (dCons (dFz (dVar 0)) (dNil))))
  (dSeq (dFor (dRng1 (dCons (dC (.int 2)) (dNil))) (dgName 2) (dSeq (dSet 3 (dOp addP (dC (.int 1)) (dCall ((sp__law_take K)) (dCons (dVar 1) (dCons (dC (.int 6)) (dNil))))))
  (dSeq (dSet 4 (dCall ((sp__law_any_net K)) (dCons (dVar 1) (dCons (dFz (dVar 3)) (dCons (dC (.int 9)) (dCons (dFz (dOp addP (dC (.int 1)) (dCall ((sp__law_take K)) (dCons (dVar 1) (dCons (dC (.int 3)) (dNil)))))) (dNil)))))))
  (dSeq (dSet 5 (dCallP reprP2 (dCons (dVar 4) (dNil))))
  (dSeq (dFor (dRng1 (dCons (dC (.int 6)) (dNil))) (dgName 6) (dSeq (dSet 7 (dCall ((sp__law_any_word K)) (dCons (dVar 1) (dCons (dFz (dVar 3)) (dNil)))))
  (dSeq (dPar 8 9 (dCons (dFz (dCall ((sp_run K)) (dCons (dFz (dVar 4)) (dCons (dFz (dVar 7)) (dNil))))) (dCons (dFz (dCall ((sp__law_run K)) (dCons (dFz (dVar 4)) (dCons (dFz (dVar 7)) (dNil))))) (dNil))))
  (dSeq (dIfS (dOr (dTst (dOp (eqP true) (dCallP reprP2 (dCons (dVar 8) (dNil))) (dCallP reprP2 (dCons (dVar 9) (dNil))))) (dTst (dOp (eqP true) (dCallP reprP2 (dCons (dCall ((sp_run K)) (dCons (dFz (dVar 4)) (dCons (dFz (dVar 7)) (dNil)))) (dNil))) (dCallP reprP2 (dCons (dVar 9) (dNil)))))) (dRet (dC (.bl false))) (dNext))
  (dFor (dIt (dSl slP (dCall ((sp__law_settled K)) (dCons (dFz (dVar 7)) (dNil))) dONo (dOSome (dC (.int 5))))) (dgName 10) (dIfS (dNot (dTst (dCall ((sp__law_is_within K)) (dCons (dFz (dCall ((sp_run K)) (dCons (dFz (dVar 4)) (dCons (dFz (dVar 10)) (dNil))))) (dCons (dFz (dVar 8)) (dNil)))))) (dRet (dC (.bl false))) (dNext)))))))
  (dSeq (dFor (dIt (dOp addP (dOp addP (dCall ((sp__law_odd_nets K)) (dCons (dFz (dVar 4)) (dNil))) (dLst (dCons (dFz (dVar 4)) (dNil)))) (dLc (dRng1 (dCons (dC (.int 6)) (dNil))) (dgName 6) (dYes) (dFz (dCall ((sp__law_bent K)) (dCons (dVar 1) (dCons (dFz (dVar 4)) (dNil))))) [6]))) (dgName 11) (dSeq (dPar 12 13 (dCons (dFz (dCallP reprP2 (dCons (dVar 11) (dNil)))) (dCons (dFz (dCall ((sp__law_is_net K)) (dCons (dFz (dVar 11)) (dNil)))) (dNil))))
  (dSeq (dIfS (dOr (dTst (dOp (eqP true) (dCallP reprP2 (dCons (dCall ((sp_is_net K)) (dCons (dFz (dVar 11)) (dNil))) (dNil))) (dCallP reprP2 (dCons (dVar 13) (dNil))))) (dTst (dOp (eqP true) (dCallP reprP2 (dCons (dVar 11) (dNil))) (dVar 12)))) (dRet (dC (.bl false))) (dNext))
  (dIfS (dAnd (dNot (dTst (dVar 13))) (dTst (dOp (eqP true) (dLam K (clw__law_word K) "none" (dCall ((sp_run K)) (dCons (dFz (dVar 11)) (dCons (dC .non) (dNil))))) (dC (.str "net"))))) (dRet (dC (.bl false))) (dNext)))))
  (dSeq (dFor (dIt (dLst (dCons (dC .non) (dCons (dC (.str "")) (dCons (dC (.str "2")) (dCons (dFz (dLst (dCons (dC (.str "0")) (dNil)))) (dCons (dC (.int 0)) (dCons (dFz (dOp mulP (dC (.str "0")) (dC (.int 33)))) (dNil))))))))) (dgName 14) (dIfS (dTst (dOp (eqP true) (dLam K (clw__law_word K) "none" (dCall ((sp_run K)) (dCons (dFz (dVar 4)) (dCons (dFz (dVar 14)) (dNil))))) (dC (.str "word")))) (dRet (dC (.bl false))) (dNext)))
  (dSeq (dFor (dIt (dLst (dCons (dFz (dOp mulP (dC (.str "0")) (dOp addP (dVar 3) (dC (.int 1))))) (dCons (dFz (dOp mulP (dC (.str "?")) (dC (.int 32)))) (dCons (dFz (dOp mulP (dC (.str "1")) (dOp subP (dVar 3) (dC (.int 1))))) (dNil)))))) (dgName 14) (dIfS (dAnd (dTst (dOp (eqP true) (dVar 14) (dC (.str "")))) (dTst (dOp (eqP true) (dLam K (clw__law_word K) "none" (dCall ((sp_run K)) (dCons (dFz (dVar 4)) (dCons (dFz (dVar 14)) (dNil))))) (dC (.str "match"))))) (dRet (dC (.bl false))) (dNext)))
  (dIfS (dTst (dOp (eqP true) (dCallP reprP2 (dCons (dVar 4) (dNil))) (dVar 5))) (dRet (dC (.bl false))) (dNext))))))))))
  (dSeq (dSet 15 (dTup (dCons (dC (.int 1)) (dCons (dFz (dCallP tupleP (dCons (dLc (dRng1 (dCons (dC (.int 2000)) (dNil))) (dgName 17) (dYes) (dFz (dTup (dCons (dC (.str "not")) (dCons (dFz (dVar 17)) (dNil))))) [17]) (dNil)))) (dCons (dFz (dTup (dCons (dC (.int 2000)) (dCons (dC (.int 1999)) (dNil))))) (dNil))))))
  (dSeq (dIfS (dOr (dTst (dOp (eqP true) (dCall ((sp_run K)) (dCons (dFz (dVar 15)) (dCons (dC (.str "0")) (dNil)))) (dC (.str "01")))) (dTst (dOp (eqP true) (dCall ((sp_run K)) (dCons (dFz (dVar 15)) (dCons (dC (.str "?")) (dNil)))) (dC (.str "??"))))) (dRet (dC (.bl false))) (dNext))
  (dSeq (dIfS (dTst (dOp (isBP true) (dCall ((sp_is_net K)) (dCons (dFz (dTup (dCons (dC (.int 1)) (dCons (dFz (dOp addP (dOp mulP (dTup (dCons (dFz (dTup (dCons (dC (.str "not")) (dCons (dC (.int 0)) (dNil))))) (dNil))) (dC (.int 40))) (dTup (dCons (dFz (dTup (dCons (dC (.str "xor")) (dCons (dC (.int 0)) (dCons (dC (.int 0)) (dNil)))))) (dNil))))) (dCons (dFz (dTup (dCons (dC (.int 0)) (dNil)))) (dNil)))))) (dNil))) (dC (.bl false)))) (dRet (dC (.bl false))) (dNext))
  (dSeq (dSet 16 (dCall ((sp__law_any_net K)) (dCons (dVar 1) (dCons (dC (.int 32)) (dCons (dC (.int 40)) (dCons (dC (.int 32)) (dNil)))))))
  (dSeq (dSet 7 (dCall ((sp__law_any_word K)) (dCons (dVar 1) (dCons (dC (.int 32)) (dNil)))))
  (dRet (dAndV (dOp (isBP false) (dCall ((sp_is_net K)) (dCons (dFz (dVar 16)) (dNil))) (dC (.bl true))) (dOp (eqP false) (dCall ((sp_run K)) (dCons (dFz (dVar 16)) (dCons (dFz (dVar 7)) (dNil)))) (dCall ((sp__law_run K)) (dCons (dFz (dVar 16)) (dCons (dFz (dVar 7)) (dNil)))))))))))))
theorem w_law (Z : Fx K mg) (C__law_any_net : CallOk P w K mg base (TT K) 4 "_law_any_net" ["pen", "n", "most", "m"] (sp__law_any_net K)) (C__law_any_word : CallOk P w K mg base (TT K) 4 "_law_any_word" ["pen", "n"] (sp__law_any_word K)) (C__law_bent : CallOk P w K mg base (TT K) 8 "_law_bent" ["pen", "value"] (sp__law_bent K)) (C__law_is_net : CallOk P w K mg base (TT K) 2 "_law_is_net" ["thing"] (sp__law_is_net K)) (C__law_is_within : CallOk P w K mg base (TT K) 1 "_law_is_within" ["word", "other"] (sp__law_is_within K)) (C__law_odd_nets : CallOk P w K mg base (TT K) 1 "_law_odd_nets" ["net"] (sp__law_odd_nets K)) (C__law_open : CallOk P w K mg base (TT K) 1 "_law_open" ["script"] (sp__law_open K)) (C__law_run : CallOk P w K mg base (TT K) 2 "_law_run" ["net", "word"] (sp__law_run K)) (C__law_settled : CallOk P w K mg base (TT K) 1 "_law_settled" ["word"] (sp__law_settled K)) (C__law_take : CallOk P w K mg base (TT K) 2 "_law_take" ["pen", "many"] (sp__law_take K)) (C_is_net : CallOk P w K mg base (TT K) 3 "is_net" ["thing"] (sp_is_net K)) (C_run : CallOk P w K mg base (TT K) 5 "run" ["net", "word"] (sp_run K)) (hgd : A.guards = some []) (L_me : LamAt K mg base exs.lams ("law", none)) (hc : cdv = .ref (codeAd K ("law", none))) (hr : Room 10 (A.deeper (PyProof.Rows.envOfC "law" (defScope st_law) s.heap.objs.size f cdv))) :
    DSs (cxOf (L2.CX P w) P w K mg base N_law "law" (defScope st_law) f cdv A outer s H E) ⟨K, TT K, vs⟩ (fun c d _ H' => E c d H') (defBody st_law) (t_law K) := by
  have nd : N_law.Nodup := sc_law.nd
  have hP : PassesOwn (model P w) (cxOf (L2.CX P w) P w K mg base N_law "law" (defScope st_law) f cdv A outer s H E).A (cxOf (L2.CX P w) P w K mg base N_law "law" (defScope st_law) f cdv A outer s H E).env (cxOf (L2.CX P w) P w K mg base N_law "law" (defScope st_law) f cdv A outer s H E).xe := passes_of rfl
  exact dss_cons (ds_set (i := 1) nd rfl (by first | exact Or.inl rfl | exact Or.inr rfl) (de_cf C__law_open rfl hr (by rfl) (takes_of rfl rfl rfl rfl) (da_cons (de_fz (de_var 0 (pv 0))) (da_nil))))
    (dss_cons (ds_for hP rfl (di_rng1 (by rfl) Z.n_range (da_cons (de_tc pe_int) (da_nil))) (dg_name (i := 2) nd rfl (by first | exact Or.inl rfl | exact Or.inr rfl)) (dss_cons (ds_set (i := 3) nd rfl (by first | exact Or.inl rfl | exact Or.inr rfl) (de_op op_addD pr_add (de_tc pe_int) (de_cf C__law_take rfl hr (by rfl) (takes_of rfl rfl rfl rfl) (da_cons (de_var 1 (pv 1)) (da_cons (de_tc pe_int) (da_nil))))))
    (dss_cons (ds_set (i := 4) nd rfl (by first | exact Or.inl rfl | exact Or.inr rfl) (de_cf C__law_any_net rfl hr (by rfl) (takes_of rfl rfl rfl rfl) (da_cons (de_var 1 (pv 1)) (da_cons (de_fz (de_var 3 (pv 3))) (da_cons (de_tc pe_int) (da_cons (de_fz (de_op op_addD pr_add (de_tc pe_int) (de_cf C__law_take rfl hr (by rfl) (takes_of rfl rfl rfl rfl) (da_cons (de_var 1 (pv 1)) (da_cons (de_tc pe_int) (da_nil)))))) (da_nil)))))))
    (dss_cons (ds_set (i := 5) nd rfl (by first | exact Or.inl rfl | exact Or.inr rfl) (de_blt (call_repr2 hgd (hu66 hr)) (by rfl) Z.n_repr boot_repr pr_repr2 (da_cons (de_var 4 (pv 4)) (da_nil))))
    (dss_cons (ds_for hP rfl (di_rng1 (by rfl) Z.n_range (da_cons (de_tc pe_int) (da_nil))) (dg_name (i := 6) nd rfl (by first | exact Or.inl rfl | exact Or.inr rfl)) (dss_cons (ds_set (i := 7) nd rfl (by first | exact Or.inl rfl | exact Or.inr rfl) (de_cf C__law_any_word rfl hr (by rfl) (takes_of rfl rfl rfl rfl) (da_cons (de_var 1 (pv 1)) (da_cons (de_fz (de_var 3 (pv 3))) (da_nil)))))
    (dss_cons (ds_par (i := 8) (j := 9) rfl nd rfl rfl (by decide) rfl rfl (da_cons (de_fz (de_cf C_run rfl hr (by rfl) (takes_of rfl rfl rfl rfl) (da_cons (de_fz (de_var 4 (pv 4))) (da_cons (de_fz (de_var 7 (pv 7))) (da_nil))))) (da_cons (de_fz (de_cf C__law_run rfl hr (by rfl) (takes_of rfl rfl rfl rfl) (da_cons (de_fz (de_var 4 (pv 4))) (da_cons (de_fz (de_var 7 (pv 7))) (da_nil))))) (da_nil))) rfl)
    (dss_cons (ds_if (DW.dt (dw_or (dt_cmp (op_neA (hu64 hr)) pr_ne (de_blt (call_repr2 hgd (hu66 hr)) (by rfl) Z.n_repr boot_repr pr_repr2 (da_cons (de_var 8 (pv 8)) (da_nil))) (de_blt (call_repr2 hgd (hu66 hr)) (by rfl) Z.n_repr boot_repr pr_repr2 (da_cons (de_var 9 (pv 9)) (da_nil))) (nomark _)) (dw_or1 (dt_cmp (op_neA (hu64 hr)) pr_ne (de_blt (call_repr2 hgd (hu66 hr)) (by rfl) Z.n_repr boot_repr pr_repr2 (da_cons (de_cf C_run rfl hr (by rfl) (takes_of rfl rfl rfl rfl) (da_cons (de_fz (de_var 4 (pv 4))) (da_cons (de_fz (de_var 7 (pv 7))) (da_nil)))) (da_nil))) (de_blt (call_repr2 hgd (hu66 hr)) (by rfl) Z.n_repr boot_repr pr_repr2 (da_cons (de_var 9 (pv 9)) (da_nil))) (nomark _))))) (dss_one (ds_ret (de_tc pe_bl))) (dss_nil))
    (dss_one (ds_for hP rfl (di_any rfl (de_slice sl_all pr_sl (de_cf C__law_settled rfl hr (by rfl) (takes_of rfl rfl rfl rfl) (da_cons (de_fz (de_var 7 (pv 7))) (da_nil))) do_none (do_some (de_tc pe_int)))) (dg_name (i := 10) nd rfl (by first | exact Or.inl rfl | exact Or.inr rfl)) (dss_one (ds_if (dt_not (dt_val (de_cf C__law_is_within rfl hr (by rfl) (takes_of rfl rfl rfl rfl) (da_cons (de_fz (de_cf C_run rfl hr (by rfl) (takes_of rfl rfl rfl rfl) (da_cons (de_fz (de_var 4 (pv 4))) (da_cons (de_fz (de_var 10 (pv 10))) (da_nil))))) (da_cons (de_fz (de_var 8 (pv 8))) (da_nil)))))) (dss_one (ds_ret (de_tc pe_bl))) (dss_nil)))))))))
    (dss_cons (ds_for hP rfl (di_any rfl (de_op op_addD pr_add (de_op op_addD pr_add (de_cf C__law_odd_nets rfl hr (by rfl) (takes_of rfl rfl rfl rfl) (da_cons (de_fz (de_var 4 (pv 4))) (da_nil))) (de_lst (da_cons (de_fz (de_var 4 (pv 4))) (da_nil)))) (de_lcA [("again", 6)] rfl nd (di_rng1 (by rfl) Z.n_range (da_cons (de_tc pe_int) (da_nil))) (blkOk_by (N := N_law) (sc := defScope st_law) (by decide +kernel)) (by decide) (fun _ _ _ _ _ => dg_name (i := 6) nd rfl (by first | exact Or.inl rfl | exact Or.inr rfl)) (fun _ _ _ _ _ => dts_nil) (fun _ _ _ _ _ => de_fz (de_cf C__law_bent rfl hr (by rfl) takesF (da_cons (de_var 1 (pv 1)) (da_cons (de_fz (de_var 4 (pv 4))) (da_nil)))))))) (dg_name (i := 11) nd rfl (by first | exact Or.inl rfl | exact Or.inr rfl)) (dss_cons (ds_par (i := 12) (j := 13) rfl nd rfl rfl (by decide) rfl rfl (da_cons (de_fz (de_blt (call_repr2 hgd (hu66 hr)) (by rfl) Z.n_repr boot_repr pr_repr2 (da_cons (de_var 11 (pv 11)) (da_nil)))) (da_cons (de_fz (de_cf C__law_is_net rfl hr (by rfl) (takes_of rfl rfl rfl rfl) (da_cons (de_fz (de_var 11 (pv 11))) (da_nil)))) (da_nil))) rfl)
    (dss_cons (ds_if (DW.dt (dw_or (dt_cmp (op_neA (hu64 hr)) pr_ne (de_blt (call_repr2 hgd (hu66 hr)) (by rfl) Z.n_repr boot_repr pr_repr2 (da_cons (de_cf C_is_net rfl hr (by rfl) (takes_of rfl rfl rfl rfl) (da_cons (de_fz (de_var 11 (pv 11))) (da_nil))) (da_nil))) (de_blt (call_repr2 hgd (hu66 hr)) (by rfl) Z.n_repr boot_repr pr_repr2 (da_cons (de_var 13 (pv 13)) (da_nil))) (nomark _)) (dw_or1 (dt_cmp (op_neA (hu64 hr)) pr_ne (de_blt (call_repr2 hgd (hu66 hr)) (by rfl) Z.n_repr boot_repr pr_repr2 (da_cons (de_var 11 (pv 11)) (da_nil))) (de_var 12 (pv 12)) (nomark _))))) (dss_one (ds_ret (de_tc pe_bl))) (dss_nil))
    (dss_one (ds_if (DW.dt (dw_and (dt_not (dt_val (de_var 13 (pv 13)))) (dw_and1 (dt_cmp (op_neA (hu64 hr)) pr_ne (de_lamF Z.W__law_word L_me rfl rfl (by rfl) (by rfl) hc hr (lamS_by (sc := defScope st_law) (by decide +kernel)) (fun A outer s H E f c' hr2 => de_cf C_run rfl hr2 (by rfl) (takes_of rfl rfl rfl rfl) (da_cons (de_fz (de_var 11 (pv 11))) (da_cons (de_tc pe_non) (da_nil))))) (de_tc pe_str) (nomark _))))) (dss_one (ds_ret (de_tc pe_bl))) (dss_nil))))))
    (dss_cons (ds_for hP rfl (di_any rfl (de_lst (da_cons (de_tc pe_non) (da_cons (de_tc pe_str) (da_cons (de_tc pe_str) (da_cons (de_fz (de_lst (da_cons (de_tc pe_str) (da_nil)))) (da_cons (de_tc pe_int) (da_cons (de_fz (de_op op_mulD pr_mul (de_tc pe_str) (de_tc pe_int))) (da_nil))))))))) (dg_name (i := 14) nd rfl (by first | exact Or.inl rfl | exact Or.inr rfl)) (dss_one (ds_if (dt_cmp (op_neA (hu64 hr)) pr_ne (de_lamF Z.W__law_word L_me rfl rfl (by rfl) (by rfl) hc hr (lamS_by (sc := defScope st_law) (by decide +kernel)) (fun A outer s H E f c' hr2 => de_cf C_run rfl hr2 (by rfl) (takes_of rfl rfl rfl rfl) (da_cons (de_fz (de_var 4 (pv 4))) (da_cons (de_fz (de_var 14 (pv 14))) (da_nil))))) (de_tc pe_str) (nomark _)) (dss_one (ds_ret (de_tc pe_bl))) (dss_nil))))
    (dss_cons (ds_for hP rfl (di_any rfl (de_lst (da_cons (de_fz (de_op op_mulD pr_mul (de_tc pe_str) (de_op op_addD pr_add (de_var 3 (pv 3)) (de_tc pe_int)))) (da_cons (de_fz (de_op op_mulD pr_mul (de_tc pe_str) (de_tc pe_int))) (da_cons (de_fz (de_op op_mulD pr_mul (de_tc pe_str) (de_op op_sub pr_sub (de_var 3 (pv 3)) (de_tc pe_int)))) (da_nil)))))) (dg_name (i := 14) nd rfl (by first | exact Or.inl rfl | exact Or.inr rfl)) (dss_one (ds_if (DW.dt (dw_and (dt_cmp (op_neA (hu64 hr)) pr_ne (de_var 14 (pv 14)) (de_tc pe_str) (nomark _)) (dw_and1 (dt_cmp (op_neA (hu64 hr)) pr_ne (de_lamF Z.W__law_word L_me rfl rfl (by rfl) (by rfl) hc hr (lamS_by (sc := defScope st_law) (by decide +kernel)) (fun A outer s H E f c' hr2 => de_cf C_run rfl hr2 (by rfl) (takes_of rfl rfl rfl rfl) (da_cons (de_fz (de_var 4 (pv 4))) (da_cons (de_fz (de_var 14 (pv 14))) (da_nil))))) (de_tc pe_str) (nomark _))))) (dss_one (ds_ret (de_tc pe_bl))) (dss_nil))))
    (dss_one (ds_if (dt_cmp (op_neA (hu64 hr)) pr_ne (de_blt (call_repr2 hgd (hu66 hr)) (by rfl) Z.n_repr boot_repr pr_repr2 (da_cons (de_var 4 (pv 4)) (da_nil))) (de_var 5 (pv 5)) (nomark _)) (dss_one (ds_ret (de_tc pe_bl))) (dss_nil)))))))))))
    (dss_cons (ds_set (i := 15) nd rfl (by first | exact Or.inl rfl | exact Or.inr rfl) (de_tup (da_cons (de_tc pe_int) (da_cons (de_fz (de_bty call_tuple_of (by rfl) Z.n_tuple bootT pr_tuple (da_cons (de_lcA [("k", 17)] rfl nd (di_rng1 (by rfl) Z.n_range (da_cons (de_tc pe_int) (da_nil))) (blkOk_by (N := N_law) (sc := defScope st_law) (by decide +kernel)) (by decide) (fun _ _ _ _ _ => dg_name (i := 17) nd rfl (by first | exact Or.inl rfl | exact Or.inr rfl)) (fun _ _ _ _ _ => dts_nil) (fun _ _ _ _ _ => de_fz (de_tup (da_cons (de_tc pe_str) (da_cons (de_fz (de_var 17 (pv 17))) (da_nil)))))) (da_nil)))) (da_cons (de_fz (de_tup (da_cons (de_tc pe_int) (da_cons (de_tc pe_int) (da_nil))))) (da_nil))))))
    (dss_cons (ds_if (DW.dt (dw_or (dt_cmp (op_neA (hu64 hr)) pr_ne (de_cf C_run rfl hr (by rfl) (takes_of rfl rfl rfl rfl) (da_cons (de_fz (de_var 15 (pv 15))) (da_cons (de_tc pe_str) (da_nil)))) (de_tc pe_str) (nomark _)) (dw_or1 (dt_cmp (op_neA (hu64 hr)) pr_ne (de_cf C_run rfl hr (by rfl) (takes_of rfl rfl rfl rfl) (da_cons (de_fz (de_var 15 (pv 15))) (da_cons (de_tc pe_str) (da_nil)))) (de_tc pe_str) (nomark _))))) (dss_one (ds_ret (de_tc pe_bl))) (dss_nil))
    (dss_cons (ds_if (dt_cmp op_isnot_bl pr_notB (de_cf C_is_net rfl hr (by rfl) (takes_of rfl rfl rfl rfl) (da_cons (de_fz (de_tup (da_cons (de_tc pe_int) (da_cons (de_fz (de_op op_addD pr_add (de_op op_mulD pr_mul (de_tup (da_cons (de_fz (de_tup (da_cons (de_tc pe_str) (da_cons (de_tc pe_int) (da_nil))))) (da_nil))) (de_tc pe_int)) (de_tup (da_cons (de_fz (de_tup (da_cons (de_tc pe_str) (da_cons (de_tc pe_int) (da_cons (de_tc pe_int) (da_nil)))))) (da_nil))))) (da_cons (de_fz (de_tup (da_cons (de_tc pe_int) (da_nil)))) (da_nil)))))) (da_nil))) (de_tc pe_bl) (nomark _)) (dss_one (ds_ret (de_tc pe_bl))) (dss_nil))
    (dss_cons (ds_set (i := 16) nd rfl (by first | exact Or.inl rfl | exact Or.inr rfl) (de_cf C__law_any_net rfl hr (by rfl) (takes_of rfl rfl rfl rfl) (da_cons (de_var 1 (pv 1)) (da_cons (de_tc pe_int) (da_cons (de_tc pe_int) (da_cons (de_tc pe_int) (da_nil)))))))
    (dss_cons (ds_set (i := 7) nd rfl (by first | exact Or.inl rfl | exact Or.inr rfl) (de_cf C__law_any_word rfl hr (by rfl) (takes_of rfl rfl rfl rfl) (da_cons (de_var 1 (pv 1)) (da_cons (de_tc pe_int) (da_nil)))))
    (dss_one (ds_ret (de_and (de_cmp op_is_bl pr_isB (de_cf C_is_net rfl hr (by rfl) (takes_of rfl rfl rfl rfl) (da_cons (de_fz (de_var 16 (pv 16))) (da_nil))) (de_tc pe_bl) (nomark _)) (de_one (de_cmp (op_eqA (hu64 hr)) pr_eq (de_cf C_run rfl hr (by rfl) (takes_of rfl rfl rfl rfl) (da_cons (de_fz (de_var 16 (pv 16))) (da_cons (de_fz (de_var 7 (pv 7))) (da_nil)))) (de_cf C__law_run rfl hr (by rfl) (takes_of rfl rfl rfl rfl) (da_cons (de_fz (de_var 16 (pv 16))) (da_cons (de_fz (de_var 7 (pv 7))) (da_nil)))) (nomark _))))))))))))
end
end Lw

/-! text DLLb -/
set_option Elab.async false
set_option linter.all false
set_option maxRecDepth 100000
namespace DL
open PySem PySem.Spec L2
section
variable {a b : Addr} {kvs : List (Str × Int)} {neg : Bool} {z : Str} {xs : List DL.D} {d : DL.D} {i : Int} {Qp : Wv → Prop}
theorem z_ixTabP : ixTabP a kvs (.sc (.ref b)) (.sc (.str z)) Qp = (b = a ∧ onS (kvs.find? fun q => q.1 == z) fun q => Qp (.pu (.sc (.int q.2)))) := by simp only [ixTabP, ex_onS]
theorem z_reprP2 : reprP2 [d] Qp = onS (toPR d) fun p => shows p ∧ Qp (.pu (.sc (.str p.shown))) := by simp only [reprP2, ex_onS, shows, and_assoc]
theorem y_inTabP : @p2K (inTabP a kvs neg) (.sc (.str z)) (.sc (.ref b)) ⟨Qp⟩ = (b = a ∧ Qp (.pu (.sc (.bl (neg ^^ (kvs.find? fun q => q.1 == z).isSome))))) := rfl
theorem y_ixTabP : @p2K (ixTabP a kvs) (.sc (.ref b)) (.sc (.str z)) ⟨Qp⟩ = (b = a ∧ @cS _ (kvs.find? fun q => q.1 == z) ⟨fun q => Qp (.pu (.sc (.int q.2)))⟩) := z_ixTabP
theorem y_eqEP : @p2K eqEP (.tup xs) (.tup []) ⟨Qp⟩ = Qp (.pu (.sc (.bl xs.isEmpty))) := rfl
theorem y_list2P_l : @pnK list2P [.lst xs] ⟨Qp⟩ = Qp (.ow (.lst xs)) := rfl
theorem y_revP_t : @p1K revP (.tup ds) ⟨Qp⟩ = (Qp (.pu (.tup ds.reverse))) := rfl
theorem y_list2P_t : @pnK list2P [.tup xs] ⟨Qp⟩ = Qp (.ow (.lst xs)) := rfl
theorem y_list2P_s : @pnK list2P [.sc (.str z)] ⟨Qp⟩ = (z.length ≤ sizeLine ∧ Qp (.ow (.lst (z.cps.toList.map fun c => .sc (.str (sign c)))))) := rfl
theorem y_strP : @pnK strP [.sc (.int i)] ⟨Qp⟩ = (i.natAbs.log2 < 1920 ∧ Qp (.pu (.sc (.str (toString i))))) := rfl
theorem y_reprP2 : @pnK reprP2 [d] ⟨Qp⟩ = @cS _ (toPR d) ⟨fun p => shows p ∧ Qp (.pu (.sc (.str p.shown)))⟩ := z_reprP2
/-- a text, a type's name -/
def strO : Option DL.D → Option Str
  | some (.sc (.str z)) => some z
  | _ => none
def tyO : Option DL.D → Option String
  | some d => tyD d
  | none => none
variable {δ : DS} {Q : Wv → DS → Prop} {Y : Value → DS → Prop} {ta : DTE} {vs : List (Key × V)} {v : V} {Ts : List String}
theorem strO_ex {o : Option DL.D} {p : Str → Prop} : (∃ z, o = some (.sc (.str z)) ∧ p z) = onS (strO o) p := by
  refine propext ⟨fun ⟨z, e, h⟩ => by rw [e]; exact h, fun h => ?_⟩
  cases o with
  | none => exact h.elim
  | some d =>
    cases d with
    | sc w => cases w <;> first | exact h.elim | exact ⟨_, rfl, h⟩
    | _ => exact h.elim
theorem tyO_ex {o : Option DL.D} {p : String → Prop} : (∃ d, o = some d ∧ ∃ t, tyD d = some t ∧ p t) = onS (tyO o) p := by
  refine propext ⟨fun ⟨d, e, t, e2, h⟩ => by
    rw [e]
    show onS (tyD d) p
    rw [e2]
    exact h, fun h => ?_⟩
  cases o with
  | none => exact h.elim
  | some d =>
    have h : onS (tyD d) p := h
    cases e : tyD d with
    | none => rw [e] at h; exact h.elim
    | some t => rw [e] at h; exact ⟨d, rfl, t, e, h⟩
theorem y_dDGet : dDGet vs v ta δ Q Y = ta δ (fun x δ1 => @cS _ (strO (val δ1 x)) ⟨fun z => Q (.pu (.sc ((valV (mergeK [] vs) (.inr z)).getD v))) δ1⟩) Y := by
  unfold dDGet
  simp only [strO_ex]
  rfl
theorem y_dUpper : dUpper ta δ Q Y = ta δ (fun x δ1 => @cS _ (strO (val δ1 x)) ⟨fun z => z.length ≤ 5592405 ∧ Q (.pu (.sc (.str (Txt.upper z)))) δ1⟩) Y := by
  unfold dUpper
  simp only [strO_ex]
  rfl
theorem y_dIsiT : dIsiT Ts ta δ Q Y = ta δ (fun x δ1 => @cS _ (tyO (val δ1 x)) ⟨fun t => @cS _ (kitBs t Ts) ⟨fun b => Q (.pu (.sc (.bl b))) δ1⟩⟩) Y := by
  unfold dIsiT
  simp only [tyO_ex]
  simp only [ex_onS]
  rfl
/-- a plain value -/
def scO : Wv → Option V
  | .pu (.sc v) => some v
  | _ => none
theorem scO_ex {r : Wv} {p : V → Prop} : (∃ v, r = .pu (.sc v) ∧ p v) = onS (scO r) p := by
  refine propext ⟨fun ⟨v, e, h⟩ => by rw [e]; exact h, fun h => ?_⟩
  cases r with
  | pu d =>
    cases d with
    | sc v => exact ⟨v, rfl, h⟩
    | _ => exact h.elim
  | _ => exact h.elim
variable {sp : DSp} {tA : DTA}
theorem y_dCallB : dCallB sp tA δ Q Y = tA δ (fun ws δ1 => @cS _ (vals δ1 ws) ⟨fun ds => @callC sp (ds.map .pu) ⟨(fun r _ => @cS _ (scO r) ⟨fun v => Q (.pu (.sc v)) δ1⟩), (fun c _ => Y c δ1)⟩⟩) Y := by
  unfold dCallB
  simp only [scO_ex]
  simp only [ex_onS]
  rfl
end
end DL

/-! text S -/
set_option Elab.async false
set_option linter.all false
set_option maxRecDepth 100000
set_option maxHeartbeats 4000000
namespace Lw
open PySem PySem.Spec PyProof.Rows L2 DL
section
variable {P : Program} {w : World} {base : Heap} {K : PySem.W.Frag} {ws : List Wv} {Q : Wv → List Wv → Prop} {Y : Value → List Wv → Prop} {mg : Str → Option Value}
local macro_rules | `(tactic| walk_at "d-go") => `(tactic| try simp only [dSet, dRet, dRetN, dIfS, dFor, dIt, dgName, dgNil, dgCons, dgTup, dgLst, dgTxt, dgSet, dVar, dC, dG, dOp, dUn, dCallP, dCons, dNil, dTst, dAnd, dOr, dNot, dAndV, dOrV, dNotV, dIf, dFz, dTup, dLst, dCall, dChain, dSl, dONo, dOSome, dMs, dMi, dAsg, dPar, dDrop, dLc, dLc2, dYes, dRng1, dRng2, dEnum, dZip, dLam, dNewD, dRaise, dNext, dBrk, dCnt, DS.put, DS.wipe, DS.rest, wipeL, restL, val, slD, vals, frz1, put1, out1, pures, dargs, dback, getM, setM, M.frz, start0, par, dEnds, isRes, itemsD, p2i, addP, subP, mulP, divP, modP, powP, DL.ltP, DL.leP, DL.gtP, DL.geP, eqP, inP, isNP, ixP, lenP, isiP, allP, anyP, intP, listP, tupleP, sortedSP, reprP, slP, revP, negP, findP, countP, joinP, appP, insP, tyD, lenD, dMl, lcountP, isBP, dLSet, dLRg, List.getElem?_cons_zero, List.getElem?_cons_succ, List.set_cons_zero, List.set_cons_succ, List.cons_append, List.nil_append, List.replicate_succ, List.replicate_zero, List.length_cons, List.length_nil, Option.some.injEq, exists_eq_left', exists_eq_left, Wv.pu.injEq, D.sc.injEq, V.bl.injEq, V.int.injEq, V.str.injEq, Nat.reduceSub, Nat.reduceAdd, List.cons.injEq, and_true, true_and, exists_and_left, Option.map_some, if_true, if_false, Bool.false_eq_true, exists_eq_right, ex2a, ex2b, ex2c, D.tup.injEq, D.lst.injEq, M.lst.injEq, eq_self])
theorem pick_NoWord (Z : Fx K mg) {k : Str → Prop} (h : k "word") : pickK K (.ref (He.ga K "NoWord")) k (clw__law_word K) := ⟨_, Z.m_NoWord_NoNet, (fun e => by cases e), fun _ => ⟨_, Z.m_NoWord_NoWord, fun _ => h, fun e => by cases e⟩⟩
theorem pick_NoNet (Z : Fx K mg) {k : Str → Prop} (h : k "net") : pickK K (.ref (He.ga K "NoNet")) k (clw__law_word K) := ⟨_, Z.m_NoNet_NoNet, fun _ => h, fun e => by cases e⟩
theorem pick_NoMatch (Z : Fx K mg) {k : Str → Prop} (h : k "match") : pickK K (.ref (He.ga K "NoMatch")) k (clw__law_word K) := ⟨_, Z.m_NoMatch_NoNet, (fun e => by cases e), fun _ => ⟨_, Z.m_NoMatch_NoWord, (fun e => by cases e), fun _ => ⟨_, Z.m_NoMatch_NoMatch, fun _ => h, fun e => by cases e⟩⟩⟩
theorem take_call {b : Nat} {pen : List D} {many : Int} {Q : Wv → List Wv → Prop} {Y : Value → List Wv → Prop} (hp : PenOk b pen) (hb : b < 1000000000) (h0 : 0 < many) (h1 : many < 4294967296)
    (q : ∀ (v : Int) pen', 0 ≤ v → v < many → PenOk (b + 1) pen' → Q (.pu (DI' v)) [.ow (.lst pen'), .pu (DI' many)]) : sp__law_take K [.ow (.lst pen), .pu (DI' many)] Q Y := ⟨b, pen, many, rfl, hp, hb, h0, h1, q⟩
/-- comprehensions, loops over the values g x of some xs -/
theorem comp_x {α : Type} {gt : DTG} {te : DTE} {vs : List Nat} {g : α → DL.D} (f : α → DL.D) {δ : DS} : ∀ (xs : List α) (acc : List DL.D) (Q : List DL.D → DS → Prop),
    (∀ x ∈ xs, ∀ K : Wv → DS → Prop, (∀ δ3, δ3.wipe vs = δ → K (.pu (f x)) δ3) → gt (g x) δ fun δ1 => te δ1 K fun _ _ => False) → acc.length + xs.length ≤ sizeLine → Q (acc ++ xs.map f) δ → dComp gt dYes te vs (xs.map g) acc δ Q
  | [], acc, Q, _, _, q => by show Q acc δ; simpa using q
  | d :: ds, acc, Q, h, hz, q => by
    have hz' : acc.length + (ds.length + 1) ≤ sizeLine := hz
    have := h d (List.mem_cons_self ..) (fun w δ3 => ∃ y, w = .pu y ∧ acc.length < sizeLine ∧ dComp gt dYes te vs (ds.map g) (acc ++ [y]) (δ3.wipe vs) Q) fun δ3 e => ⟨_, rfl, by omega, by
      rw [e]
      exact comp_x f ds (acc ++ [f d]) Q (fun d hd => h d (List.mem_cons_of_mem _ hd)) (by rw [List.length_append, List.length_singleton]; omega) (by simpa using q)⟩
    exact this
theorem comp_fx {α : Type} {gt : DTG} {tt : DTT} {te : DTE} {vs : List Nat} {g : α → DL.D} (p : α → Bool) (f : α → DL.D) {δ : DS} : ∀ (xs : List α) (acc : List DL.D) (Q : List DL.D → DS → Prop),
    (∀ d ∈ xs, ∀ K : Bool → DS → Prop, (∀ δ2, δ2.wipe vs = δ → (p d = true → ∀ K' : Wv → DS → Prop, (∀ δ3, δ3.wipe vs = δ → K' (.pu (f d)) δ3) → te δ2 K' fun _ _ => False) → K (p d) δ2) → gt (g d) δ fun δ1 => tt δ1 K fun _ _ => False) →
    acc.length + xs.length ≤ sizeLine → Q (acc ++ (xs.filter p).map f) δ → dComp gt tt te vs (xs.map g) acc δ Q
  | [], acc, Q, _, _, q => by show Q acc δ; simpa using q
  | d :: ds, acc, Q, h, hz, q => by
    have hz' : acc.length + (ds.length + 1) ≤ sizeLine := hz
    refine h d (List.mem_cons_self ..) _ fun δ2 e2 he => ?_
    cases hp : p d with
    | true =>
      rw [if_pos rfl]
      refine he hp _ fun δ3 e => ⟨_, rfl, by omega, ?_⟩
      rw [e]
      refine comp_fx p f ds (acc ++ [f d]) Q (fun d hd => h d (List.mem_cons_of_mem _ hd)) (by rw [List.length_append, List.length_singleton]; omega) ?_
      rw [List.filter_cons_of_pos hp] at q
      simpa using q
    | false =>
      rw [if_neg Bool.false_ne_true, e2]
      refine comp_fx p f ds acc Q (fun d hd => h d (List.mem_cons_of_mem _ hd)) (by omega) ?_
      rw [List.filter_cons_of_neg (by simp [hp])] at q
      exact q
theorem for_pre' {α : Type} {gt : DTG} {tb : DTS} {E : DEnds} {g : α → DL.D} (S : List α → DS → Prop) : ∀ (xs pre : List α) {δ : DS}, S pre δ →
    (∀ (p : List α) (x : α) (r : List α) (δ : DS) (K : DS → Prop), pre ++ xs = p ++ x :: r → S p δ → (∀ δ', S (p ++ [x]) δ' → K δ') → gt (g x) δ fun δ1 => tb { E with nx := K, ct := K, bk := E.nx } δ1) → (∀ δ, S (pre ++ xs) δ → E.nx δ) → dForL gt tb E (xs.map g) δ
  | [], pre, δ, h, _, fin => fin δ (by simpa using h)
  | x :: xs, pre, δ, h, step, fin => step pre x xs δ _ rfl h fun δ' h' => for_pre' S xs (pre ++ [x]) h' (fun p y r δ K e => step p y r δ K (by rw [← e, List.append_assoc]; rfl)) (fun δ h => fin δ (by simpa using h))
theorem for_pre {α : Type} {gt : DTG} {tb : DTS} {E : DEnds} {g : α → DL.D} (S : List α → DS → Prop) {xs : List α} {δ : DS} (h : S [] δ)
    (step : ∀ (p : List α) (x : α) (r : List α) (δ : DS) (K : DS → Prop), xs = p ++ x :: r → S p δ → (∀ δ', S (p ++ [x]) δ' → K δ') → gt (g x) δ fun δ1 => tb { E with nx := K, ct := K, bk := E.nx } δ1) (fin : ∀ δ, S xs δ → E.nx δ) : dForL gt tb E (xs.map g) δ :=
  for_pre' S xs [] h step fin
theorem cps_app (a b : Str) : (a ++ b).cps.toList = a.cps.toList ++ b.cps.toList := by
  show (a.cps ++ b.cps).toList = _
  simp
theorem strOf_len (l : List Nat) : (strOf l).length = l.length := by
  show l.toArray.size = _
  simp
theorem len_cps (z : Str) : z.cps.toList.length = z.length := by simp [Str.length]
theorem str_ext {a b : Str} (h : a.cps.toList = b.cps.toList) : a = b := by
  cases a with
  | mk a =>
    cases b with
    | mk b =>
      have : a = b := Array.toList_inj.mp h
      rw [this]
theorem snoc_ind {α : Type} {P : List α → Prop} (h0 : P []) (h1 : ∀ (l : List α) (a : α), P l → P (l ++ [a])) (l : List α) : P l := by
  have : ∀ l : List α, P l.reverse := by
    intro l
    induction l with
    | nil => exact h0
    | cons a l ih => rw [List.reverse_cons]; exact h1 _ _ ih
  have h := this l.reverse
  rwa [List.reverse_reverse] at h
theorem for_rng {gt : DTG} {tb : DTS} {E : DEnds} (lo : Int) (n : Nat) (I : Nat → DS → Prop) {δ : DS} (h : I 0 δ)
    (step : ∀ (j : Nat) (δ : DS) (K : DS → Prop), j < n → I j δ → (∀ δ', I (j + 1) δ' → K δ') → gt (.sc (.int (lo + (j : Int)))) δ fun δ1 => tb { E with nx := K, ct := K, bk := E.nx } δ1) (fin : ∀ δ, I n δ → E.nx δ) : dForL gt tb E (rngL lo n) δ := by
  have hl : (rngL lo n).length = n := by simp [rngL]
  refine for_i I h (fun j d δ K hd hI k => ?_) (fun δ h => fin δ (by rwa [hl] at h))
  have hj : j < n := by
    have := (List.getElem?_eq_some_iff.mp hd).1
    omega
  have e : d = .sc (.int (lo + (j : Int))) := by
    unfold rngL at hd
    rw [List.getElem?_map, List.getElem?_range hj] at hd
    exact (Option.some.inj hd).symm
  subst e
  exact step j δ K hj hI k
theorem sign_inj {a b : Nat} : sign a = sign b ↔ a = b := ⟨fun e => by
  have := congrArg one? e
  rw [one?_sign, one?_sign] at this
  exact Option.some.inj this, fun e => by rw [e]⟩
theorem beq_sign {a b : Nat} : (sign a == sign b) = (a == b) := by
  by_cases h : a = b
  · rw [h, beq_self_eq_true, beq_self_eq_true]
  · have n : ¬ sign a = sign b := fun e => h (sign_inj.mp e)
    rw [beq_eq_false_iff_ne.mpr n, beq_eq_false_iff_ne.mpr h]
theorem join_flat : ∀ (ys : List Str), (Txt.join "" ys).cps.toList = (ys.map (·.cps.toList)).flatten := by
  intro ys
  rw [TL.join_eq]
  have h : ∀ ls : List (List Nat), TL.joinL [] ls = ls.flatten := by
    intro ls
    induction ls with
    | nil => rfl
    | cons a l ih =>
      cases l with
      | nil => simp [TL.joinL]
      | cons b l => simp only [TL.joinL, List.nil_append, List.flatten_cons] at ih ⊢; rw [ih]
  have := TL.tl_join "" ys
  show TL.tl (Str.join "" ys) = _
  rw [this]
  exact h _
theorem sing_flat : ∀ cs : List Nat, (cs.map fun c => [c]).flatten = cs
  | [] => rfl
  | a :: l => by rw [List.map_cons, List.flatten_cons, sing_flat l]; rfl
theorem join_signs (cs : List Nat) : Txt.join "" (cs.map sign) = strOf cs := by
  refine str_ext ?_
  rw [join_flat, List.map_map]
  have : ((·.cps.toList) ∘ sign) = fun (c : Nat) => [c] := rfl
  rw [this]
  exact sing_flat cs
theorem join_len1 : ∀ (ys : List Str), (∀ y ∈ ys, y.length = 1) → (ys.map (·.length)).sum = ys.length
  | [], _ => rfl
  | y :: ys, h => by
    rw [List.map_cons, List.sum_cons, List.length_cons, h y (List.mem_cons_self ..), join_len1 ys fun y hy => h y (List.mem_cons_of_mem _ hy)]
    omega
theorem join_sum (cs : List Nat) : ((cs.map sign).map (·.length)).sum + (cs.map sign).length * (Str.ofString "").length = cs.length := by
  rw [join_len1 _ fun y hy => by obtain ⟨c, _, rfl⟩ := List.mem_map.mp hy; rfl]
  have : (Str.ofString "").length = 0 := rfl
  rw [this, Nat.mul_zero, List.length_map]
  rfl
theorem cutL_tail {α : Type} (x : α) (xs : List α) : cutL (x :: xs) (some 1) none = xs := by
  unfold cutL
  have h1 : HT.sIx (x :: xs).length 0 (some 1) = 1 := by
    simp [HT.sIx]
  have h2 : HT.sIx (x :: xs).length (x :: xs).length none = (x :: xs).length := by
    simp [HT.sIx]
  rw [h1, h2]
  simp
theorem atI_nat {α : Type} {xs : List α} {k : Nat} (h : k < xs.length) : L2.atI xs (k : Int) = some xs[k] := by
  unfold L2.atI L2.ixN
  rw [if_pos (by omega), if_pos (by omega)]
  simp [h]
theorem at0 {α : Type} (x : α) (xs : List α) : L2.atI (x :: xs) 0 = some x := atI_nat (k := 0) (xs := x :: xs) (by simp)
theorem strOf_snoc (l : List Nat) (c : Nat) : strOf (l ++ [c]) = strOf l ++ sign c := str_ext (by rw [cps_app]; rfl)
theorem r_is_within_bounds (h : sp_is_within_bounds K ws Q Y) : t_is_within_bounds K (dEnds Q Y) (start0 N_is_within_bounds ws) := by
  obtain ⟨ds, e, _, ⟨d, t, a, b, rfl, ht⟩, q⟩ := h
  have := pures_len e
  subst this
  cases d with
  | sc v =>
    cases v with
    | int i =>
      simp only [List.map_cons, List.map_nil, t_is_within_bounds, N_is_within_bounds, dSet, dRet, dRetN, dIfS, dFor, dIt, dgName, dgNil, dgCons, dgTup, dgLst, dgTxt, dgSet, dVar, dC, dG, dOp, dUn, dCallP, dCons, dNil, dTst, dAnd, dOr, dNot, dAndV, dOrV, dNotV, dIf, dFz, dTup, dLst, dCall, dChain, dSl, dONo, dOSome, dMs, dMi, dAsg, dPar, dDrop, dLc, dLc2, dYes, dRng1, dRng2, dEnum, dZip, dLam, dNewD, dRaise, dNext, dBrk, dCnt, DS.put, DS.wipe, DS.rest, wipeL, restL, val, slD, vals, frz1, put1, out1, pures, dargs, dback, getM, setM, M.frz, start0, par, dEnds, isRes, itemsD, p2i, addP, subP, mulP, divP, modP, powP, DL.ltP, DL.leP, DL.gtP, DL.geP, eqP, inP, isNP, ixP, lenP, isiP, allP, anyP, intP, listP, tupleP, sortedSP, reprP, slP, revP, negP, findP, countP, joinP, appP, insP, tyD, lenD, dMl, lcountP, isBP, dLSet, dLRg, List.getElem?_cons_zero, List.getElem?_cons_succ, List.set_cons_zero, List.set_cons_succ, List.cons_append, List.nil_append, List.replicate_succ, List.replicate_zero, List.length_cons, List.length_nil, Option.some.injEq, exists_eq_left', exists_eq_left, Wv.pu.injEq, D.sc.injEq, V.bl.injEq, V.int.injEq, V.str.injEq, Nat.reduceSub, Nat.reduceAdd, List.cons.injEq, and_true, true_and, exists_and_left, Option.map_some, if_true, if_false, Bool.false_eq_true, exists_eq_right, ex2a, ex2b, ex2c, D.tup.injEq, D.lst.injEq, M.lst.injEq, eq_self, kb_NoneType_bool, kb_NoneType_int, kb_NoneType_str, kb_NoneType_tuple, kb_NoneType_list, kb_NoneType_dict, kb_bool_bool, kb_bool_int, kb_bool_str, kb_bool_tuple, kb_bool_list, kb_bool_dict, kb_int_bool, kb_int_int, kb_int_str, kb_int_tuple, kb_int_list, kb_int_dict, kb_str_bool, kb_str_int, kb_str_str, kb_str_tuple, kb_str_list, kb_str_dict, kb_tuple_bool, kb_tuple_int, kb_tuple_str, kb_tuple_tuple, kb_tuple_list, kb_tuple_dict, kb_list_bool, kb_list_int, kb_list_str, kb_list_tuple, kb_list_list, kb_list_dict, kb_dict_bool, kb_dict_int, kb_dict_str, kb_dict_tuple, kb_dict_list, kb_dict_dict, bndF, DI', DB', Bool.not_false, Bool.not_true] at q ⊢
      by_cases h1 : a ≤ i <;> by_cases h2 : i ≤ b <;> simp [h1, h2] at q ⊢ <;> exact q
    | _ => simp only [List.map_cons, List.map_nil, t_is_within_bounds, N_is_within_bounds, dSet, dRet, dRetN, dIfS, dFor, dIt, dgName, dgNil, dgCons, dgTup, dgLst, dgTxt, dgSet, dVar, dC, dG, dOp, dUn, dCallP, dCons, dNil, dTst, dAnd, dOr, dNot, dAndV, dOrV, dNotV, dIf, dFz, dTup, dLst, dCall, dChain, dSl, dONo, dOSome, dMs, dMi, dAsg, dPar, dDrop, dLc, dLc2, dYes, dRng1, dRng2, dEnum, dZip, dLam, dNewD, dRaise, dNext, dBrk, dCnt, DS.put, DS.wipe, DS.rest, wipeL, restL, val, slD, vals, frz1, put1, out1, pures, dargs, dback, getM, setM, M.frz, start0, par, dEnds, isRes, itemsD, p2i, addP, subP, mulP, divP, modP, powP, DL.ltP, DL.leP, DL.gtP, DL.geP, eqP, inP, isNP, ixP, lenP, isiP, allP, anyP, intP, listP, tupleP, sortedSP, reprP, slP, revP, negP, findP, countP, joinP, appP, insP, tyD, lenD, dMl, lcountP, isBP, dLSet, dLRg, List.getElem?_cons_zero, List.getElem?_cons_succ, List.set_cons_zero, List.set_cons_succ, List.cons_append, List.nil_append, List.replicate_succ, List.replicate_zero, List.length_cons, List.length_nil, Option.some.injEq, exists_eq_left', exists_eq_left, Wv.pu.injEq, D.sc.injEq, V.bl.injEq, V.int.injEq, V.str.injEq, Nat.reduceSub, Nat.reduceAdd, List.cons.injEq, and_true, true_and, exists_and_left, Option.map_some, if_true, if_false, Bool.false_eq_true, exists_eq_right, ex2a, ex2b, ex2c, D.tup.injEq, D.lst.injEq, M.lst.injEq, eq_self, kb_NoneType_bool, kb_NoneType_int, kb_NoneType_str, kb_NoneType_tuple, kb_NoneType_list, kb_NoneType_dict, kb_bool_bool, kb_bool_int, kb_bool_str, kb_bool_tuple, kb_bool_list, kb_bool_dict, kb_int_bool, kb_int_int, kb_int_str, kb_int_tuple, kb_int_list, kb_int_dict, kb_str_bool, kb_str_int, kb_str_str, kb_str_tuple, kb_str_list, kb_str_dict, kb_tuple_bool, kb_tuple_int, kb_tuple_str, kb_tuple_tuple, kb_tuple_list, kb_tuple_dict, kb_list_bool, kb_list_int, kb_list_str, kb_list_tuple, kb_list_list, kb_list_dict, kb_dict_bool, kb_dict_int, kb_dict_str, kb_dict_tuple, kb_dict_list, kb_dict_dict, bndF, DI', DB', Bool.not_false, Bool.not_true] at q ht ⊢ <;> first | exact q | cases ht
  | scr ns => cases ht
  | _ => simp only [List.map_cons, List.map_nil, t_is_within_bounds, N_is_within_bounds, dSet, dRet, dRetN, dIfS, dFor, dIt, dgName, dgNil, dgCons, dgTup, dgLst, dgTxt, dgSet, dVar, dC, dG, dOp, dUn, dCallP, dCons, dNil, dTst, dAnd, dOr, dNot, dAndV, dOrV, dNotV, dIf, dFz, dTup, dLst, dCall, dChain, dSl, dONo, dOSome, dMs, dMi, dAsg, dPar, dDrop, dLc, dLc2, dYes, dRng1, dRng2, dEnum, dZip, dLam, dNewD, dRaise, dNext, dBrk, dCnt, DS.put, DS.wipe, DS.rest, wipeL, restL, val, slD, vals, frz1, put1, out1, pures, dargs, dback, getM, setM, M.frz, start0, par, dEnds, isRes, itemsD, p2i, addP, subP, mulP, divP, modP, powP, DL.ltP, DL.leP, DL.gtP, DL.geP, eqP, inP, isNP, ixP, lenP, isiP, allP, anyP, intP, listP, tupleP, sortedSP, reprP, slP, revP, negP, findP, countP, joinP, appP, insP, tyD, lenD, dMl, lcountP, isBP, dLSet, dLRg, List.getElem?_cons_zero, List.getElem?_cons_succ, List.set_cons_zero, List.set_cons_succ, List.cons_append, List.nil_append, List.replicate_succ, List.replicate_zero, List.length_cons, List.length_nil, Option.some.injEq, exists_eq_left', exists_eq_left, Wv.pu.injEq, D.sc.injEq, V.bl.injEq, V.int.injEq, V.str.injEq, Nat.reduceSub, Nat.reduceAdd, List.cons.injEq, and_true, true_and, exists_and_left, Option.map_some, if_true, if_false, Bool.false_eq_true, exists_eq_right, ex2a, ex2b, ex2c, D.tup.injEq, D.lst.injEq, M.lst.injEq, eq_self, kb_NoneType_bool, kb_NoneType_int, kb_NoneType_str, kb_NoneType_tuple, kb_NoneType_list, kb_NoneType_dict, kb_bool_bool, kb_bool_int, kb_bool_str, kb_bool_tuple, kb_bool_list, kb_bool_dict, kb_int_bool, kb_int_int, kb_int_str, kb_int_tuple, kb_int_list, kb_int_dict, kb_str_bool, kb_str_int, kb_str_str, kb_str_tuple, kb_str_list, kb_str_dict, kb_tuple_bool, kb_tuple_int, kb_tuple_str, kb_tuple_tuple, kb_tuple_list, kb_tuple_dict, kb_list_bool, kb_list_int, kb_list_str, kb_list_tuple, kb_list_list, kb_list_dict, kb_dict_bool, kb_dict_int, kb_dict_str, kb_dict_tuple, kb_dict_list, kb_dict_dict, bndF, DI', DB', Bool.not_false, Bool.not_true] at q ht ⊢ <;> exact q
theorem len1 {ds : List D} (h : ds.length = 1) : ∃ d, ds = [d] := by
  match ds, h with
  | [d], _ => exact ⟨d, rfl⟩
theorem len3 {ds : List D} (h : ds.length = 3) : ∃ a b c, ds = [a, b, c] := by
  match ds, h with
  | [a, b, c], _ => exact ⟨a, b, c, rfl⟩
theorem r_is_word (h : sp_is_word K ws Q Y) : t_is_word K (dEnds Q Y) (start0 N_is_word ws) := by
  obtain ⟨ds, e, hl, hp, q⟩ := h
  obtain ⟨d, rfl⟩ := len1 hl
  obtain ⟨⟨t, ht⟩, hz⟩ := hp d (by simp)
  have := pures_len e
  subst this
  cases d with
  | sc v =>
    cases v with
    | str z =>
      have hz := hz z rfl
      simp only [List.map_cons, List.map_nil, t_is_word, N_is_word, dSet, dRet, dRetN, dIfS, dFor, dIt, dgName, dgNil, dgCons, dgTup, dgLst, dgTxt, dgSet, dVar, dC, dG, dOp, dUn, dCallP, dCons, dNil, dTst, dAnd, dOr, dNot, dAndV, dOrV, dNotV, dIf, dFz, dTup, dLst, dCall, dChain, dSl, dONo, dOSome, dMs, dMi, dAsg, dPar, dDrop, dLc, dLc2, dYes, dRng1, dRng2, dEnum, dZip, dLam, dNewD, dRaise, dNext, dBrk, dCnt, DS.put, DS.wipe, DS.rest, wipeL, restL, val, slD, vals, frz1, put1, out1, pures, dargs, dback, getM, setM, M.frz, start0, par, dEnds, isRes, itemsD, p2i, addP, subP, mulP, divP, modP, powP, DL.ltP, DL.leP, DL.gtP, DL.geP, eqP, inP, isNP, ixP, lenP, isiP, allP, anyP, intP, listP, tupleP, sortedSP, reprP, slP, revP, negP, findP, countP, joinP, appP, insP, tyD, lenD, dMl, lcountP, isBP, dLSet, dLRg, List.getElem?_cons_zero, List.getElem?_cons_succ, List.set_cons_zero, List.set_cons_succ, List.cons_append, List.nil_append, List.replicate_succ, List.replicate_zero, List.length_cons, List.length_nil, Option.some.injEq, exists_eq_left', exists_eq_left, Wv.pu.injEq, D.sc.injEq, V.bl.injEq, V.int.injEq, V.str.injEq, Nat.reduceSub, Nat.reduceAdd, List.cons.injEq, and_true, true_and, exists_and_left, Option.map_some, if_true, if_false, Bool.false_eq_true, exists_eq_right, ex2a, ex2b, ex2c, D.tup.injEq, D.lst.injEq, M.lst.injEq, eq_self, kb_NoneType_bool, kb_NoneType_int, kb_NoneType_str, kb_NoneType_tuple, kb_NoneType_list, kb_NoneType_dict, kb_bool_bool, kb_bool_int, kb_bool_str, kb_bool_tuple, kb_bool_list, kb_bool_dict, kb_int_bool, kb_int_int, kb_int_str, kb_int_tuple, kb_int_list, kb_int_dict, kb_str_bool, kb_str_int, kb_str_str, kb_str_tuple, kb_str_list, kb_str_dict, kb_tuple_bool, kb_tuple_int, kb_tuple_str, kb_tuple_tuple, kb_tuple_list, kb_tuple_dict, kb_list_bool, kb_list_int, kb_list_str, kb_list_tuple, kb_list_list, kb_list_dict, kb_dict_bool, kb_dict_int, kb_dict_str, kb_dict_tuple, kb_dict_list, kb_dict_dict, hz, List.headD_cons, isWD] at q ⊢
      by_cases h1 : 1 ≤ z.length <;> by_cases h2 : z.length ≤ 32
      · have i1 : (1 : Int) ≤ (z.length : Int) := by omega
        have i2 : (z.length : Int) ≤ 32 := by omega
        simp only [i1, i2, dSet, dRet, dRetN, dIfS, dFor, dIt, dgName, dgNil, dgCons, dgTup, dgLst, dgTxt, dgSet, dVar, dC, dG, dOp, dUn, dCallP, dCons, dNil, dTst, dAnd, dOr, dNot, dAndV, dOrV, dNotV, dIf, dFz, dTup, dLst, dCall, dChain, dSl, dONo, dOSome, dMs, dMi, dAsg, dPar, dDrop, dLc, dLc2, dYes, dRng1, dRng2, dEnum, dZip, dLam, dNewD, dRaise, dNext, dBrk, dCnt, DS.put, DS.wipe, DS.rest, wipeL, restL, val, slD, vals, frz1, put1, out1, pures, dargs, dback, getM, setM, M.frz, start0, par, dEnds, isRes, itemsD, p2i, addP, subP, mulP, divP, modP, powP, DL.ltP, DL.leP, DL.gtP, DL.geP, eqP, inP, isNP, ixP, lenP, isiP, allP, anyP, intP, listP, tupleP, sortedSP, reprP, slP, revP, negP, findP, countP, joinP, appP, insP, tyD, lenD, dMl, lcountP, isBP, dLSet, dLRg, List.getElem?_cons_zero, List.getElem?_cons_succ, List.set_cons_zero, List.set_cons_succ, List.cons_append, List.nil_append, List.replicate_succ, List.replicate_zero, List.length_cons, List.length_nil, Option.some.injEq, exists_eq_left', exists_eq_left, Wv.pu.injEq, D.sc.injEq, V.bl.injEq, V.int.injEq, V.str.injEq, Nat.reduceSub, Nat.reduceAdd, List.cons.injEq, and_true, true_and, exists_and_left, Option.map_some, if_true, if_false, Bool.false_eq_true, exists_eq_right, ex2a, ex2b, ex2c, D.tup.injEq, D.lst.injEq, M.lst.injEq, eq_self, decide_true] at q ⊢
        refine comp_map (fun d => match d with
          | .sc (.str s) => (match one? s with
            | some c => DB' (decide (c ∈ ("01?" : Str).cps.toList))
            | none => DN')
          | _ => DN') _ _ _ (fun d hd K k => ?_) (by simp; exact hz) ?_
        · obtain ⟨c, hc, rfl⟩ := List.mem_map.mp hd
          simp only [dSet, dRet, dRetN, dIfS, dFor, dIt, dgName, dgNil, dgCons, dgTup, dgLst, dgTxt, dgSet, dVar, dC, dG, dOp, dUn, dCallP, dCons, dNil, dTst, dAnd, dOr, dNot, dAndV, dOrV, dNotV, dIf, dFz, dTup, dLst, dCall, dChain, dSl, dONo, dOSome, dMs, dMi, dAsg, dPar, dDrop, dLc, dLc2, dYes, dRng1, dRng2, dEnum, dZip, dLam, dNewD, dRaise, dNext, dBrk, dCnt, DS.put, DS.wipe, DS.rest, wipeL, restL, val, slD, vals, frz1, put1, out1, pures, dargs, dback, getM, setM, M.frz, start0, par, dEnds, isRes, itemsD, p2i, addP, subP, mulP, divP, modP, powP, DL.ltP, DL.leP, DL.gtP, DL.geP, eqP, inP, isNP, ixP, lenP, isiP, allP, anyP, intP, listP, tupleP, sortedSP, reprP, slP, revP, negP, findP, countP, joinP, appP, insP, tyD, lenD, dMl, lcountP, isBP, dLSet, dLRg, List.getElem?_cons_zero, List.getElem?_cons_succ, List.set_cons_zero, List.set_cons_succ, List.cons_append, List.nil_append, List.replicate_succ, List.replicate_zero, List.length_cons, List.length_nil, Option.some.injEq, exists_eq_left', exists_eq_left, Wv.pu.injEq, D.sc.injEq, V.bl.injEq, V.int.injEq, V.str.injEq, Nat.reduceSub, Nat.reduceAdd, List.cons.injEq, and_true, true_and, exists_and_left, Option.map_some, if_true, if_false, Bool.false_eq_true, exists_eq_right, ex2a, ex2b, ex2c, D.tup.injEq, D.lst.injEq, M.lst.injEq, eq_self, one?_sign, Bool.false_xor]
          exact k _ rfl
        · rw [List.nil_append, List.map_map]
          show ∃ bs, bools (z.cps.toList.map fun c => DB' (decide (c ∈ ("01?" : Str).cps.toList))) = some bs ∧ _
          rw [bools_mapF]
          refine ⟨_, rfl, ?_⟩
          have e : isW z = (z.cps.toList.map fun c => decide (c ∈ ("01?" : Str).cps.toList)).all id := by
            simp [isW, h1, h2, List.all_map]
          rw [e] at q
          exact q
      all_goals
        have e : isW z = false := by simp [isW, h1, h2]
        simp only [e] at q
        have i12 : ¬ ((1 : Int) ≤ (z.length : Int) ∧ (z.length : Int) ≤ 32) := by omega
        by_cases i1 : (1 : Int) ≤ (z.length : Int)
        · have i2 : ¬ (z.length : Int) ≤ 32 := fun h => i12 ⟨i1, h⟩
          simp only [i1, i2, dSet, dRet, dRetN, dIfS, dFor, dIt, dgName, dgNil, dgCons, dgTup, dgLst, dgTxt, dgSet, dVar, dC, dG, dOp, dUn, dCallP, dCons, dNil, dTst, dAnd, dOr, dNot, dAndV, dOrV, dNotV, dIf, dFz, dTup, dLst, dCall, dChain, dSl, dONo, dOSome, dMs, dMi, dAsg, dPar, dDrop, dLc, dLc2, dYes, dRng1, dRng2, dEnum, dZip, dLam, dNewD, dRaise, dNext, dBrk, dCnt, DS.put, DS.wipe, DS.rest, wipeL, restL, val, slD, vals, frz1, put1, out1, pures, dargs, dback, getM, setM, M.frz, start0, par, dEnds, isRes, itemsD, p2i, addP, subP, mulP, divP, modP, powP, DL.ltP, DL.leP, DL.gtP, DL.geP, eqP, inP, isNP, ixP, lenP, isiP, allP, anyP, intP, listP, tupleP, sortedSP, reprP, slP, revP, negP, findP, countP, joinP, appP, insP, tyD, lenD, dMl, lcountP, isBP, dLSet, dLRg, List.getElem?_cons_zero, List.getElem?_cons_succ, List.set_cons_zero, List.set_cons_succ, List.cons_append, List.nil_append, List.replicate_succ, List.replicate_zero, List.length_cons, List.length_nil, Option.some.injEq, exists_eq_left', exists_eq_left, Wv.pu.injEq, D.sc.injEq, V.bl.injEq, V.int.injEq, V.str.injEq, Nat.reduceSub, Nat.reduceAdd, List.cons.injEq, and_true, true_and, exists_and_left, Option.map_some, if_true, if_false, Bool.false_eq_true, exists_eq_right, ex2a, ex2b, ex2c, D.tup.injEq, D.lst.injEq, M.lst.injEq, eq_self, decide_true, decide_false] at q ⊢
          exact q
        · simp only [i1, dSet, dRet, dRetN, dIfS, dFor, dIt, dgName, dgNil, dgCons, dgTup, dgLst, dgTxt, dgSet, dVar, dC, dG, dOp, dUn, dCallP, dCons, dNil, dTst, dAnd, dOr, dNot, dAndV, dOrV, dNotV, dIf, dFz, dTup, dLst, dCall, dChain, dSl, dONo, dOSome, dMs, dMi, dAsg, dPar, dDrop, dLc, dLc2, dYes, dRng1, dRng2, dEnum, dZip, dLam, dNewD, dRaise, dNext, dBrk, dCnt, DS.put, DS.wipe, DS.rest, wipeL, restL, val, slD, vals, frz1, put1, out1, pures, dargs, dback, getM, setM, M.frz, start0, par, dEnds, isRes, itemsD, p2i, addP, subP, mulP, divP, modP, powP, DL.ltP, DL.leP, DL.gtP, DL.geP, eqP, inP, isNP, ixP, lenP, isiP, allP, anyP, intP, listP, tupleP, sortedSP, reprP, slP, revP, negP, findP, countP, joinP, appP, insP, tyD, lenD, dMl, lcountP, isBP, dLSet, dLRg, List.getElem?_cons_zero, List.getElem?_cons_succ, List.set_cons_zero, List.set_cons_succ, List.cons_append, List.nil_append, List.replicate_succ, List.replicate_zero, List.length_cons, List.length_nil, Option.some.injEq, exists_eq_left', exists_eq_left, Wv.pu.injEq, D.sc.injEq, V.bl.injEq, V.int.injEq, V.str.injEq, Nat.reduceSub, Nat.reduceAdd, List.cons.injEq, and_true, true_and, exists_and_left, Option.map_some, if_true, if_false, Bool.false_eq_true, exists_eq_right, ex2a, ex2b, ex2c, D.tup.injEq, D.lst.injEq, M.lst.injEq, eq_self, decide_true, decide_false] at q ⊢
          exact q
    | _ => simp only [List.map_cons, List.map_nil, t_is_word, N_is_word, dSet, dRet, dRetN, dIfS, dFor, dIt, dgName, dgNil, dgCons, dgTup, dgLst, dgTxt, dgSet, dVar, dC, dG, dOp, dUn, dCallP, dCons, dNil, dTst, dAnd, dOr, dNot, dAndV, dOrV, dNotV, dIf, dFz, dTup, dLst, dCall, dChain, dSl, dONo, dOSome, dMs, dMi, dAsg, dPar, dDrop, dLc, dLc2, dYes, dRng1, dRng2, dEnum, dZip, dLam, dNewD, dRaise, dNext, dBrk, dCnt, DS.put, DS.wipe, DS.rest, wipeL, restL, val, slD, vals, frz1, put1, out1, pures, dargs, dback, getM, setM, M.frz, start0, par, dEnds, isRes, itemsD, p2i, addP, subP, mulP, divP, modP, powP, DL.ltP, DL.leP, DL.gtP, DL.geP, eqP, inP, isNP, ixP, lenP, isiP, allP, anyP, intP, listP, tupleP, sortedSP, reprP, slP, revP, negP, findP, countP, joinP, appP, insP, tyD, lenD, dMl, lcountP, isBP, dLSet, dLRg, List.getElem?_cons_zero, List.getElem?_cons_succ, List.set_cons_zero, List.set_cons_succ, List.cons_append, List.nil_append, List.replicate_succ, List.replicate_zero, List.length_cons, List.length_nil, Option.some.injEq, exists_eq_left', exists_eq_left, Wv.pu.injEq, D.sc.injEq, V.bl.injEq, V.int.injEq, V.str.injEq, Nat.reduceSub, Nat.reduceAdd, List.cons.injEq, and_true, true_and, exists_and_left, Option.map_some, if_true, if_false, Bool.false_eq_true, exists_eq_right, ex2a, ex2b, ex2c, D.tup.injEq, D.lst.injEq, M.lst.injEq, eq_self, kb_NoneType_bool, kb_NoneType_int, kb_NoneType_str, kb_NoneType_tuple, kb_NoneType_list, kb_NoneType_dict, kb_bool_bool, kb_bool_int, kb_bool_str, kb_bool_tuple, kb_bool_list, kb_bool_dict, kb_int_bool, kb_int_int, kb_int_str, kb_int_tuple, kb_int_list, kb_int_dict, kb_str_bool, kb_str_int, kb_str_str, kb_str_tuple, kb_str_list, kb_str_dict, kb_tuple_bool, kb_tuple_int, kb_tuple_str, kb_tuple_tuple, kb_tuple_list, kb_tuple_dict, kb_list_bool, kb_list_int, kb_list_str, kb_list_tuple, kb_list_list, kb_list_dict, kb_dict_bool, kb_dict_int, kb_dict_str, kb_dict_tuple, kb_dict_list, kb_dict_dict, List.headD_cons, isWD, DB'] at q ht ⊢ <;> first | exact q | cases ht
  | scr ns => cases ht
  | _ => simp only [List.map_cons, List.map_nil, t_is_word, N_is_word, dSet, dRet, dRetN, dIfS, dFor, dIt, dgName, dgNil, dgCons, dgTup, dgLst, dgTxt, dgSet, dVar, dC, dG, dOp, dUn, dCallP, dCons, dNil, dTst, dAnd, dOr, dNot, dAndV, dOrV, dNotV, dIf, dFz, dTup, dLst, dCall, dChain, dSl, dONo, dOSome, dMs, dMi, dAsg, dPar, dDrop, dLc, dLc2, dYes, dRng1, dRng2, dEnum, dZip, dLam, dNewD, dRaise, dNext, dBrk, dCnt, DS.put, DS.wipe, DS.rest, wipeL, restL, val, slD, vals, frz1, put1, out1, pures, dargs, dback, getM, setM, M.frz, start0, par, dEnds, isRes, itemsD, p2i, addP, subP, mulP, divP, modP, powP, DL.ltP, DL.leP, DL.gtP, DL.geP, eqP, inP, isNP, ixP, lenP, isiP, allP, anyP, intP, listP, tupleP, sortedSP, reprP, slP, revP, negP, findP, countP, joinP, appP, insP, tyD, lenD, dMl, lcountP, isBP, dLSet, dLRg, List.getElem?_cons_zero, List.getElem?_cons_succ, List.set_cons_zero, List.set_cons_succ, List.cons_append, List.nil_append, List.replicate_succ, List.replicate_zero, List.length_cons, List.length_nil, Option.some.injEq, exists_eq_left', exists_eq_left, Wv.pu.injEq, D.sc.injEq, V.bl.injEq, V.int.injEq, V.str.injEq, Nat.reduceSub, Nat.reduceAdd, List.cons.injEq, and_true, true_and, exists_and_left, Option.map_some, if_true, if_false, Bool.false_eq_true, exists_eq_right, ex2a, ex2b, ex2c, D.tup.injEq, D.lst.injEq, M.lst.injEq, eq_self, kb_NoneType_bool, kb_NoneType_int, kb_NoneType_str, kb_NoneType_tuple, kb_NoneType_list, kb_NoneType_dict, kb_bool_bool, kb_bool_int, kb_bool_str, kb_bool_tuple, kb_bool_list, kb_bool_dict, kb_int_bool, kb_int_int, kb_int_str, kb_int_tuple, kb_int_list, kb_int_dict, kb_str_bool, kb_str_int, kb_str_str, kb_str_tuple, kb_str_list, kb_str_dict, kb_tuple_bool, kb_tuple_int, kb_tuple_str, kb_tuple_tuple, kb_tuple_list, kb_tuple_dict, kb_list_bool, kb_list_int, kb_list_str, kb_list_tuple, kb_list_list, kb_list_dict, kb_dict_bool, kb_dict_int, kb_dict_str, kb_dict_tuple, kb_dict_list, kb_dict_dict, List.headD_cons, isWD, DB'] at q ht ⊢ <;> exact q
/-- a call of such a def on frozen data -/
theorem call_ok {n : Nat} {pre : List D → Prop} {f : List D → Except Str Wv} {ws : List Wv} {ds : List D} {Q : Wv → List Wv → Prop} {Y : Value → List Wv → Prop} (e : ws = ds.map .pu) (hl : ds.length = n) (hp : pre ds) (h : match f ds with
  | .ok w => isRes w ∧ Q w ws
  | .error c => Y (.ref (He.ga K c)) ws) : spX K n pre f ws Q Y := by
  subst e
  refine ⟨ds, ?_, hl, hp, h⟩
  clear hl hp h
  induction ds with
  | nil => rfl
  | cons d ds ih => simp [pures, ih]
theorem r_need_word (h : sp_need_word K ws Q Y) : t_need_word K (dEnds Q Y) (start0 N_need_word ws) := by
  obtain ⟨ds, e, hl, hp, q⟩ := h
  obtain ⟨d, rfl⟩ := len1 hl
  have := pures_len e
  subst this
  simp only [List.map_cons, List.map_nil, t_need_word, N_need_word, dSeq, dSet, dRet, dRetN, dIfS, dFor, dIt, dgName, dgNil, dgCons, dgTup, dgLst, dgTxt, dgSet, dVar, dC, dG, dOp, dUn, dCallP, dCons, dNil, dTst, dAnd, dOr, dNot, dAndV, dOrV, dNotV, dIf, dFz, dTup, dLst, dCall, dChain, dSl, dONo, dOSome, dMs, dMi, dAsg, dPar, dDrop, dLc, dLc2, dYes, dRng1, dRng2, dEnum, dZip, dLam, dNewD, dRaise, dNext, dBrk, dCnt, DS.put, DS.wipe, DS.rest, wipeL, restL, val, slD, vals, frz1, put1, out1, pures, dargs, dback, getM, setM, M.frz, start0, par, dEnds, isRes, itemsD, p2i, addP, subP, mulP, divP, modP, powP, DL.ltP, DL.leP, DL.gtP, DL.geP, eqP, inP, isNP, ixP, lenP, isiP, allP, anyP, intP, listP, tupleP, sortedSP, reprP, slP, revP, negP, findP, countP, joinP, appP, insP, tyD, lenD, dMl, lcountP, isBP, dLSet, dLRg, List.getElem?_cons_zero, List.getElem?_cons_succ, List.set_cons_zero, List.set_cons_succ, List.cons_append, List.nil_append, List.replicate_succ, List.replicate_zero, List.length_cons, List.length_nil, Option.some.injEq, exists_eq_left', exists_eq_left, Wv.pu.injEq, D.sc.injEq, V.bl.injEq, V.int.injEq, V.str.injEq, Nat.reduceSub, Nat.reduceAdd, List.cons.injEq, and_true, true_and, exists_and_left, Option.map_some, if_true, if_false, Bool.false_eq_true, exists_eq_right, ex2a, ex2b, ex2c, D.tup.injEq, D.lst.injEq, M.lst.injEq, eq_self, List.headD_cons] at q ⊢
  refine call_ok (ds := [d]) rfl rfl hp ?_
  simp only [dSet, dRet, dRetN, dIfS, dFor, dIt, dgName, dgNil, dgCons, dgTup, dgLst, dgTxt, dgSet, dVar, dC, dG, dOp, dUn, dCallP, dCons, dNil, dTst, dAnd, dOr, dNot, dAndV, dOrV, dNotV, dIf, dFz, dTup, dLst, dCall, dChain, dSl, dONo, dOSome, dMs, dMi, dAsg, dPar, dDrop, dLc, dLc2, dYes, dRng1, dRng2, dEnum, dZip, dLam, dNewD, dRaise, dNext, dBrk, dCnt, DS.put, DS.wipe, DS.rest, wipeL, restL, val, slD, vals, frz1, put1, out1, pures, dargs, dback, getM, setM, M.frz, start0, par, dEnds, isRes, itemsD, p2i, addP, subP, mulP, divP, modP, powP, DL.ltP, DL.leP, DL.gtP, DL.geP, eqP, inP, isNP, ixP, lenP, isiP, allP, anyP, intP, listP, tupleP, sortedSP, reprP, slP, revP, negP, findP, countP, joinP, appP, insP, tyD, lenD, dMl, lcountP, isBP, dLSet, dLRg, List.getElem?_cons_zero, List.getElem?_cons_succ, List.set_cons_zero, List.set_cons_succ, List.cons_append, List.nil_append, List.replicate_succ, List.replicate_zero, List.length_cons, List.length_nil, Option.some.injEq, exists_eq_left', exists_eq_left, Wv.pu.injEq, D.sc.injEq, V.bl.injEq, V.int.injEq, V.str.injEq, Nat.reduceSub, Nat.reduceAdd, List.cons.injEq, and_true, true_and, exists_and_left, Option.map_some, if_true, if_false, Bool.false_eq_true, exists_eq_right, ex2a, ex2b, ex2c, D.tup.injEq, D.lst.injEq, M.lst.injEq, eq_self, List.headD_cons, DB']
  cases hw : isWD d <;> simp [hw] at q ⊢ <;> exact q
theorem rng_len (lo : Int) (n : Nat) : (rngL lo n).length = n := by simp [rngL]
theorem len_app (a b : Str) : (a ++ b).length = a.length + b.length := by
  show (a.cps ++ b.cps).size = _
  rw [Array.size_append]
  rfl
theorem small_sl {n : Nat} (h : n ≤ 100000) : n ≤ sizeLine := Nat.le_trans h (by decide)
theorem zipD_map {α β : Type} (f : α → D) (g : β → D) : ∀ (xs : List α) (ys : List β), zipD (xs.map f) (ys.map g) = (xs.zip ys).map fun p => .tup [f p.1, g p.2]
  | [], _ => by simp [zipD]
  | _ :: _, [] => by simp [zipD]
  | x :: xs, y :: ys => by simp [zipD, zipD_map f g xs ys]
theorem isW_bits {z : Str} (h : isW z = true) : 1 ≤ z.length ∧ z.length ≤ 32 ∧ ∀ c ∈ z.cps.toList, isBit (sign c) = true := by
  simp only [isW, Bool.and_eq_true, decide_eq_true_eq, List.all_eq_true] at h
  refine ⟨h.1.1, h.1.2, fun c hc => ?_⟩
  have := h.2 c hc
  have e : ("01?" : Str).cps.toList = [48, 49, 63] := rfl
  rw [e] at this
  simp only [List.mem_cons, List.not_mem_nil, or_false] at this
  rcases this with rfl | rfl | rfl <;> decide
theorem lg2 {a : Int} {n : Nat} (h : a.natAbs < 2 ^ n) (hn : 0 < n) : a.natAbs.log2 < n := by
  by_cases z : a.natAbs = 0
  · rw [z]; simpa using hn
  · exact (Nat.log2_lt z).mpr h
theorem lg (a : Int) (n : Nat) (h0 : 0 ≤ a) (h : a < 2 ^ n) (hn : 0 < n) : a.natAbs.log2 < n := by
  refine lg2 ?_ hn
  have : (a.natAbs : Int) = a := Int.natAbs_of_nonneg h0
  have e : ((2 ^ n : Nat) : Int) = 2 ^ n := by norm_cast
  omega
def PR : List D := [D.sc (V.int 2147483629), D.sc (V.int 2147483587), D.sc (V.int 2147483579), D.sc (V.int 2147483563), D.sc (V.int 2147483549), D.sc (V.int 2147483543), D.sc (V.int 2147483497), D.sc (V.int 2147483489), D.sc (V.int 2147483477), D.sc (V.int 2147483423), D.sc (V.int 2147483399), D.sc (V.int 2147483353), D.sc (V.int 2147483323)]
theorem pr_at {i : Int} (h0 : 0 ≤ i) (h1 : i < 13) : ∃ p : Int, atI PR i = some (D.sc (V.int p)) ∧ 0 < p ∧ p < 2147483648 := by
  have h : i = 0 ∨ i = 1 ∨ i = 2 ∨ i = 3 ∨ i = 4 ∨ i = 5 ∨ i = 6 ∨ i = 7 ∨ i = 8 ∨ i = 9 ∨ i = 10 ∨ i = 11 ∨ i = 12 := by omega
  rcases h with rfl | rfl | rfl | rfl | rfl | rfl | rfl | rfl | rfl | rfl | rfl | rfl | rfl <;> exact ⟨_, rfl, by decide, by decide⟩
theorem log_mul {a b : Int} {m n : Nat} (ha0 : 0 ≤ a) (ha : a < 2 ^ m) (hb0 : 0 ≤ b) (hb : b < 2 ^ n) (hm : 0 < m) (hn : 0 < n) (h : m + n ≤ 1000000) : a.natAbs.log2 + b.natAbs.log2 < 1000000 := by
  have h1 := lg a m ha0 ha hm
  have h2 := lg b n hb0 hb hn
  omega
theorem mul_lt {a b A B : Int} (a0 : 0 ≤ a) (b0 : 0 ≤ b) (ha : a ≤ A) (hb : b ≤ B) : a * b ≤ A * B := Int.mul_le_mul ha hb b0 (by omega)
theorem na {a : Int} (h0 : 0 ≤ a) (h : a < 18446744073709551616) : a.natAbs < 2 ^ 64 := by
  have e : (2 : Nat) ^ 64 = 18446744073709551616 := by decide
  rw [e]
  omega
theorem r__law_spread (h : sp__law_spread K ws Q Y) : t__law_spread K (dEnds Q Y) (start0 N__law_spread ws) := by
  obtain ⟨c, k, rfl, k0, k1, q⟩ := h
  unfold t__law_spread
  refine seq_o fun N hN => ?_
  simp only [N__law_spread, dSet, dRet, dRetN, dIfS, dFor, dIt, dgName, dgNil, dgCons, dgTup, dgLst, dgTxt, dgSet, dVar, dC, dG, dOp, dUn, dCallP, dCons, dNil, dTst, dAnd, dOr, dNot, dAndV, dOrV, dNotV, dIf, dFz, dTup, dLst, dCall, dChain, dSl, dONo, dOSome, dMs, dMi, dAsg, dPar, dDrop, dLc, dLc2, dYes, dRng1, dRng2, dEnum, dZip, dLam, dNewD, dRaise, dNext, dBrk, dCnt, DS.put, DS.wipe, DS.rest, wipeL, restL, val, slD, vals, frz1, put1, out1, pures, dargs, dback, getM, setM, M.frz, start0, par, dEnds, isRes, itemsD, p2i, addP, subP, mulP, divP, modP, powP, DL.ltP, DL.leP, DL.gtP, DL.geP, eqP, inP, isNP, ixP, lenP, isiP, allP, anyP, intP, listP, tupleP, sortedSP, reprP, slP, revP, negP, findP, countP, joinP, appP, insP, tyD, lenD, dMl, lcountP, isBP, dLSet, dLRg, List.getElem?_cons_zero, List.getElem?_cons_succ, List.set_cons_zero, List.set_cons_succ, List.cons_append, List.nil_append, List.replicate_succ, List.replicate_zero, List.length_cons, List.length_nil, Option.some.injEq, exists_eq_left', exists_eq_left, Wv.pu.injEq, D.sc.injEq, V.bl.injEq, V.int.injEq, V.str.injEq, Nat.reduceSub, Nat.reduceAdd, List.cons.injEq, and_true, true_and, exists_and_left, Option.map_some, if_true, if_false, Bool.false_eq_true, exists_eq_right, ex2a, ex2b, ex2c, D.tup.injEq, D.lst.injEq, M.lst.injEq, eq_self]
  refine ⟨⟨by decide, by decide, by decide⟩, ?_⟩
  by_cases hc : (10 : Int) ^ Int.toNat 18 ≤ c
  · simp only [hc, decide_true, dSet, dRet, dRetN, dIfS, dFor, dIt, dgName, dgNil, dgCons, dgTup, dgLst, dgTxt, dgSet, dVar, dC, dG, dOp, dUn, dCallP, dCons, dNil, dTst, dAnd, dOr, dNot, dAndV, dOrV, dNotV, dIf, dFz, dTup, dLst, dCall, dChain, dSl, dONo, dOSome, dMs, dMi, dAsg, dPar, dDrop, dLc, dLc2, dYes, dRng1, dRng2, dEnum, dZip, dLam, dNewD, dRaise, dNext, dBrk, dCnt, DS.put, DS.wipe, DS.rest, wipeL, restL, val, slD, vals, frz1, put1, out1, pures, dargs, dback, getM, setM, M.frz, start0, par, dEnds, isRes, itemsD, p2i, addP, subP, mulP, divP, modP, powP, DL.ltP, DL.leP, DL.gtP, DL.geP, eqP, inP, isNP, ixP, lenP, isiP, allP, anyP, intP, listP, tupleP, sortedSP, reprP, slP, revP, negP, findP, countP, joinP, appP, insP, tyD, lenD, dMl, lcountP, isBP, dLSet, dLRg, List.getElem?_cons_zero, List.getElem?_cons_succ, List.set_cons_zero, List.set_cons_succ, List.cons_append, List.nil_append, List.replicate_succ, List.replicate_zero, List.length_cons, List.length_nil, Option.some.injEq, exists_eq_left', exists_eq_left, Wv.pu.injEq, D.sc.injEq, V.bl.injEq, V.int.injEq, V.str.injEq, Nat.reduceSub, Nat.reduceAdd, List.cons.injEq, and_true, true_and, exists_and_left, Option.map_some, if_true, if_false, Bool.false_eq_true, exists_eq_right, ex2a, ex2b, ex2c, D.tup.injEq, D.lst.injEq, M.lst.injEq, eq_self]
    exact q c (by have : (0 : Int) ≤ 10 ^ Int.toNat 18 := by decide
                  omega)
  simp only [hc, decide_false, dSet, dRet, dRetN, dIfS, dFor, dIt, dgName, dgNil, dgCons, dgTup, dgLst, dgTxt, dgSet, dVar, dC, dG, dOp, dUn, dCallP, dCons, dNil, dTst, dAnd, dOr, dNot, dAndV, dOrV, dNotV, dIf, dFz, dTup, dLst, dCall, dChain, dSl, dONo, dOSome, dMs, dMi, dAsg, dPar, dDrop, dLc, dLc2, dYes, dRng1, dRng2, dEnum, dZip, dLam, dNewD, dRaise, dNext, dBrk, dCnt, DS.put, DS.wipe, DS.rest, wipeL, restL, val, slD, vals, frz1, put1, out1, pures, dargs, dback, getM, setM, M.frz, start0, par, dEnds, isRes, itemsD, p2i, addP, subP, mulP, divP, modP, powP, DL.ltP, DL.leP, DL.gtP, DL.geP, eqP, inP, isNP, ixP, lenP, isiP, allP, anyP, intP, listP, tupleP, sortedSP, reprP, slP, revP, negP, findP, countP, joinP, appP, insP, tyD, lenD, dMl, lcountP, isBP, dLSet, dLRg, List.getElem?_cons_zero, List.getElem?_cons_succ, List.set_cons_zero, List.set_cons_succ, List.cons_append, List.nil_append, List.replicate_succ, List.replicate_zero, List.length_cons, List.length_nil, Option.some.injEq, exists_eq_left', exists_eq_left, Wv.pu.injEq, D.sc.injEq, V.bl.injEq, V.int.injEq, V.str.injEq, Nat.reduceSub, Nat.reduceAdd, List.cons.injEq, and_true, true_and, exists_and_left, Option.map_some, if_true, if_false, Bool.false_eq_true, exists_eq_right, ex2a, ex2b, ex2c, D.tup.injEq, D.lst.injEq, M.lst.injEq, eq_self]
  subst hN
  refine seq_o fun N hN => ?_
  simp only [dSet, dRet, dRetN, dIfS, dFor, dIt, dgName, dgNil, dgCons, dgTup, dgLst, dgTxt, dgSet, dVar, dC, dG, dOp, dUn, dCallP, dCons, dNil, dTst, dAnd, dOr, dNot, dAndV, dOrV, dNotV, dIf, dFz, dTup, dLst, dCall, dChain, dSl, dONo, dOSome, dMs, dMi, dAsg, dPar, dDrop, dLc, dLc2, dYes, dRng1, dRng2, dEnum, dZip, dLam, dNewD, dRaise, dNext, dBrk, dCnt, DS.put, DS.wipe, DS.rest, wipeL, restL, val, slD, vals, frz1, put1, out1, pures, dargs, dback, getM, setM, M.frz, start0, par, dEnds, isRes, itemsD, p2i, addP, subP, mulP, divP, modP, powP, DL.ltP, DL.leP, DL.gtP, DL.geP, eqP, inP, isNP, ixP, lenP, isiP, allP, anyP, intP, listP, tupleP, sortedSP, reprP, slP, revP, negP, findP, countP, joinP, appP, insP, tyD, lenD, dMl, lcountP, isBP, dLSet, dLRg, List.getElem?_cons_zero, List.getElem?_cons_succ, List.set_cons_zero, List.set_cons_succ, List.cons_append, List.nil_append, List.replicate_succ, List.replicate_zero, List.length_cons, List.length_nil, Option.some.injEq, exists_eq_left', exists_eq_left, Wv.pu.injEq, D.sc.injEq, V.bl.injEq, V.int.injEq, V.str.injEq, Nat.reduceSub, Nat.reduceAdd, List.cons.injEq, and_true, true_and, exists_and_left, Option.map_some, if_true, if_false, Bool.false_eq_true, exists_eq_right, ex2a, ex2b, ex2c, D.tup.injEq, D.lst.injEq, M.lst.injEq, eq_self]
  refine ⟨by decide, ?_⟩
  subst hN
  refine seq_o fun N hN => ?_
  simp only [dSet, dRet, dRetN, dIfS, dFor, dIt, dgName, dgNil, dgCons, dgTup, dgLst, dgTxt, dgSet, dVar, dC, dG, dOp, dUn, dCallP, dCons, dNil, dTst, dAnd, dOr, dNot, dAndV, dOrV, dNotV, dIf, dFz, dTup, dLst, dCall, dChain, dSl, dONo, dOSome, dMs, dMi, dAsg, dPar, dDrop, dLc, dLc2, dYes, dRng1, dRng2, dEnum, dZip, dLam, dNewD, dRaise, dNext, dBrk, dCnt, DS.put, DS.wipe, DS.rest, wipeL, restL, val, slD, vals, frz1, put1, out1, pures, dargs, dback, getM, setM, M.frz, start0, par, dEnds, isRes, itemsD, p2i, addP, subP, mulP, divP, modP, powP, DL.ltP, DL.leP, DL.gtP, DL.geP, eqP, inP, isNP, ixP, lenP, isiP, allP, anyP, intP, listP, tupleP, sortedSP, reprP, slP, revP, negP, findP, countP, joinP, appP, insP, tyD, lenD, dMl, lcountP, isBP, dLSet, dLRg, List.getElem?_cons_zero, List.getElem?_cons_succ, List.set_cons_zero, List.set_cons_succ, List.cons_append, List.nil_append, List.replicate_succ, List.replicate_zero, List.length_cons, List.length_nil, Option.some.injEq, exists_eq_left', exists_eq_left, Wv.pu.injEq, D.sc.injEq, V.bl.injEq, V.int.injEq, V.str.injEq, Nat.reduceSub, Nat.reduceAdd, List.cons.injEq, and_true, true_and, exists_and_left, Option.map_some, if_true, if_false, Bool.false_eq_true, exists_eq_right, ex2a, ex2b, ex2c, D.tup.injEq, D.lst.injEq, M.lst.injEq, eq_self]
  refine ⟨by decide, by decide, ?_⟩
  subst hN
  refine seq_o fun N hN => ?_
  simp only [dSet, dRet, dRetN, dIfS, dFor, dIt, dgName, dgNil, dgCons, dgTup, dgLst, dgTxt, dgSet, dVar, dC, dG, dOp, dUn, dCallP, dCons, dNil, dTst, dAnd, dOr, dNot, dAndV, dOrV, dNotV, dIf, dFz, dTup, dLst, dCall, dChain, dSl, dONo, dOSome, dMs, dMi, dAsg, dPar, dDrop, dLc, dLc2, dYes, dRng1, dRng2, dEnum, dZip, dLam, dNewD, dRaise, dNext, dBrk, dCnt, DS.put, DS.wipe, DS.rest, wipeL, restL, val, slD, vals, frz1, put1, out1, pures, dargs, dback, getM, setM, M.frz, start0, par, dEnds, isRes, itemsD, p2i, addP, subP, mulP, divP, modP, powP, DL.ltP, DL.leP, DL.gtP, DL.geP, eqP, inP, isNP, ixP, lenP, isiP, allP, anyP, intP, listP, tupleP, sortedSP, reprP, slP, revP, negP, findP, countP, joinP, appP, insP, tyD, lenD, dMl, lcountP, isBP, dLSet, dLRg, List.getElem?_cons_zero, List.getElem?_cons_succ, List.set_cons_zero, List.set_cons_succ, List.cons_append, List.nil_append, List.replicate_succ, List.replicate_zero, List.length_cons, List.length_nil, Option.some.injEq, exists_eq_left', exists_eq_left, Wv.pu.injEq, D.sc.injEq, V.bl.injEq, V.int.injEq, V.str.injEq, Nat.reduceSub, Nat.reduceAdd, List.cons.injEq, and_true, true_and, exists_and_left, Option.map_some, if_true, if_false, Bool.false_eq_true, exists_eq_right, ex2a, ex2b, ex2c, D.tup.injEq, D.lst.injEq, M.lst.injEq, eq_self]
  have c1 := Int.emod_nonneg c (show (1000000007 : Int) ≠ 0 by decide)
  have c2 := Int.emod_lt_of_pos c (show (0 : Int) < 1000000007 by decide)
  generalize ec : c % 1000000007 = u at c1 c2
  refine ⟨by decide, log_mul (m := 2) (n := 40) (by decide) (by decide) k0 (by omega) (by decide) (by decide) (by decide), ?_⟩
  refine ⟨log_mul (m := 40) (n := 40) c1 (by omega) (by omega) (by omega) (by decide) (by decide) (by decide), ?_⟩
  have o1 : 0 ≤ u * (2 * k + 69069) := Int.mul_nonneg c1 (by omega)
  have o2 : u * (2 * k + 69069) ≤ 1000000007 * (2 * 1073741824 + 69069) := mul_lt c1 (by omega) (by omega) (by omega)
  generalize eo : u * (2 * k + 69069) = o at o1 o2
  subst hN
  refine seq_o fun N hN => ?_
  simp only [dSet, dRet, dRetN, dIfS, dFor, dIt, dgName, dgNil, dgCons, dgTup, dgLst, dgTxt, dgSet, dVar, dC, dG, dOp, dUn, dCallP, dCons, dNil, dTst, dAnd, dOr, dNot, dAndV, dOrV, dNotV, dIf, dFz, dTup, dLst, dCall, dChain, dSl, dONo, dOSome, dMs, dMi, dAsg, dPar, dDrop, dLc, dLc2, dYes, dRng1, dRng2, dEnum, dZip, dLam, dNewD, dRaise, dNext, dBrk, dCnt, DS.put, DS.wipe, DS.rest, wipeL, restL, val, slD, vals, frz1, put1, out1, pures, dargs, dback, getM, setM, M.frz, start0, par, dEnds, isRes, itemsD, p2i, addP, subP, mulP, divP, modP, powP, DL.ltP, DL.leP, DL.gtP, DL.geP, eqP, inP, isNP, ixP, lenP, isiP, allP, anyP, intP, listP, tupleP, sortedSP, reprP, slP, revP, negP, findP, countP, joinP, appP, insP, tyD, lenD, dMl, lcountP, isBP, dLSet, dLRg, List.getElem?_cons_zero, List.getElem?_cons_succ, List.set_cons_zero, List.set_cons_succ, List.cons_append, List.nil_append, List.replicate_succ, List.replicate_zero, List.length_cons, List.length_nil, Option.some.injEq, exists_eq_left', exists_eq_left, Wv.pu.injEq, D.sc.injEq, V.bl.injEq, V.int.injEq, V.str.injEq, Nat.reduceSub, Nat.reduceAdd, List.cons.injEq, and_true, true_and, exists_and_left, Option.map_some, if_true, if_false, Bool.false_eq_true, exists_eq_right, ex2a, ex2b, ex2c, D.tup.injEq, D.lst.injEq, M.lst.injEq, eq_self]
  refine ⟨log_mul (m := 40) (n := 40) k0 (by omega) (by decide) (by decide) (by decide) (by decide) (by decide), ⟨by decide, by decide, na (by omega) (by omega)⟩, by decide, ?_⟩
  obtain ⟨p, e1, p1, p2⟩ := pr_at (Int.emod_nonneg k (show (13 : Int) ≠ 0 by decide)) (Int.emod_lt_of_pos k (by decide))
  refine ⟨_, e1, ?_⟩
  simp only [dSet, dRet, dRetN, dIfS, dFor, dIt, dgName, dgNil, dgCons, dgTup, dgLst, dgTxt, dgSet, dVar, dC, dG, dOp, dUn, dCallP, dCons, dNil, dTst, dAnd, dOr, dNot, dAndV, dOrV, dNotV, dIf, dFz, dTup, dLst, dCall, dChain, dSl, dONo, dOSome, dMs, dMi, dAsg, dPar, dDrop, dLc, dLc2, dYes, dRng1, dRng2, dEnum, dZip, dLam, dNewD, dRaise, dNext, dBrk, dCnt, DS.put, DS.wipe, DS.rest, wipeL, restL, val, slD, vals, frz1, put1, out1, pures, dargs, dback, getM, setM, M.frz, start0, par, dEnds, isRes, itemsD, p2i, addP, subP, mulP, divP, modP, powP, DL.ltP, DL.leP, DL.gtP, DL.geP, eqP, inP, isNP, ixP, lenP, isiP, allP, anyP, intP, listP, tupleP, sortedSP, reprP, slP, revP, negP, findP, countP, joinP, appP, insP, tyD, lenD, dMl, lcountP, isBP, dLSet, dLRg, List.getElem?_cons_zero, List.getElem?_cons_succ, List.set_cons_zero, List.set_cons_succ, List.cons_append, List.nil_append, List.replicate_succ, List.replicate_zero, List.length_cons, List.length_nil, Option.some.injEq, exists_eq_left', exists_eq_left, Wv.pu.injEq, D.sc.injEq, V.bl.injEq, V.int.injEq, V.str.injEq, Nat.reduceSub, Nat.reduceAdd, List.cons.injEq, and_true, true_and, exists_and_left, Option.map_some, if_true, if_false, Bool.false_eq_true, exists_eq_right, ex2a, ex2b, ex2c, D.tup.injEq, D.lst.injEq, M.lst.injEq, eq_self]
  refine ⟨p1, ?_⟩
  have s1 := Int.emod_nonneg ((o + k * 40503 + 977) ^ Int.toNat 3) (show p ≠ 0 by omega)
  have s2 := Int.emod_lt_of_pos ((o + k * 40503 + 977) ^ Int.toNat 3) p1
  generalize es : (o + k * 40503 + 977) ^ Int.toNat 3 % p = a at s1 s2
  subst hN
  refine seq_o fun N hN => ?_
  simp only [dSet, dRet, dRetN, dIfS, dFor, dIt, dgName, dgNil, dgCons, dgTup, dgLst, dgTxt, dgSet, dVar, dC, dG, dOp, dUn, dCallP, dCons, dNil, dTst, dAnd, dOr, dNot, dAndV, dOrV, dNotV, dIf, dFz, dTup, dLst, dCall, dChain, dSl, dONo, dOSome, dMs, dMi, dAsg, dPar, dDrop, dLc, dLc2, dYes, dRng1, dRng2, dEnum, dZip, dLam, dNewD, dRaise, dNext, dBrk, dCnt, DS.put, DS.wipe, DS.rest, wipeL, restL, val, slD, vals, frz1, put1, out1, pures, dargs, dback, getM, setM, M.frz, start0, par, dEnds, isRes, itemsD, p2i, addP, subP, mulP, divP, modP, powP, DL.ltP, DL.leP, DL.gtP, DL.geP, eqP, inP, isNP, ixP, lenP, isiP, allP, anyP, intP, listP, tupleP, sortedSP, reprP, slP, revP, negP, findP, countP, joinP, appP, insP, tyD, lenD, dMl, lcountP, isBP, dLSet, dLRg, List.getElem?_cons_zero, List.getElem?_cons_succ, List.set_cons_zero, List.set_cons_succ, List.cons_append, List.nil_append, List.replicate_succ, List.replicate_zero, List.length_cons, List.length_nil, Option.some.injEq, exists_eq_left', exists_eq_left, Wv.pu.injEq, D.sc.injEq, V.bl.injEq, V.int.injEq, V.str.injEq, Nat.reduceSub, Nat.reduceAdd, List.cons.injEq, and_true, true_and, exists_and_left, Option.map_some, if_true, if_false, Bool.false_eq_true, exists_eq_right, ex2a, ex2b, ex2c, D.tup.injEq, D.lst.injEq, M.lst.injEq, eq_self]
  have t1 := Int.emod_nonneg c (show (65537 : Int) ≠ 0 by decide)
  have t2 := Int.emod_lt_of_pos c (show (0 : Int) < 65537 by decide)
  generalize et : c % 65537 = b at t1 t2
  have m1 : 0 ≤ a * (k + 3) := Int.mul_nonneg s1 (by omega)
  have m2 : a * (k + 3) ≤ 2147483648 * 1073741827 := mul_lt s1 (by omega) (by omega) (by omega)
  refine ⟨log_mul (m := 40) (n := 40) s1 (by omega) (by omega) (by omega) (by decide) (by decide) (by decide), by decide, ⟨by decide, by decide, na (by omega) (by omega)⟩, by decide, ?_⟩
  obtain ⟨p', e1', p1', p2'⟩ := pr_at (Int.emod_nonneg (k + 5) (show (13 : Int) ≠ 0 by decide)) (Int.emod_lt_of_pos (k + 5) (by decide))
  refine ⟨_, e1', ?_⟩
  simp only [dSet, dRet, dRetN, dIfS, dFor, dIt, dgName, dgNil, dgCons, dgTup, dgLst, dgTxt, dgSet, dVar, dC, dG, dOp, dUn, dCallP, dCons, dNil, dTst, dAnd, dOr, dNot, dAndV, dOrV, dNotV, dIf, dFz, dTup, dLst, dCall, dChain, dSl, dONo, dOSome, dMs, dMi, dAsg, dPar, dDrop, dLc, dLc2, dYes, dRng1, dRng2, dEnum, dZip, dLam, dNewD, dRaise, dNext, dBrk, dCnt, DS.put, DS.wipe, DS.rest, wipeL, restL, val, slD, vals, frz1, put1, out1, pures, dargs, dback, getM, setM, M.frz, start0, par, dEnds, isRes, itemsD, p2i, addP, subP, mulP, divP, modP, powP, DL.ltP, DL.leP, DL.gtP, DL.geP, eqP, inP, isNP, ixP, lenP, isiP, allP, anyP, intP, listP, tupleP, sortedSP, reprP, slP, revP, negP, findP, countP, joinP, appP, insP, tyD, lenD, dMl, lcountP, isBP, dLSet, dLRg, List.getElem?_cons_zero, List.getElem?_cons_succ, List.set_cons_zero, List.set_cons_succ, List.cons_append, List.nil_append, List.replicate_succ, List.replicate_zero, List.length_cons, List.length_nil, Option.some.injEq, exists_eq_left', exists_eq_left, Wv.pu.injEq, D.sc.injEq, V.bl.injEq, V.int.injEq, V.str.injEq, Nat.reduceSub, Nat.reduceAdd, List.cons.injEq, and_true, true_and, exists_and_left, Option.map_some, if_true, if_false, Bool.false_eq_true, exists_eq_right, ex2a, ex2b, ex2c, D.tup.injEq, D.lst.injEq, M.lst.injEq, eq_self]
  refine ⟨p1', ?_⟩
  have u1 := Int.emod_nonneg ((a * (k + 3) + b + 5) ^ Int.toNat 5) (show p' ≠ 0 by omega)
  have u2 := Int.emod_lt_of_pos ((a * (k + 3) + b + 5) ^ Int.toNat 5) p1'
  generalize eu : (a * (k + 3) + b + 5) ^ Int.toNat 5 % p' = d at u1 u2
  subst hN
  refine seq_o fun N hN => ?_
  simp only [dSet, dRet, dRetN, dIfS, dFor, dIt, dgName, dgNil, dgCons, dgTup, dgLst, dgTxt, dgSet, dVar, dC, dG, dOp, dUn, dCallP, dCons, dNil, dTst, dAnd, dOr, dNot, dAndV, dOrV, dNotV, dIf, dFz, dTup, dLst, dCall, dChain, dSl, dONo, dOSome, dMs, dMi, dAsg, dPar, dDrop, dLc, dLc2, dYes, dRng1, dRng2, dEnum, dZip, dLam, dNewD, dRaise, dNext, dBrk, dCnt, DS.put, DS.wipe, DS.rest, wipeL, restL, val, slD, vals, frz1, put1, out1, pures, dargs, dback, getM, setM, M.frz, start0, par, dEnds, isRes, itemsD, p2i, addP, subP, mulP, divP, modP, powP, DL.ltP, DL.leP, DL.gtP, DL.geP, eqP, inP, isNP, ixP, lenP, isiP, allP, anyP, intP, listP, tupleP, sortedSP, reprP, slP, revP, negP, findP, countP, joinP, appP, insP, tyD, lenD, dMl, lcountP, isBP, dLSet, dLRg, List.getElem?_cons_zero, List.getElem?_cons_succ, List.set_cons_zero, List.set_cons_succ, List.cons_append, List.nil_append, List.replicate_succ, List.replicate_zero, List.length_cons, List.length_nil, Option.some.injEq, exists_eq_left', exists_eq_left, Wv.pu.injEq, D.sc.injEq, V.bl.injEq, V.int.injEq, V.str.injEq, Nat.reduceSub, Nat.reduceAdd, List.cons.injEq, and_true, true_and, exists_and_left, Option.map_some, if_true, if_false, Bool.false_eq_true, exists_eq_right, ex2a, ex2b, ex2c, D.tup.injEq, D.lst.injEq, M.lst.injEq, eq_self]
  have v1 := Int.emod_nonneg a (show (1009 : Int) ≠ 0 by decide)
  have v2 := Int.emod_lt_of_pos a (show (0 : Int) < 1009 by decide)
  generalize ev : a % 1009 = f at v1 v2
  refine ⟨by decide, ⟨by decide, by decide, na (by omega) (by omega)⟩, by decide, ?_⟩
  obtain ⟨p'', e1'', p1'', p2''⟩ := pr_at (Int.emod_nonneg (k + 7) (show (13 : Int) ≠ 0 by decide)) (Int.emod_lt_of_pos (k + 7) (by decide))
  refine ⟨_, e1'', ?_⟩
  simp only [dSet, dRet, dRetN, dIfS, dFor, dIt, dgName, dgNil, dgCons, dgTup, dgLst, dgTxt, dgSet, dVar, dC, dG, dOp, dUn, dCallP, dCons, dNil, dTst, dAnd, dOr, dNot, dAndV, dOrV, dNotV, dIf, dFz, dTup, dLst, dCall, dChain, dSl, dONo, dOSome, dMs, dMi, dAsg, dPar, dDrop, dLc, dLc2, dYes, dRng1, dRng2, dEnum, dZip, dLam, dNewD, dRaise, dNext, dBrk, dCnt, DS.put, DS.wipe, DS.rest, wipeL, restL, val, slD, vals, frz1, put1, out1, pures, dargs, dback, getM, setM, M.frz, start0, par, dEnds, isRes, itemsD, p2i, addP, subP, mulP, divP, modP, powP, DL.ltP, DL.leP, DL.gtP, DL.geP, eqP, inP, isNP, ixP, lenP, isiP, allP, anyP, intP, listP, tupleP, sortedSP, reprP, slP, revP, negP, findP, countP, joinP, appP, insP, tyD, lenD, dMl, lcountP, isBP, dLSet, dLRg, List.getElem?_cons_zero, List.getElem?_cons_succ, List.set_cons_zero, List.set_cons_succ, List.cons_append, List.nil_append, List.replicate_succ, List.replicate_zero, List.length_cons, List.length_nil, Option.some.injEq, exists_eq_left', exists_eq_left, Wv.pu.injEq, D.sc.injEq, V.bl.injEq, V.int.injEq, V.str.injEq, Nat.reduceSub, Nat.reduceAdd, List.cons.injEq, and_true, true_and, exists_and_left, Option.map_some, if_true, if_false, Bool.false_eq_true, exists_eq_right, ex2a, ex2b, ex2c, D.tup.injEq, D.lst.injEq, M.lst.injEq, eq_self]
  refine ⟨p1'', ?_⟩
  have w1 := Int.emod_nonneg ((d + f + k) ^ Int.toNat 3) (show p'' ≠ 0 by omega)
  have w2 := Int.emod_lt_of_pos ((d + f + k) ^ Int.toNat 3) p1''
  generalize ew : (d + f + k) ^ Int.toNat 3 % p'' = g at w1 w2
  subst hN
  simp only [dSet, dRet, dRetN, dIfS, dFor, dIt, dgName, dgNil, dgCons, dgTup, dgLst, dgTxt, dgSet, dVar, dC, dG, dOp, dUn, dCallP, dCons, dNil, dTst, dAnd, dOr, dNot, dAndV, dOrV, dNotV, dIf, dFz, dTup, dLst, dCall, dChain, dSl, dONo, dOSome, dMs, dMi, dAsg, dPar, dDrop, dLc, dLc2, dYes, dRng1, dRng2, dEnum, dZip, dLam, dNewD, dRaise, dNext, dBrk, dCnt, DS.put, DS.wipe, DS.rest, wipeL, restL, val, slD, vals, frz1, put1, out1, pures, dargs, dback, getM, setM, M.frz, start0, par, dEnds, isRes, itemsD, p2i, addP, subP, mulP, divP, modP, powP, DL.ltP, DL.leP, DL.gtP, DL.geP, eqP, inP, isNP, ixP, lenP, isiP, allP, anyP, intP, listP, tupleP, sortedSP, reprP, slP, revP, negP, findP, countP, joinP, appP, insP, tyD, lenD, dMl, lcountP, isBP, dLSet, dLRg, List.getElem?_cons_zero, List.getElem?_cons_succ, List.set_cons_zero, List.set_cons_succ, List.cons_append, List.nil_append, List.replicate_succ, List.replicate_zero, List.length_cons, List.length_nil, Option.some.injEq, exists_eq_left', exists_eq_left, Wv.pu.injEq, D.sc.injEq, V.bl.injEq, V.int.injEq, V.str.injEq, Nat.reduceSub, Nat.reduceAdd, List.cons.injEq, and_true, true_and, exists_and_left, Option.map_some, if_true, if_false, Bool.false_eq_true, exists_eq_right, ex2a, ex2b, ex2c, D.tup.injEq, D.lst.injEq, M.lst.injEq, eq_self]
  have x1 : 0 ≤ a * 2147483647 := Int.mul_nonneg s1 (by decide)
  have x2 : a * 2147483647 ≤ 2147483648 * 2147483647 := mul_lt s1 (by decide) (by omega) (by decide)
  have y1 : 0 ≤ (a * 2147483647 + d) * 2147483647 := Int.mul_nonneg (by omega) (by decide)
  refine ⟨log_mul (m := 40) (n := 40) s1 (by omega) (by decide) (by decide) (by decide) (by decide) (by decide), log_mul (m := 80) (n := 40) (by omega) (by omega) (by decide) (by decide) (by decide) (by decide) (by decide), ?_⟩
  exact q _ (by omega)
theorem ix0 (a b c : D) : atI [a, b, c] 0 = some a := rfl
theorem ix1 (a b c : D) : atI [a, b, c] 1 = some b := rfl
theorem ix2 (a b c : D) : atI [a, b, c] 2 = some c := rfl
theorem at_of {α : Type} {xs : List α} {i : Int} (h0 : 0 ≤ i) (h : i < xs.length) : ∃ x, atI xs i = some x ∧ x ∈ xs := by
  have hn : i.toNat < xs.length := by omega
  refine ⟨xs[i.toNat], ?_, List.getElem_mem hn⟩
  unfold atI ixN
  rw [if_pos h0, if_pos h]
  simp [hn]
theorem ixn1 : ixN 3 1 = some 1 := rfl
theorem ixn2 : ixN 3 2 = some 2 := rfl
theorem r__law_take (h : sp__law_take K ws Q Y) : t__law_take K (dEnds Q Y) (start0 N__law_take ws) := by
  obtain ⟨b, pen, many, rfl, ⟨cells, k, n, rfl, hc, k0, kb, n0⟩, hb, m0, m1, q⟩ := h
  have log : many.natAbs.log2 < 9000 := by have := lg many 40 (by omega) (by omega) (by decide); omega
  have fin : ∀ (k' n' : Int) (x : Option Wv) (y : Option Wv), 0 ≤ k' → k' ≤ b + 1 → 0 ≤ n' → (dSeq (dSet 4 (dOp modP (dCallP intP (dCons (dOp ixP (dVar 0) (dC (.int 2))) (dNil))) (dVar 1)))
  (dSeq (dAsg (dOp divP (dOp ixP (dVar 0) (dC (.int 2))) (dVar 1)) (dgSet (dVar 0) (dC (.int 2))))
  (dRet (dVar 4)))) (dEnds Q Y) ⟨[some (.io 0), some (.pu (DI' many)), x, y, none], [.ow (.lst [.lst (cells.map fun c => DI' c), DI' k', DI' n']), .pu (DI' many)]⟩ := fun k' n' x y k1 k2 n1 => by
    refine seq_o fun N hN => ?_
    simp only [dSet, dRet, dRetN, dIfS, dFor, dIt, dgName, dgNil, dgCons, dgTup, dgLst, dgTxt, dgSet, dVar, dC, dG, dOp, dUn, dCallP, dCons, dNil, dTst, dAnd, dOr, dNot, dAndV, dOrV, dNotV, dIf, dFz, dTup, dLst, dCall, dChain, dSl, dONo, dOSome, dMs, dMi, dAsg, dPar, dDrop, dLc, dLc2, dYes, dRng1, dRng2, dEnum, dZip, dLam, dNewD, dRaise, dNext, dBrk, dCnt, DS.put, DS.wipe, DS.rest, wipeL, restL, val, slD, vals, frz1, put1, out1, pures, dargs, dback, getM, setM, M.frz, start0, par, dEnds, isRes, itemsD, p2i, addP, subP, mulP, divP, modP, powP, DL.ltP, DL.leP, DL.gtP, DL.geP, eqP, inP, isNP, ixP, lenP, isiP, allP, anyP, intP, listP, tupleP, sortedSP, reprP, slP, revP, negP, findP, countP, joinP, appP, insP, tyD, lenD, dMl, lcountP, isBP, dLSet, dLRg, List.getElem?_cons_zero, List.getElem?_cons_succ, List.set_cons_zero, List.set_cons_succ, List.cons_append, List.nil_append, List.replicate_succ, List.replicate_zero, List.length_cons, List.length_nil, Option.some.injEq, exists_eq_left', exists_eq_left, Wv.pu.injEq, D.sc.injEq, V.bl.injEq, V.int.injEq, V.str.injEq, Nat.reduceSub, Nat.reduceAdd, List.cons.injEq, and_true, true_and, exists_and_left, Option.map_some, if_true, if_false, Bool.false_eq_true, exists_eq_right, ex2a, ex2b, ex2c, D.tup.injEq, D.lst.injEq, M.lst.injEq, eq_self, ix2]
    refine ⟨m0, ?_⟩
    subst hN
    refine seq_o fun N hN => ?_
    simp only [dSet, dRet, dRetN, dIfS, dFor, dIt, dgName, dgNil, dgCons, dgTup, dgLst, dgTxt, dgSet, dVar, dC, dG, dOp, dUn, dCallP, dCons, dNil, dTst, dAnd, dOr, dNot, dAndV, dOrV, dNotV, dIf, dFz, dTup, dLst, dCall, dChain, dSl, dONo, dOSome, dMs, dMi, dAsg, dPar, dDrop, dLc, dLc2, dYes, dRng1, dRng2, dEnum, dZip, dLam, dNewD, dRaise, dNext, dBrk, dCnt, DS.put, DS.wipe, DS.rest, wipeL, restL, val, slD, vals, frz1, put1, out1, pures, dargs, dback, getM, setM, M.frz, start0, par, dEnds, isRes, itemsD, p2i, addP, subP, mulP, divP, modP, powP, DL.ltP, DL.leP, DL.gtP, DL.geP, eqP, inP, isNP, ixP, lenP, isiP, allP, anyP, intP, listP, tupleP, sortedSP, reprP, slP, revP, negP, findP, countP, joinP, appP, insP, tyD, lenD, dMl, lcountP, isBP, dLSet, dLRg, List.getElem?_cons_zero, List.getElem?_cons_succ, List.set_cons_zero, List.set_cons_succ, List.cons_append, List.nil_append, List.replicate_succ, List.replicate_zero, List.length_cons, List.length_nil, Option.some.injEq, exists_eq_left', exists_eq_left, Wv.pu.injEq, D.sc.injEq, V.bl.injEq, V.int.injEq, V.str.injEq, Nat.reduceSub, Nat.reduceAdd, List.cons.injEq, and_true, true_and, exists_and_left, Option.map_some, if_true, if_false, Bool.false_eq_true, exists_eq_right, ex2a, ex2b, ex2c, D.tup.injEq, D.lst.injEq, M.lst.injEq, eq_self, ix2, ixn2]
    refine ⟨⟨m0, log⟩, ?_⟩
    subst hN
    simp only [dSet, dRet, dRetN, dIfS, dFor, dIt, dgName, dgNil, dgCons, dgTup, dgLst, dgTxt, dgSet, dVar, dC, dG, dOp, dUn, dCallP, dCons, dNil, dTst, dAnd, dOr, dNot, dAndV, dOrV, dNotV, dIf, dFz, dTup, dLst, dCall, dChain, dSl, dONo, dOSome, dMs, dMi, dAsg, dPar, dDrop, dLc, dLc2, dYes, dRng1, dRng2, dEnum, dZip, dLam, dNewD, dRaise, dNext, dBrk, dCnt, DS.put, DS.wipe, DS.rest, wipeL, restL, val, slD, vals, frz1, put1, out1, pures, dargs, dback, getM, setM, M.frz, start0, par, dEnds, isRes, itemsD, p2i, addP, subP, mulP, divP, modP, powP, DL.ltP, DL.leP, DL.gtP, DL.geP, eqP, inP, isNP, ixP, lenP, isiP, allP, anyP, intP, listP, tupleP, sortedSP, reprP, slP, revP, negP, findP, countP, joinP, appP, insP, tyD, lenD, dMl, lcountP, isBP, dLSet, dLRg, List.getElem?_cons_zero, List.getElem?_cons_succ, List.set_cons_zero, List.set_cons_succ, List.cons_append, List.nil_append, List.replicate_succ, List.replicate_zero, List.length_cons, List.length_nil, Option.some.injEq, exists_eq_left', exists_eq_left, Wv.pu.injEq, D.sc.injEq, V.bl.injEq, V.int.injEq, V.str.injEq, Nat.reduceSub, Nat.reduceAdd, List.cons.injEq, and_true, true_and, exists_and_left, Option.map_some, if_true, if_false, Bool.false_eq_true, exists_eq_right, ex2a, ex2b, ex2c, D.tup.injEq, D.lst.injEq, M.lst.injEq, eq_self]
    exact q _ _ (Int.emod_nonneg _ (by omega)) (Int.emod_lt_of_pos _ m0) ⟨cells, k', _, rfl, hc, k1, by omega, Int.ediv_nonneg n1 (by omega)⟩
  unfold t__law_take
  refine seq_o fun N hN => ?_
  simp only [N__law_take, dSet, dRet, dRetN, dIfS, dFor, dIt, dgName, dgNil, dgCons, dgTup, dgLst, dgTxt, dgSet, dVar, dC, dG, dOp, dUn, dCallP, dCons, dNil, dTst, dAnd, dOr, dNot, dAndV, dOrV, dNotV, dIf, dFz, dTup, dLst, dCall, dChain, dSl, dONo, dOSome, dMs, dMi, dAsg, dPar, dDrop, dLc, dLc2, dYes, dRng1, dRng2, dEnum, dZip, dLam, dNewD, dRaise, dNext, dBrk, dCnt, DS.put, DS.wipe, DS.rest, wipeL, restL, val, slD, vals, frz1, put1, out1, pures, dargs, dback, getM, setM, M.frz, start0, par, dEnds, isRes, itemsD, p2i, addP, subP, mulP, divP, modP, powP, DL.ltP, DL.leP, DL.gtP, DL.geP, eqP, inP, isNP, ixP, lenP, isiP, allP, anyP, intP, listP, tupleP, sortedSP, reprP, slP, revP, negP, findP, countP, joinP, appP, insP, tyD, lenD, dMl, lcountP, isBP, dLSet, dLRg, List.getElem?_cons_zero, List.getElem?_cons_succ, List.set_cons_zero, List.set_cons_succ, List.cons_append, List.nil_append, List.replicate_succ, List.replicate_zero, List.length_cons, List.length_nil, Option.some.injEq, exists_eq_left', exists_eq_left, Wv.pu.injEq, D.sc.injEq, V.bl.injEq, V.int.injEq, V.str.injEq, Nat.reduceSub, Nat.reduceAdd, List.cons.injEq, and_true, true_and, exists_and_left, Option.map_some, if_true, if_false, Bool.false_eq_true, exists_eq_right, ex2a, ex2b, ex2c, D.tup.injEq, D.lst.injEq, M.lst.injEq, eq_self, ix2]
  by_cases hlt : n < many
  rotate_left
  · simp only [hlt, decide_false, dSet, dRet, dRetN, dIfS, dFor, dIt, dgName, dgNil, dgCons, dgTup, dgLst, dgTxt, dgSet, dVar, dC, dG, dOp, dUn, dCallP, dCons, dNil, dTst, dAnd, dOr, dNot, dAndV, dOrV, dNotV, dIf, dFz, dTup, dLst, dCall, dChain, dSl, dONo, dOSome, dMs, dMi, dAsg, dPar, dDrop, dLc, dLc2, dYes, dRng1, dRng2, dEnum, dZip, dLam, dNewD, dRaise, dNext, dBrk, dCnt, DS.put, DS.wipe, DS.rest, wipeL, restL, val, slD, vals, frz1, put1, out1, pures, dargs, dback, getM, setM, M.frz, start0, par, dEnds, isRes, itemsD, p2i, addP, subP, mulP, divP, modP, powP, DL.ltP, DL.leP, DL.gtP, DL.geP, eqP, inP, isNP, ixP, lenP, isiP, allP, anyP, intP, listP, tupleP, sortedSP, reprP, slP, revP, negP, findP, countP, joinP, appP, insP, tyD, lenD, dMl, lcountP, isBP, dLSet, dLRg, List.getElem?_cons_zero, List.getElem?_cons_succ, List.set_cons_zero, List.set_cons_succ, List.cons_append, List.nil_append, List.replicate_succ, List.replicate_zero, List.length_cons, List.length_nil, Option.some.injEq, exists_eq_left', exists_eq_left, Wv.pu.injEq, D.sc.injEq, V.bl.injEq, V.int.injEq, V.str.injEq, Nat.reduceSub, Nat.reduceAdd, List.cons.injEq, and_true, true_and, exists_and_left, Option.map_some, if_true, if_false, Bool.false_eq_true, exists_eq_right, ex2a, ex2b, ex2c, D.tup.injEq, D.lst.injEq, M.lst.injEq, eq_self]
    subst hN
    exact fin k n none none k0 (by omega) n0
  simp only [hlt, decide_true, dSet, dRet, dRetN, dIfS, dFor, dIt, dgName, dgNil, dgCons, dgTup, dgLst, dgTxt, dgSet, dVar, dC, dG, dOp, dUn, dCallP, dCons, dNil, dTst, dAnd, dOr, dNot, dAndV, dOrV, dNotV, dIf, dFz, dTup, dLst, dCall, dChain, dSl, dONo, dOSome, dMs, dMi, dAsg, dPar, dDrop, dLc, dLc2, dYes, dRng1, dRng2, dEnum, dZip, dLam, dNewD, dRaise, dNext, dBrk, dCnt, DS.put, DS.wipe, DS.rest, wipeL, restL, val, slD, vals, frz1, put1, out1, pures, dargs, dback, getM, setM, M.frz, start0, par, dEnds, isRes, itemsD, p2i, addP, subP, mulP, divP, modP, powP, DL.ltP, DL.leP, DL.gtP, DL.geP, eqP, inP, isNP, ixP, lenP, isiP, allP, anyP, intP, listP, tupleP, sortedSP, reprP, slP, revP, negP, findP, countP, joinP, appP, insP, tyD, lenD, dMl, lcountP, isBP, dLSet, dLRg, List.getElem?_cons_zero, List.getElem?_cons_succ, List.set_cons_zero, List.set_cons_succ, List.cons_append, List.nil_append, List.replicate_succ, List.replicate_zero, List.length_cons, List.length_nil, Option.some.injEq, exists_eq_left', exists_eq_left, Wv.pu.injEq, D.sc.injEq, V.bl.injEq, V.int.injEq, V.str.injEq, Nat.reduceSub, Nat.reduceAdd, List.cons.injEq, and_true, true_and, exists_and_left, Option.map_some, if_true, if_false, Bool.false_eq_true, exists_eq_right, ex2a, ex2b, ex2c, D.tup.injEq, D.lst.injEq, M.lst.injEq, eq_self]
  have fin2 : ∀ (c : Int), dSeq (dAsg (dOp addP (dVar 2) (dC (.int 1))) (dgSet (dVar 0) (dC (.int 1)))) (dAsg (dCall ((sp__law_spread K)) (dCons (dFz (dVar 3)) (dCons (dFz (dVar 2)) (dNil)))) (dgSet (dVar 0) (dC (.int 2)))) ({ dEnds Q Y with nx := N } : DEnds) ⟨[some (.io 0), some (.pu (DI' many)), some (.pu (DI' k)), some (.pu (DI' c)), none], [.ow (.lst [.lst (cells.map fun c => DI' c), DI' k, DI' n]), .pu (DI' many)]⟩ := fun c => by
    refine seq_o fun N2 hN2 => ?_
    simp only [dSet, dRet, dRetN, dIfS, dFor, dIt, dgName, dgNil, dgCons, dgTup, dgLst, dgTxt, dgSet, dVar, dC, dG, dOp, dUn, dCallP, dCons, dNil, dTst, dAnd, dOr, dNot, dAndV, dOrV, dNotV, dIf, dFz, dTup, dLst, dCall, dChain, dSl, dONo, dOSome, dMs, dMi, dAsg, dPar, dDrop, dLc, dLc2, dYes, dRng1, dRng2, dEnum, dZip, dLam, dNewD, dRaise, dNext, dBrk, dCnt, DS.put, DS.wipe, DS.rest, wipeL, restL, val, slD, vals, frz1, put1, out1, pures, dargs, dback, getM, setM, M.frz, start0, par, dEnds, isRes, itemsD, p2i, addP, subP, mulP, divP, modP, powP, DL.ltP, DL.leP, DL.gtP, DL.geP, eqP, inP, isNP, ixP, lenP, isiP, allP, anyP, intP, listP, tupleP, sortedSP, reprP, slP, revP, negP, findP, countP, joinP, appP, insP, tyD, lenD, dMl, lcountP, isBP, dLSet, dLRg, List.getElem?_cons_zero, List.getElem?_cons_succ, List.set_cons_zero, List.set_cons_succ, List.cons_append, List.nil_append, List.replicate_succ, List.replicate_zero, List.length_cons, List.length_nil, Option.some.injEq, exists_eq_left', exists_eq_left, Wv.pu.injEq, D.sc.injEq, V.bl.injEq, V.int.injEq, V.str.injEq, Nat.reduceSub, Nat.reduceAdd, List.cons.injEq, and_true, true_and, exists_and_left, Option.map_some, if_true, if_false, Bool.false_eq_true, exists_eq_right, ex2a, ex2b, ex2c, D.tup.injEq, D.lst.injEq, M.lst.injEq, eq_self, ixn1]
    subst hN2
    simp only [dSet, dRet, dRetN, dIfS, dFor, dIt, dgName, dgNil, dgCons, dgTup, dgLst, dgTxt, dgSet, dVar, dC, dG, dOp, dUn, dCallP, dCons, dNil, dTst, dAnd, dOr, dNot, dAndV, dOrV, dNotV, dIf, dFz, dTup, dLst, dCall, dChain, dSl, dONo, dOSome, dMs, dMi, dAsg, dPar, dDrop, dLc, dLc2, dYes, dRng1, dRng2, dEnum, dZip, dLam, dNewD, dRaise, dNext, dBrk, dCnt, DS.put, DS.wipe, DS.rest, wipeL, restL, val, slD, vals, frz1, put1, out1, pures, dargs, dback, getM, setM, M.frz, start0, par, dEnds, isRes, itemsD, p2i, addP, subP, mulP, divP, modP, powP, DL.ltP, DL.leP, DL.gtP, DL.geP, eqP, inP, isNP, ixP, lenP, isiP, allP, anyP, intP, listP, tupleP, sortedSP, reprP, slP, revP, negP, findP, countP, joinP, appP, insP, tyD, lenD, dMl, lcountP, isBP, dLSet, dLRg, List.getElem?_cons_zero, List.getElem?_cons_succ, List.set_cons_zero, List.set_cons_succ, List.cons_append, List.nil_append, List.replicate_succ, List.replicate_zero, List.length_cons, List.length_nil, Option.some.injEq, exists_eq_left', exists_eq_left, Wv.pu.injEq, D.sc.injEq, V.bl.injEq, V.int.injEq, V.str.injEq, Nat.reduceSub, Nat.reduceAdd, List.cons.injEq, and_true, true_and, exists_and_left, Option.map_some, if_true, if_false, Bool.false_eq_true, exists_eq_right, ex2a, ex2b, ex2c, D.tup.injEq, D.lst.injEq, M.lst.injEq, eq_self, ixn2]
    refine ⟨c, k, rfl, k0, by omega, fun v v0 => ?_⟩
    simp only [dSet, dRet, dRetN, dIfS, dFor, dIt, dgName, dgNil, dgCons, dgTup, dgLst, dgTxt, dgSet, dVar, dC, dG, dOp, dUn, dCallP, dCons, dNil, dTst, dAnd, dOr, dNot, dAndV, dOrV, dNotV, dIf, dFz, dTup, dLst, dCall, dChain, dSl, dONo, dOSome, dMs, dMi, dAsg, dPar, dDrop, dLc, dLc2, dYes, dRng1, dRng2, dEnum, dZip, dLam, dNewD, dRaise, dNext, dBrk, dCnt, DS.put, DS.wipe, DS.rest, wipeL, restL, val, slD, vals, frz1, put1, out1, pures, dargs, dback, getM, setM, M.frz, start0, par, dEnds, isRes, itemsD, p2i, addP, subP, mulP, divP, modP, powP, DL.ltP, DL.leP, DL.gtP, DL.geP, eqP, inP, isNP, ixP, lenP, isiP, allP, anyP, intP, listP, tupleP, sortedSP, reprP, slP, revP, negP, findP, countP, joinP, appP, insP, tyD, lenD, dMl, lcountP, isBP, dLSet, dLRg, List.getElem?_cons_zero, List.getElem?_cons_succ, List.set_cons_zero, List.set_cons_succ, List.cons_append, List.nil_append, List.replicate_succ, List.replicate_zero, List.length_cons, List.length_nil, Option.some.injEq, exists_eq_left', exists_eq_left, Wv.pu.injEq, D.sc.injEq, V.bl.injEq, V.int.injEq, V.str.injEq, Nat.reduceSub, Nat.reduceAdd, List.cons.injEq, and_true, true_and, exists_and_left, Option.map_some, if_true, if_false, Bool.false_eq_true, exists_eq_right, ex2a, ex2b, ex2c, D.tup.injEq, D.lst.injEq, M.lst.injEq, eq_self, ixn2]
    subst hN
    exact fin (k + 1) v _ _ (by omega) (by omega) v0
  refine seq_o fun N2 hN2 => ?_
  simp only [dSet, dRet, dRetN, dIfS, dFor, dIt, dgName, dgNil, dgCons, dgTup, dgLst, dgTxt, dgSet, dVar, dC, dG, dOp, dUn, dCallP, dCons, dNil, dTst, dAnd, dOr, dNot, dAndV, dOrV, dNotV, dIf, dFz, dTup, dLst, dCall, dChain, dSl, dONo, dOSome, dMs, dMi, dAsg, dPar, dDrop, dLc, dLc2, dYes, dRng1, dRng2, dEnum, dZip, dLam, dNewD, dRaise, dNext, dBrk, dCnt, DS.put, DS.wipe, DS.rest, wipeL, restL, val, slD, vals, frz1, put1, out1, pures, dargs, dback, getM, setM, M.frz, start0, par, dEnds, isRes, itemsD, p2i, addP, subP, mulP, divP, modP, powP, DL.ltP, DL.leP, DL.gtP, DL.geP, eqP, inP, isNP, ixP, lenP, isiP, allP, anyP, intP, listP, tupleP, sortedSP, reprP, slP, revP, negP, findP, countP, joinP, appP, insP, tyD, lenD, dMl, lcountP, isBP, dLSet, dLRg, List.getElem?_cons_zero, List.getElem?_cons_succ, List.set_cons_zero, List.set_cons_succ, List.cons_append, List.nil_append, List.replicate_succ, List.replicate_zero, List.length_cons, List.length_nil, Option.some.injEq, exists_eq_left', exists_eq_left, Wv.pu.injEq, D.sc.injEq, V.bl.injEq, V.int.injEq, V.str.injEq, Nat.reduceSub, Nat.reduceAdd, List.cons.injEq, and_true, true_and, exists_and_left, Option.map_some, if_true, if_false, Bool.false_eq_true, exists_eq_right, ex2a, ex2b, ex2c, D.tup.injEq, D.lst.injEq, M.lst.injEq, eq_self, ix1]
  subst hN2
  refine seq_o fun N2 hN2 => ?_
  simp only [dSet, dRet, dRetN, dIfS, dFor, dIt, dgName, dgNil, dgCons, dgTup, dgLst, dgTxt, dgSet, dVar, dC, dG, dOp, dUn, dCallP, dCons, dNil, dTst, dAnd, dOr, dNot, dAndV, dOrV, dNotV, dIf, dFz, dTup, dLst, dCall, dChain, dSl, dONo, dOSome, dMs, dMi, dAsg, dPar, dDrop, dLc, dLc2, dYes, dRng1, dRng2, dEnum, dZip, dLam, dNewD, dRaise, dNext, dBrk, dCnt, DS.put, DS.wipe, DS.rest, wipeL, restL, val, slD, vals, frz1, put1, out1, pures, dargs, dback, getM, setM, M.frz, start0, par, dEnds, isRes, itemsD, p2i, addP, subP, mulP, divP, modP, powP, DL.ltP, DL.leP, DL.gtP, DL.geP, eqP, inP, isNP, ixP, lenP, isiP, allP, anyP, intP, listP, tupleP, sortedSP, reprP, slP, revP, negP, findP, countP, joinP, appP, insP, tyD, lenD, dMl, lcountP, isBP, dLSet, dLRg, List.getElem?_cons_zero, List.getElem?_cons_succ, List.set_cons_zero, List.set_cons_succ, List.cons_append, List.nil_append, List.replicate_succ, List.replicate_zero, List.length_cons, List.length_nil, Option.some.injEq, exists_eq_left', exists_eq_left, Wv.pu.injEq, D.sc.injEq, V.bl.injEq, V.int.injEq, V.str.injEq, Nat.reduceSub, Nat.reduceAdd, List.cons.injEq, and_true, true_and, exists_and_left, Option.map_some, if_true, if_false, Bool.false_eq_true, exists_eq_right, ex2a, ex2b, ex2c, D.tup.injEq, D.lst.injEq, M.lst.injEq, eq_self]
  subst hN2
  refine seq_o fun N2 hN2 => ?_
  simp only [dSet, dRet, dRetN, dIfS, dFor, dIt, dgName, dgNil, dgCons, dgTup, dgLst, dgTxt, dgSet, dVar, dC, dG, dOp, dUn, dCallP, dCons, dNil, dTst, dAnd, dOr, dNot, dAndV, dOrV, dNotV, dIf, dFz, dTup, dLst, dCall, dChain, dSl, dONo, dOSome, dMs, dMi, dAsg, dPar, dDrop, dLc, dLc2, dYes, dRng1, dRng2, dEnum, dZip, dLam, dNewD, dRaise, dNext, dBrk, dCnt, DS.put, DS.wipe, DS.rest, wipeL, restL, val, slD, vals, frz1, put1, out1, pures, dargs, dback, getM, setM, M.frz, start0, par, dEnds, isRes, itemsD, p2i, addP, subP, mulP, divP, modP, powP, DL.ltP, DL.leP, DL.gtP, DL.geP, eqP, inP, isNP, ixP, lenP, isiP, allP, anyP, intP, listP, tupleP, sortedSP, reprP, slP, revP, negP, findP, countP, joinP, appP, insP, tyD, lenD, dMl, lcountP, isBP, dLSet, dLRg, List.getElem?_cons_zero, List.getElem?_cons_succ, List.set_cons_zero, List.set_cons_succ, List.cons_append, List.nil_append, List.replicate_succ, List.replicate_zero, List.length_cons, List.length_nil, Option.some.injEq, exists_eq_left', exists_eq_left, Wv.pu.injEq, D.sc.injEq, V.bl.injEq, V.int.injEq, V.str.injEq, Nat.reduceSub, Nat.reduceAdd, List.cons.injEq, and_true, true_and, exists_and_left, Option.map_some, if_true, if_false, Bool.false_eq_true, exists_eq_right, ex2a, ex2b, ex2c, D.tup.injEq, D.lst.injEq, M.lst.injEq, eq_self, ix0, List.length_map]
  by_cases h1 : k < (cells.length : Int)
  · simp only [h1, decide_true, dSet, dRet, dRetN, dIfS, dFor, dIt, dgName, dgNil, dgCons, dgTup, dgLst, dgTxt, dgSet, dVar, dC, dG, dOp, dUn, dCallP, dCons, dNil, dTst, dAnd, dOr, dNot, dAndV, dOrV, dNotV, dIf, dFz, dTup, dLst, dCall, dChain, dSl, dONo, dOSome, dMs, dMi, dAsg, dPar, dDrop, dLc, dLc2, dYes, dRng1, dRng2, dEnum, dZip, dLam, dNewD, dRaise, dNext, dBrk, dCnt, DS.put, DS.wipe, DS.rest, wipeL, restL, val, slD, vals, frz1, put1, out1, pures, dargs, dback, getM, setM, M.frz, start0, par, dEnds, isRes, itemsD, p2i, addP, subP, mulP, divP, modP, powP, DL.ltP, DL.leP, DL.gtP, DL.geP, eqP, inP, isNP, ixP, lenP, isiP, allP, anyP, intP, listP, tupleP, sortedSP, reprP, slP, revP, negP, findP, countP, joinP, appP, insP, tyD, lenD, dMl, lcountP, isBP, dLSet, dLRg, List.getElem?_cons_zero, List.getElem?_cons_succ, List.set_cons_zero, List.set_cons_succ, List.cons_append, List.nil_append, List.replicate_succ, List.replicate_zero, List.length_cons, List.length_nil, Option.some.injEq, exists_eq_left', exists_eq_left, Wv.pu.injEq, D.sc.injEq, V.bl.injEq, V.int.injEq, V.str.injEq, Nat.reduceSub, Nat.reduceAdd, List.cons.injEq, and_true, true_and, exists_and_left, Option.map_some, if_true, if_false, Bool.false_eq_true, exists_eq_right, ex2a, ex2b, ex2c, D.tup.injEq, D.lst.injEq, M.lst.injEq, eq_self, ix0]
    obtain ⟨x, e, hx⟩ := at_of (xs := cells.map fun c => DI' c) k0 (by simpa using h1)
    obtain ⟨c, _, rfl⟩ := List.mem_map.mp hx
    refine ⟨_, e, ?_⟩
    subst hN2
    exact fin2 c
  · simp only [h1, decide_false, dSet, dRet, dRetN, dIfS, dFor, dIt, dgName, dgNil, dgCons, dgTup, dgLst, dgTxt, dgSet, dVar, dC, dG, dOp, dUn, dCallP, dCons, dNil, dTst, dAnd, dOr, dNot, dAndV, dOrV, dNotV, dIf, dFz, dTup, dLst, dCall, dChain, dSl, dONo, dOSome, dMs, dMi, dAsg, dPar, dDrop, dLc, dLc2, dYes, dRng1, dRng2, dEnum, dZip, dLam, dNewD, dRaise, dNext, dBrk, dCnt, DS.put, DS.wipe, DS.rest, wipeL, restL, val, slD, vals, frz1, put1, out1, pures, dargs, dback, getM, setM, M.frz, start0, par, dEnds, isRes, itemsD, p2i, addP, subP, mulP, divP, modP, powP, DL.ltP, DL.leP, DL.gtP, DL.geP, eqP, inP, isNP, ixP, lenP, isiP, allP, anyP, intP, listP, tupleP, sortedSP, reprP, slP, revP, negP, findP, countP, joinP, appP, insP, tyD, lenD, dMl, lcountP, isBP, dLSet, dLRg, List.getElem?_cons_zero, List.getElem?_cons_succ, List.set_cons_zero, List.set_cons_succ, List.cons_append, List.nil_append, List.replicate_succ, List.replicate_zero, List.length_cons, List.length_nil, Option.some.injEq, exists_eq_left', exists_eq_left, Wv.pu.injEq, D.sc.injEq, V.bl.injEq, V.int.injEq, V.str.injEq, Nat.reduceSub, Nat.reduceAdd, List.cons.injEq, and_true, true_and, exists_and_left, Option.map_some, if_true, if_false, Bool.false_eq_true, exists_eq_right, ex2a, ex2b, ex2c, D.tup.injEq, D.lst.injEq, M.lst.injEq, eq_self, ix0, List.length_map]
    by_cases h2 : 0 < (cells.length : Int)
    · simp only [h2, decide_true, dSet, dRet, dRetN, dIfS, dFor, dIt, dgName, dgNil, dgCons, dgTup, dgLst, dgTxt, dgSet, dVar, dC, dG, dOp, dUn, dCallP, dCons, dNil, dTst, dAnd, dOr, dNot, dAndV, dOrV, dNotV, dIf, dFz, dTup, dLst, dCall, dChain, dSl, dONo, dOSome, dMs, dMi, dAsg, dPar, dDrop, dLc, dLc2, dYes, dRng1, dRng2, dEnum, dZip, dLam, dNewD, dRaise, dNext, dBrk, dCnt, DS.put, DS.wipe, DS.rest, wipeL, restL, val, slD, vals, frz1, put1, out1, pures, dargs, dback, getM, setM, M.frz, start0, par, dEnds, isRes, itemsD, p2i, addP, subP, mulP, divP, modP, powP, DL.ltP, DL.leP, DL.gtP, DL.geP, eqP, inP, isNP, ixP, lenP, isiP, allP, anyP, intP, listP, tupleP, sortedSP, reprP, slP, revP, negP, findP, countP, joinP, appP, insP, tyD, lenD, dMl, lcountP, isBP, dLSet, dLRg, List.getElem?_cons_zero, List.getElem?_cons_succ, List.set_cons_zero, List.set_cons_succ, List.cons_append, List.nil_append, List.replicate_succ, List.replicate_zero, List.length_cons, List.length_nil, Option.some.injEq, exists_eq_left', exists_eq_left, Wv.pu.injEq, D.sc.injEq, V.bl.injEq, V.int.injEq, V.str.injEq, Nat.reduceSub, Nat.reduceAdd, List.cons.injEq, and_true, true_and, exists_and_left, Option.map_some, if_true, if_false, Bool.false_eq_true, exists_eq_right, ex2a, ex2b, ex2c, D.tup.injEq, D.lst.injEq, M.lst.injEq, eq_self, ix0, List.length_map]
      have j1 := Int.emod_nonneg (k * 5 + 3) (show (cells.length : Int) ≠ 0 by omega)
      have j2 := Int.emod_lt_of_pos (k * 5 + 3) h2
      refine ⟨log_mul (m := 40) (n := 40) k0 (by omega) (by decide) (by decide) (by decide) (by decide) (by decide), ?_⟩
      obtain ⟨x, e, hx⟩ := at_of (xs := cells.map fun c => DI' c) j1 (by simpa using j2)
      obtain ⟨c, _, rfl⟩ := List.mem_map.mp hx
      refine ⟨_, e, ?_⟩
      simp only [dSet, dRet, dRetN, dIfS, dFor, dIt, dgName, dgNil, dgCons, dgTup, dgLst, dgTxt, dgSet, dVar, dC, dG, dOp, dUn, dCallP, dCons, dNil, dTst, dAnd, dOr, dNot, dAndV, dOrV, dNotV, dIf, dFz, dTup, dLst, dCall, dChain, dSl, dONo, dOSome, dMs, dMi, dAsg, dPar, dDrop, dLc, dLc2, dYes, dRng1, dRng2, dEnum, dZip, dLam, dNewD, dRaise, dNext, dBrk, dCnt, DS.put, DS.wipe, DS.rest, wipeL, restL, val, slD, vals, frz1, put1, out1, pures, dargs, dback, getM, setM, M.frz, start0, par, dEnds, isRes, itemsD, p2i, addP, subP, mulP, divP, modP, powP, DL.ltP, DL.leP, DL.gtP, DL.geP, eqP, inP, isNP, ixP, lenP, isiP, allP, anyP, intP, listP, tupleP, sortedSP, reprP, slP, revP, negP, findP, countP, joinP, appP, insP, tyD, lenD, dMl, lcountP, isBP, dLSet, dLRg, List.getElem?_cons_zero, List.getElem?_cons_succ, List.set_cons_zero, List.set_cons_succ, List.cons_append, List.nil_append, List.replicate_succ, List.replicate_zero, List.length_cons, List.length_nil, Option.some.injEq, exists_eq_left', exists_eq_left, Wv.pu.injEq, D.sc.injEq, V.bl.injEq, V.int.injEq, V.str.injEq, Nat.reduceSub, Nat.reduceAdd, List.cons.injEq, and_true, true_and, exists_and_left, Option.map_some, if_true, if_false, Bool.false_eq_true, exists_eq_right, ex2a, ex2b, ex2c, D.tup.injEq, D.lst.injEq, M.lst.injEq, eq_self]
      have p17 : (0 : Int) < 10 ^ Int.toNat 17 := by decide
      refine ⟨⟨by decide, by decide, by decide⟩, by omega, ?_⟩
      subst hN2
      exact fin2 _
    · simp only [h2, decide_false, dSet, dRet, dRetN, dIfS, dFor, dIt, dgName, dgNil, dgCons, dgTup, dgLst, dgTxt, dgSet, dVar, dC, dG, dOp, dUn, dCallP, dCons, dNil, dTst, dAnd, dOr, dNot, dAndV, dOrV, dNotV, dIf, dFz, dTup, dLst, dCall, dChain, dSl, dONo, dOSome, dMs, dMi, dAsg, dPar, dDrop, dLc, dLc2, dYes, dRng1, dRng2, dEnum, dZip, dLam, dNewD, dRaise, dNext, dBrk, dCnt, DS.put, DS.wipe, DS.rest, wipeL, restL, val, slD, vals, frz1, put1, out1, pures, dargs, dback, getM, setM, M.frz, start0, par, dEnds, isRes, itemsD, p2i, addP, subP, mulP, divP, modP, powP, DL.ltP, DL.leP, DL.gtP, DL.geP, eqP, inP, isNP, ixP, lenP, isiP, allP, anyP, intP, listP, tupleP, sortedSP, reprP, slP, revP, negP, findP, countP, joinP, appP, insP, tyD, lenD, dMl, lcountP, isBP, dLSet, dLRg, List.getElem?_cons_zero, List.getElem?_cons_succ, List.set_cons_zero, List.set_cons_succ, List.cons_append, List.nil_append, List.replicate_succ, List.replicate_zero, List.length_cons, List.length_nil, Option.some.injEq, exists_eq_left', exists_eq_left, Wv.pu.injEq, D.sc.injEq, V.bl.injEq, V.int.injEq, V.str.injEq, Nat.reduceSub, Nat.reduceAdd, List.cons.injEq, and_true, true_and, exists_and_left, Option.map_some, if_true, if_false, Bool.false_eq_true, exists_eq_right, ex2a, ex2b, ex2c, D.tup.injEq, D.lst.injEq, M.lst.injEq, eq_self]
      subst hN2
      exact fin2 0
theorem r__law_one_of (h : sp__law_one_of K ws Q Y) : t__law_one_of K (dEnds Q Y) (start0 N__law_one_of ws) := by
  obtain ⟨b, pen, some, ds, rfl, hp, hb, hs, hne, hlen, q⟩ := h
  have hpos : 0 < ds.length := List.length_pos_iff.mpr hne
  rcases hs with rfl | ⟨z, rfl, hz, rfl⟩
  · simp only [t__law_one_of, N__law_one_of, dSet, dRet, dRetN, dIfS, dFor, dIt, dgName, dgNil, dgCons, dgTup, dgLst, dgTxt, dgSet, dVar, dC, dG, dOp, dUn, dCallP, dCons, dNil, dTst, dAnd, dOr, dNot, dAndV, dOrV, dNotV, dIf, dFz, dTup, dLst, dCall, dChain, dSl, dONo, dOSome, dMs, dMi, dAsg, dPar, dDrop, dLc, dLc2, dYes, dRng1, dRng2, dEnum, dZip, dLam, dNewD, dRaise, dNext, dBrk, dCnt, DS.put, DS.wipe, DS.rest, wipeL, restL, val, slD, vals, frz1, put1, out1, pures, dargs, dback, getM, setM, M.frz, start0, par, dEnds, isRes, itemsD, p2i, addP, subP, mulP, divP, modP, powP, DL.ltP, DL.leP, DL.gtP, DL.geP, eqP, inP, isNP, ixP, lenP, isiP, allP, anyP, intP, listP, tupleP, sortedSP, reprP, slP, revP, negP, findP, countP, joinP, appP, insP, tyD, lenD, dMl, lcountP, isBP, dLSet, dLRg, List.getElem?_cons_zero, List.getElem?_cons_succ, List.set_cons_zero, List.set_cons_succ, List.cons_append, List.nil_append, List.replicate_succ, List.replicate_zero, List.length_cons, List.length_nil, Option.some.injEq, exists_eq_left', exists_eq_left, Wv.pu.injEq, D.sc.injEq, V.bl.injEq, V.int.injEq, V.str.injEq, Nat.reduceSub, Nat.reduceAdd, List.cons.injEq, and_true, true_and, exists_and_left, Option.map_some, if_true, if_false, Bool.false_eq_true, exists_eq_right, ex2a, ex2b, ex2c, D.tup.injEq, D.lst.injEq, M.lst.injEq, eq_self]
    refine ⟨b, pen, ds.length, rfl, hp, hb, by omega, by omega, fun v pen' v0 v1 hp' => ?_⟩
    simp only [dSet, dRet, dRetN, dIfS, dFor, dIt, dgName, dgNil, dgCons, dgTup, dgLst, dgTxt, dgSet, dVar, dC, dG, dOp, dUn, dCallP, dCons, dNil, dTst, dAnd, dOr, dNot, dAndV, dOrV, dNotV, dIf, dFz, dTup, dLst, dCall, dChain, dSl, dONo, dOSome, dMs, dMi, dAsg, dPar, dDrop, dLc, dLc2, dYes, dRng1, dRng2, dEnum, dZip, dLam, dNewD, dRaise, dNext, dBrk, dCnt, DS.put, DS.wipe, DS.rest, wipeL, restL, val, slD, vals, frz1, put1, out1, pures, dargs, dback, getM, setM, M.frz, start0, par, dEnds, isRes, itemsD, p2i, addP, subP, mulP, divP, modP, powP, DL.ltP, DL.leP, DL.gtP, DL.geP, eqP, inP, isNP, ixP, lenP, isiP, allP, anyP, intP, listP, tupleP, sortedSP, reprP, slP, revP, negP, findP, countP, joinP, appP, insP, tyD, lenD, dMl, lcountP, isBP, dLSet, dLRg, List.getElem?_cons_zero, List.getElem?_cons_succ, List.set_cons_zero, List.set_cons_succ, List.cons_append, List.nil_append, List.replicate_succ, List.replicate_zero, List.length_cons, List.length_nil, Option.some.injEq, exists_eq_left', exists_eq_left, Wv.pu.injEq, D.sc.injEq, V.bl.injEq, V.int.injEq, V.str.injEq, Nat.reduceSub, Nat.reduceAdd, List.cons.injEq, and_true, true_and, exists_and_left, Option.map_some, if_true, if_false, Bool.false_eq_true, exists_eq_right, ex2a, ex2b, ex2c, D.tup.injEq, D.lst.injEq, M.lst.injEq, eq_self]
    obtain ⟨x, e, hx⟩ := at_of (xs := ds) v0 (by omega)
    exact ⟨x, e, q x pen' hx hp'⟩
  · have hl : z.length = z.cps.toList.length := by simp [Str.length]
    rw [List.length_map] at hpos hlen
    simp only [t__law_one_of, N__law_one_of, dSet, dRet, dRetN, dIfS, dFor, dIt, dgName, dgNil, dgCons, dgTup, dgLst, dgTxt, dgSet, dVar, dC, dG, dOp, dUn, dCallP, dCons, dNil, dTst, dAnd, dOr, dNot, dAndV, dOrV, dNotV, dIf, dFz, dTup, dLst, dCall, dChain, dSl, dONo, dOSome, dMs, dMi, dAsg, dPar, dDrop, dLc, dLc2, dYes, dRng1, dRng2, dEnum, dZip, dLam, dNewD, dRaise, dNext, dBrk, dCnt, DS.put, DS.wipe, DS.rest, wipeL, restL, val, slD, vals, frz1, put1, out1, pures, dargs, dback, getM, setM, M.frz, start0, par, dEnds, isRes, itemsD, p2i, addP, subP, mulP, divP, modP, powP, DL.ltP, DL.leP, DL.gtP, DL.geP, eqP, inP, isNP, ixP, lenP, isiP, allP, anyP, intP, listP, tupleP, sortedSP, reprP, slP, revP, negP, findP, countP, joinP, appP, insP, tyD, lenD, dMl, lcountP, isBP, dLSet, dLRg, List.getElem?_cons_zero, List.getElem?_cons_succ, List.set_cons_zero, List.set_cons_succ, List.cons_append, List.nil_append, List.replicate_succ, List.replicate_zero, List.length_cons, List.length_nil, Option.some.injEq, exists_eq_left', exists_eq_left, Wv.pu.injEq, D.sc.injEq, V.bl.injEq, V.int.injEq, V.str.injEq, Nat.reduceSub, Nat.reduceAdd, List.cons.injEq, and_true, true_and, exists_and_left, Option.map_some, if_true, if_false, Bool.false_eq_true, exists_eq_right, ex2a, ex2b, ex2c, D.tup.injEq, D.lst.injEq, M.lst.injEq, eq_self, hz]
    refine ⟨b, pen, z.length, rfl, hp, hb, by omega, by omega, fun v pen' v0 v1 hp' => ?_⟩
    simp only [dSet, dRet, dRetN, dIfS, dFor, dIt, dgName, dgNil, dgCons, dgTup, dgLst, dgTxt, dgSet, dVar, dC, dG, dOp, dUn, dCallP, dCons, dNil, dTst, dAnd, dOr, dNot, dAndV, dOrV, dNotV, dIf, dFz, dTup, dLst, dCall, dChain, dSl, dONo, dOSome, dMs, dMi, dAsg, dPar, dDrop, dLc, dLc2, dYes, dRng1, dRng2, dEnum, dZip, dLam, dNewD, dRaise, dNext, dBrk, dCnt, DS.put, DS.wipe, DS.rest, wipeL, restL, val, slD, vals, frz1, put1, out1, pures, dargs, dback, getM, setM, M.frz, start0, par, dEnds, isRes, itemsD, p2i, addP, subP, mulP, divP, modP, powP, DL.ltP, DL.leP, DL.gtP, DL.geP, eqP, inP, isNP, ixP, lenP, isiP, allP, anyP, intP, listP, tupleP, sortedSP, reprP, slP, revP, negP, findP, countP, joinP, appP, insP, tyD, lenD, dMl, lcountP, isBP, dLSet, dLRg, List.getElem?_cons_zero, List.getElem?_cons_succ, List.set_cons_zero, List.set_cons_succ, List.cons_append, List.nil_append, List.replicate_succ, List.replicate_zero, List.length_cons, List.length_nil, Option.some.injEq, exists_eq_left', exists_eq_left, Wv.pu.injEq, D.sc.injEq, V.bl.injEq, V.int.injEq, V.str.injEq, Nat.reduceSub, Nat.reduceAdd, List.cons.injEq, and_true, true_and, exists_and_left, Option.map_some, if_true, if_false, Bool.false_eq_true, exists_eq_right, ex2a, ex2b, ex2c, D.tup.injEq, D.lst.injEq, M.lst.injEq, eq_self, hz]
    obtain ⟨x, e, hx⟩ := at_of (xs := z.cps.toList) v0 (by omega)
    exact ⟨x, e, q _ pen' (List.mem_map.mpr ⟨x, hx, rfl⟩) hp'⟩
theorem ascii_bits {z : Str} (h : z ∈ (["01", "01?", "0?", "1?", "?01"] : List Str)) : z.cps.toList ≠ [] ∧ z.length ≤ 3 ∧ ∀ c ∈ z.cps.toList, isBit (sign c) = true := by
  simp only [List.mem_cons, List.not_mem_nil, or_false] at h
  rcases h with rfl | rfl | rfl | rfl | rfl <;> decide
theorem one_of_call {b : Nat} {pen : List D} {ds : List D} {some : D} {Q : Wv → List Wv → Prop} {Y : Value → List Wv → Prop} (hp : PenOk b pen) (hb : b < 1000000000) (hs : some = .lst ds ∨ ∃ z, some = DS' z ∧ z.length ≤ sizeLine ∧ ds = z.cps.toList.map fun c => DS' (sign c)) (hne : ds ≠ []) (hl : ds.length < 1000000)
    (q : ∀ d pen', d ∈ ds → PenOk (b + 1) pen' → Q (.pu d) [.ow (.lst pen'), .pu some]) : sp__law_one_of K [.ow (.lst pen), .pu some] Q Y := ⟨b, pen, some, ds, rfl, hp, hb, hs, hne, hl, q⟩
theorem r__law_any_word (h : sp__law_any_word K ws Q Y) : t__law_any_word K (dEnds Q Y) (start0 N__law_any_word ws) := by
  obtain ⟨b, pen, n, rfl, hp, hb, hn, q⟩ := h
  unfold t__law_any_word
  refine seq_o fun N hN => ?_
  simp only [N__law_any_word, dSet, dRet, dRetN, dIfS, dFor, dIt, dgName, dgNil, dgCons, dgTup, dgLst, dgTxt, dgSet, dVar, dC, dG, dOp, dUn, dCallP, dCons, dNil, dTst, dAnd, dOr, dNot, dAndV, dOrV, dNotV, dIf, dFz, dTup, dLst, dCall, dChain, dSl, dONo, dOSome, dMs, dMi, dAsg, dPar, dDrop, dLc, dLc2, dYes, dRng1, dRng2, dEnum, dZip, dLam, dNewD, dRaise, dNext, dBrk, dCnt, DS.put, DS.wipe, DS.rest, wipeL, restL, val, slD, vals, frz1, put1, out1, pures, dargs, dback, getM, setM, M.frz, start0, par, dEnds, isRes, itemsD, p2i, addP, subP, mulP, divP, modP, powP, DL.ltP, DL.leP, DL.gtP, DL.geP, eqP, inP, isNP, ixP, lenP, isiP, allP, anyP, intP, listP, tupleP, sortedSP, reprP, slP, revP, negP, findP, countP, joinP, appP, insP, tyD, lenD, dMl, lcountP, isBP, dLSet, dLRg, List.getElem?_cons_zero, List.getElem?_cons_succ, List.set_cons_zero, List.set_cons_succ, List.cons_append, List.nil_append, List.replicate_succ, List.replicate_zero, List.length_cons, List.length_nil, Option.some.injEq, exists_eq_left', exists_eq_left, Wv.pu.injEq, D.sc.injEq, V.bl.injEq, V.int.injEq, V.str.injEq, Nat.reduceSub, Nat.reduceAdd, List.cons.injEq, and_true, true_and, exists_and_left, Option.map_some, if_true, if_false, Bool.false_eq_true, exists_eq_right, ex2a, ex2b, ex2c, D.tup.injEq, D.lst.injEq, M.lst.injEq, eq_self]
  refine ⟨by decide, ?_⟩
  refine one_of_call hp (by omega) (.inl rfl) (by simp) (by decide) fun d pen1 hd hp1 => ?_
  obtain ⟨z, hz, rfl⟩ : ∃ z, z ∈ (["01", "01?", "0?", "1?", "?01"] : List Str) ∧ d = DS' z := by
    simp only [List.mem_cons, List.not_mem_nil, or_false] at hd
    rcases hd with rfl | rfl | rfl | rfl | rfl <;> exact ⟨_, by simp, rfl⟩
  obtain ⟨z1, z2, z3⟩ := ascii_bits hz
  simp only [dSet, dRet, dRetN, dIfS, dFor, dIt, dgName, dgNil, dgCons, dgTup, dgLst, dgTxt, dgSet, dVar, dC, dG, dOp, dUn, dCallP, dCons, dNil, dTst, dAnd, dOr, dNot, dAndV, dOrV, dNotV, dIf, dFz, dTup, dLst, dCall, dChain, dSl, dONo, dOSome, dMs, dMi, dAsg, dPar, dDrop, dLc, dLc2, dYes, dRng1, dRng2, dEnum, dZip, dLam, dNewD, dRaise, dNext, dBrk, dCnt, DS.put, DS.wipe, DS.rest, wipeL, restL, val, slD, vals, frz1, put1, out1, pures, dargs, dback, getM, setM, M.frz, start0, par, dEnds, isRes, itemsD, p2i, addP, subP, mulP, divP, modP, powP, DL.ltP, DL.leP, DL.gtP, DL.geP, eqP, inP, isNP, ixP, lenP, isiP, allP, anyP, intP, listP, tupleP, sortedSP, reprP, slP, revP, negP, findP, countP, joinP, appP, insP, tyD, lenD, dMl, lcountP, isBP, dLSet, dLRg, List.getElem?_cons_zero, List.getElem?_cons_succ, List.set_cons_zero, List.set_cons_succ, List.cons_append, List.nil_append, List.replicate_succ, List.replicate_zero, List.length_cons, List.length_nil, Option.some.injEq, exists_eq_left', exists_eq_left, Wv.pu.injEq, D.sc.injEq, V.bl.injEq, V.int.injEq, V.str.injEq, Nat.reduceSub, Nat.reduceAdd, List.cons.injEq, and_true, true_and, exists_and_left, Option.map_some, if_true, if_false, Bool.false_eq_true, exists_eq_right, ex2a, ex2b, ex2c, D.tup.injEq, D.lst.injEq, M.lst.injEq, eq_self, hN]
  refine ⟨by first | exact ⟨_, rfl⟩ | omega, by first | exact ⟨_, rfl⟩ | omega, by omega, ?_⟩
  refine comp_st (fun i acc δ => ∃ pen' cs, δ = ⟨[some (.io 0), some (.pu (DI' n)), some (.pu (DS' z)), none], [.ow (.lst pen'), .pu (DI' n)]⟩ ∧ PenOk (b + 1 + i) pen' ∧ acc = cs.map (fun c => DS' (sign c)) ∧ cs.length = i ∧ ∀ c ∈ cs, isBit (sign c) = true) _ _ 0 _ (fun j d acc δ K2 hd hJ k => ?_) (fun acc δ hJ => ?_) ⟨pen1, [], rfl, hp1, rfl, rfl, fun c hc => by cases hc⟩
  · obtain ⟨pen', cs, rfl, hp', rfl, hl, hcs⟩ := hJ
    have hj : j < n := by
      have := (List.getElem?_eq_some_iff.mp hd).1
      rw [rng_len] at this
      simpa using this
    rw [Nat.zero_add] at hp' hl
    simp only [dSet, dRet, dRetN, dIfS, dFor, dIt, dgName, dgNil, dgCons, dgTup, dgLst, dgTxt, dgSet, dVar, dC, dG, dOp, dUn, dCallP, dCons, dNil, dTst, dAnd, dOr, dNot, dAndV, dOrV, dNotV, dIf, dFz, dTup, dLst, dCall, dChain, dSl, dONo, dOSome, dMs, dMi, dAsg, dPar, dDrop, dLc, dLc2, dYes, dRng1, dRng2, dEnum, dZip, dLam, dNewD, dRaise, dNext, dBrk, dCnt, DS.put, DS.wipe, DS.rest, wipeL, restL, val, slD, vals, frz1, put1, out1, pures, dargs, dback, getM, setM, M.frz, start0, par, dEnds, isRes, itemsD, p2i, addP, subP, mulP, divP, modP, powP, DL.ltP, DL.leP, DL.gtP, DL.geP, eqP, inP, isNP, ixP, lenP, isiP, allP, anyP, intP, listP, tupleP, sortedSP, reprP, slP, revP, negP, findP, countP, joinP, appP, insP, tyD, lenD, dMl, lcountP, isBP, dLSet, dLRg, List.getElem?_cons_zero, List.getElem?_cons_succ, List.set_cons_zero, List.set_cons_succ, List.cons_append, List.nil_append, List.replicate_succ, List.replicate_zero, List.length_cons, List.length_nil, Option.some.injEq, exists_eq_left', exists_eq_left, Wv.pu.injEq, D.sc.injEq, V.bl.injEq, V.int.injEq, V.str.injEq, Nat.reduceSub, Nat.reduceAdd, List.cons.injEq, and_true, true_and, exists_and_left, Option.map_some, if_true, if_false, Bool.false_eq_true, exists_eq_right, ex2a, ex2b, ex2c, D.tup.injEq, D.lst.injEq, M.lst.injEq, eq_self]
    refine one_of_call hp' (by omega) (.inr ⟨z, rfl, small_sl (by omega), rfl⟩) (by simpa using z1) ?_ fun d2 pen2 hd2 hp2 => ?_
    · rw [List.length_map]
      have : z.cps.toList.length = z.length := by simp [Str.length]
      omega
    · obtain ⟨c, hc, rfl⟩ := List.mem_map.mp hd2
      simp only [dSet, dRet, dRetN, dIfS, dFor, dIt, dgName, dgNil, dgCons, dgTup, dgLst, dgTxt, dgSet, dVar, dC, dG, dOp, dUn, dCallP, dCons, dNil, dTst, dAnd, dOr, dNot, dAndV, dOrV, dNotV, dIf, dFz, dTup, dLst, dCall, dChain, dSl, dONo, dOSome, dMs, dMi, dAsg, dPar, dDrop, dLc, dLc2, dYes, dRng1, dRng2, dEnum, dZip, dLam, dNewD, dRaise, dNext, dBrk, dCnt, DS.put, DS.wipe, DS.rest, wipeL, restL, val, slD, vals, frz1, put1, out1, pures, dargs, dback, getM, setM, M.frz, start0, par, dEnds, isRes, itemsD, p2i, addP, subP, mulP, divP, modP, powP, DL.ltP, DL.leP, DL.gtP, DL.geP, eqP, inP, isNP, ixP, lenP, isiP, allP, anyP, intP, listP, tupleP, sortedSP, reprP, slP, revP, negP, findP, countP, joinP, appP, insP, tyD, lenD, dMl, lcountP, isBP, dLSet, dLRg, List.getElem?_cons_zero, List.getElem?_cons_succ, List.set_cons_zero, List.set_cons_succ, List.cons_append, List.nil_append, List.replicate_succ, List.replicate_zero, List.length_cons, List.length_nil, Option.some.injEq, exists_eq_left', exists_eq_left, Wv.pu.injEq, D.sc.injEq, V.bl.injEq, V.int.injEq, V.str.injEq, Nat.reduceSub, Nat.reduceAdd, List.cons.injEq, and_true, true_and, exists_and_left, Option.map_some, if_true, if_false, Bool.false_eq_true, exists_eq_right, ex2a, ex2b, ex2c, D.tup.injEq, D.lst.injEq, M.lst.injEq, eq_self]
      refine k _ _ ⟨?_, pen2, cs ++ [c], rfl, ?_, ?_, ?_, ?_⟩
      · rw [List.length_map, hl]
        exact Nat.lt_of_lt_of_le (show j < 1000 by omega) (by decide)
      · rw [Nat.zero_add, show b + 1 + (j + 1) = b + 1 + j + 1 by omega]; exact hp2
      · simp
      · simp [hl]
      · intro c' hc'
        rcases List.mem_append.mp hc' with hc' | hc'
        · exact hcs c' hc'
        · rw [List.mem_singleton.mp hc']; exact z3 c hc
  · obtain ⟨pen', cs, rfl, hp', rfl, hl, hcs⟩ := hJ
    rw [rng_len] at hp' hl
    simp only [dSet, dRet, dRetN, dIfS, dFor, dIt, dgName, dgNil, dgCons, dgTup, dgLst, dgTxt, dgSet, dVar, dC, dG, dOp, dUn, dCallP, dCons, dNil, dTst, dAnd, dOr, dNot, dAndV, dOrV, dNotV, dIf, dFz, dTup, dLst, dCall, dChain, dSl, dONo, dOSome, dMs, dMi, dAsg, dPar, dDrop, dLc, dLc2, dYes, dRng1, dRng2, dEnum, dZip, dLam, dNewD, dRaise, dNext, dBrk, dCnt, DS.put, DS.wipe, DS.rest, wipeL, restL, val, slD, vals, frz1, put1, out1, pures, dargs, dback, getM, setM, M.frz, start0, par, dEnds, isRes, itemsD, p2i, addP, subP, mulP, divP, modP, powP, DL.ltP, DL.leP, DL.gtP, DL.geP, eqP, inP, isNP, ixP, lenP, isiP, allP, anyP, intP, listP, tupleP, sortedSP, reprP, slP, revP, negP, findP, countP, joinP, appP, insP, tyD, lenD, dMl, lcountP, isBP, dLSet, dLRg, List.getElem?_cons_zero, List.getElem?_cons_succ, List.set_cons_zero, List.set_cons_succ, List.cons_append, List.nil_append, List.replicate_succ, List.replicate_zero, List.length_cons, List.length_nil, Option.some.injEq, exists_eq_left', exists_eq_left, Wv.pu.injEq, D.sc.injEq, V.bl.injEq, V.int.injEq, V.str.injEq, Nat.reduceSub, Nat.reduceAdd, List.cons.injEq, and_true, true_and, exists_and_left, Option.map_some, if_true, if_false, Bool.false_eq_true, exists_eq_right, ex2a, ex2b, ex2c, D.tup.injEq, D.lst.injEq, M.lst.injEq, eq_self]
    have e1 : (cs.map fun c => DS' (sign c)) = (cs.map sign).map fun z => DS' z := by rw [List.map_map]; rfl
    show ∃ ys, strsD (cs.map fun c => DS' (sign c)) = some ys ∧ _
    rw [e1, strs_mapF]
    have hl1 : (List.map (·.length) (cs.map sign)).sum = cs.length := by
      rw [join_len1 _ fun y hy => by obtain ⟨c, _, rfl⟩ := List.mem_map.mp hy; rfl]
      simp
    have e0 : (Str.ofString "").length = 0 := rfl
    refine ⟨_, rfl, by rw [hl1, e0, Nat.mul_zero]; simp at hl; omega, ?_⟩
    have ej : (Txt.join "" (cs.map sign)).cps.toList = cs := by
      rw [join_flat, List.map_map]
      have : ((·.cps.toList) ∘ sign) = fun (c : Nat) => [c] := rfl
      rw [this]
      exact sing_flat cs
    refine q _ pen' ?_ (by rw [ej]; exact hcs) (by simpa using hp')
    show (Txt.join "" (cs.map sign)).cps.size = n
    rw [← Array.length_toList, ej, hl]
    simp
theorem ixn_of {n : Nat} {i : Int} (h0 : 0 ≤ i) (h : i < n) : ixN n i = some i.toNat := by
  unfold ixN
  rw [if_pos h0, if_pos h]
theorem en_at {j : Nat} {k : Nat} {ds : List D} {d : D} (h : (enD k ds)[j]? = some d) : ∃ x, ds[j]? = some x ∧ d = .tup [DI' ((k + j : Nat) : Int), x] := by
  have hj : j < ds.length := by
    have := (List.getElem?_eq_some_iff.mp h).1
    rwa [enD_len] at this
  have h1 : ds[j]? = some ds[j] := by simp [hj]
  have := enD_get (k := k) h1
  rw [h] at this
  cases this
  exact ⟨_, h1, rfl⟩
theorem cut12 (ns : List Int) : (cutL ns none (some 12)).length ≤ 12 ∧ (cutL ns (some 12) (some 63) ≠ [] → (cutL ns none (some 12)).length = 12) := by
  unfold cutL HT.sIx
  constructor
  · simp
    omega
  · intro h
    have h' : 12 < ns.length := by
      refine Classical.byContradiction fun z => h ?_
      apply List.eq_nil_of_length_eq_zero
      simp
      omega
    simp
    omega
theorem r__law_open (h : sp__law_open K ws Q Y) : t__law_open K (dEnds Q Y) (start0 N__law_open ws) := by
  obtain ⟨ns, rfl, hn, q⟩ := h
  obtain ⟨l1, l2⟩ := cut12 ns
  unfold t__law_open
  refine seq_o fun N hN => ?_
  simp only [N__law_open, dSet, dRet, dRetN, dIfS, dFor, dIt, dgName, dgNil, dgCons, dgTup, dgLst, dgTxt, dgSet, dVar, dC, dG, dOp, dUn, dCallP, dCons, dNil, dTst, dAnd, dOr, dNot, dAndV, dOrV, dNotV, dIf, dFz, dTup, dLst, dCall, dChain, dSl, dONo, dOSome, dMs, dMi, dAsg, dPar, dDrop, dLc, dLc2, dYes, dRng1, dRng2, dEnum, dZip, dLam, dNewD, dRaise, dNext, dBrk, dCnt, DS.put, DS.wipe, DS.rest, wipeL, restL, val, slD, vals, frz1, put1, out1, pures, dargs, dback, getM, setM, M.frz, start0, par, dEnds, isRes, itemsD, p2i, addP, subP, mulP, divP, modP, powP, DL.ltP, DL.leP, DL.gtP, DL.geP, eqP, inP, isNP, ixP, lenP, isiP, allP, anyP, intP, listP, tupleP, sortedSP, reprP, slP, revP, negP, findP, countP, joinP, appP, insP, tyD, lenD, dMl, lcountP, isBP, dLSet, dLRg, List.getElem?_cons_zero, List.getElem?_cons_succ, List.set_cons_zero, List.set_cons_succ, List.cons_append, List.nil_append, List.replicate_succ, List.replicate_zero, List.length_cons, List.length_nil, Option.some.injEq, exists_eq_left', exists_eq_left, Wv.pu.injEq, D.sc.injEq, V.bl.injEq, V.int.injEq, V.str.injEq, Nat.reduceSub, Nat.reduceAdd, List.cons.injEq, and_true, true_and, exists_and_left, Option.map_some, if_true, if_false, Bool.false_eq_true, exists_eq_right, ex2a, ex2b, ex2c, D.tup.injEq, D.lst.injEq, M.lst.injEq, eq_self]
  subst hN
  refine seq_o fun N hN => ?_
  simp only [dSet, dRet, dRetN, dIfS, dFor, dIt, dgName, dgNil, dgCons, dgTup, dgLst, dgTxt, dgSet, dVar, dC, dG, dOp, dUn, dCallP, dCons, dNil, dTst, dAnd, dOr, dNot, dAndV, dOrV, dNotV, dIf, dFz, dTup, dLst, dCall, dChain, dSl, dONo, dOSome, dMs, dMi, dAsg, dPar, dDrop, dLc, dLc2, dYes, dRng1, dRng2, dEnum, dZip, dLam, dNewD, dRaise, dNext, dBrk, dCnt, DS.put, DS.wipe, DS.rest, wipeL, restL, val, slD, vals, frz1, put1, out1, pures, dargs, dback, getM, setM, M.frz, start0, par, dEnds, isRes, itemsD, p2i, addP, subP, mulP, divP, modP, powP, DL.ltP, DL.leP, DL.gtP, DL.geP, eqP, inP, isNP, ixP, lenP, isiP, allP, anyP, intP, listP, tupleP, sortedSP, reprP, slP, revP, negP, findP, countP, joinP, appP, insP, tyD, lenD, dMl, lcountP, isBP, dLSet, dLRg, List.getElem?_cons_zero, List.getElem?_cons_succ, List.set_cons_zero, List.set_cons_succ, List.cons_append, List.nil_append, List.replicate_succ, List.replicate_zero, List.length_cons, List.length_nil, Option.some.injEq, exists_eq_left', exists_eq_left, Wv.pu.injEq, D.sc.injEq, V.bl.injEq, V.int.injEq, V.str.injEq, Nat.reduceSub, Nat.reduceAdd, List.cons.injEq, and_true, true_and, exists_and_left, Option.map_some, if_true, if_false, Bool.false_eq_true, exists_eq_right, ex2a, ex2b, ex2c, D.tup.injEq, D.lst.injEq, M.lst.injEq, eq_self]
  refine for_i (fun j δ => ∃ (cells : List Int) (x y : Option Wv), δ = ⟨[some (.pu (.scr ns)), some (.ow (.lst (cells.map fun c => DI' c))), x, y], [.pu (.scr ns)]⟩ ∧ cells.length = (cutL ns none (some 12)).length) ⟨_, none, none, rfl, rfl⟩ (fun j d δ K' hd hI k => ?_) (fun δ hI => ?_)
  · obtain ⟨cells, x, y, rfl, hl⟩ := hI
    obtain ⟨e, he, rfl⟩ := en_at hd
    rw [List.getElem?_map] at he
    cases hc : (cutL ns (some 12) (some 63))[j]? with
    | none => rw [hc] at he; cases he
    | some c =>
      rw [hc] at he
      cases he
      have h12 : cells.length = 12 := by rw [hl]; exact l2 fun z => by rw [z] at hc; simp at hc
      simp only [dSet, dRet, dRetN, dIfS, dFor, dIt, dgName, dgNil, dgCons, dgTup, dgLst, dgTxt, dgSet, dVar, dC, dG, dOp, dUn, dCallP, dCons, dNil, dTst, dAnd, dOr, dNot, dAndV, dOrV, dNotV, dIf, dFz, dTup, dLst, dCall, dChain, dSl, dONo, dOSome, dMs, dMi, dAsg, dPar, dDrop, dLc, dLc2, dYes, dRng1, dRng2, dEnum, dZip, dLam, dNewD, dRaise, dNext, dBrk, dCnt, DS.put, DS.wipe, DS.rest, wipeL, restL, val, slD, vals, frz1, put1, out1, pures, dargs, dback, getM, setM, M.frz, start0, par, dEnds, isRes, itemsD, p2i, addP, subP, mulP, divP, modP, powP, DL.ltP, DL.leP, DL.gtP, DL.geP, eqP, inP, isNP, ixP, lenP, isiP, allP, anyP, intP, listP, tupleP, sortedSP, reprP, slP, revP, negP, findP, countP, joinP, appP, insP, tyD, lenD, dMl, lcountP, isBP, dLSet, dLRg, List.getElem?_cons_zero, List.getElem?_cons_succ, List.set_cons_zero, List.set_cons_succ, List.cons_append, List.nil_append, List.replicate_succ, List.replicate_zero, List.length_cons, List.length_nil, Option.some.injEq, exists_eq_left', exists_eq_left, Wv.pu.injEq, D.sc.injEq, V.bl.injEq, V.int.injEq, V.str.injEq, Nat.reduceSub, Nat.reduceAdd, List.cons.injEq, and_true, true_and, exists_and_left, Option.map_some, if_true, if_false, Bool.false_eq_true, exists_eq_right, ex2a, ex2b, ex2c, D.tup.injEq, D.lst.injEq, M.lst.injEq, eq_self, Nat.zero_add]
      have m1 := Int.emod_nonneg (j : Int) (show (12 : Int) ≠ 0 by decide)
      have m2 := Int.emod_lt_of_pos (j : Int) (show (0 : Int) < 12 by decide)
      refine ⟨by decide, ?_⟩
      obtain ⟨x, ex, hx⟩ := at_of (xs := cells.map fun c => DI' c) m1 (by simp [h12]; exact m2)
      obtain ⟨c0, _, rfl⟩ := List.mem_map.mp hx
      refine ⟨_, ex, ?_⟩
      simp only [dSet, dRet, dRetN, dIfS, dFor, dIt, dgName, dgNil, dgCons, dgTup, dgLst, dgTxt, dgSet, dVar, dC, dG, dOp, dUn, dCallP, dCons, dNil, dTst, dAnd, dOr, dNot, dAndV, dOrV, dNotV, dIf, dFz, dTup, dLst, dCall, dChain, dSl, dONo, dOSome, dMs, dMi, dAsg, dPar, dDrop, dLc, dLc2, dYes, dRng1, dRng2, dEnum, dZip, dLam, dNewD, dRaise, dNext, dBrk, dCnt, DS.put, DS.wipe, DS.rest, wipeL, restL, val, slD, vals, frz1, put1, out1, pures, dargs, dback, getM, setM, M.frz, start0, par, dEnds, isRes, itemsD, p2i, addP, subP, mulP, divP, modP, powP, DL.ltP, DL.leP, DL.gtP, DL.geP, eqP, inP, isNP, ixP, lenP, isiP, allP, anyP, intP, listP, tupleP, sortedSP, reprP, slP, revP, negP, findP, countP, joinP, appP, insP, tyD, lenD, dMl, lcountP, isBP, dLSet, dLRg, List.getElem?_cons_zero, List.getElem?_cons_succ, List.set_cons_zero, List.set_cons_succ, List.cons_append, List.nil_append, List.replicate_succ, List.replicate_zero, List.length_cons, List.length_nil, Option.some.injEq, exists_eq_left', exists_eq_left, Wv.pu.injEq, D.sc.injEq, V.bl.injEq, V.int.injEq, V.str.injEq, Nat.reduceSub, Nat.reduceAdd, List.cons.injEq, and_true, true_and, exists_and_left, Option.map_some, if_true, if_false, Bool.false_eq_true, exists_eq_right, ex2a, ex2b, ex2c, D.tup.injEq, D.lst.injEq, M.lst.injEq, eq_self, List.length_map]
      refine ⟨by decide, ?_⟩
      rw [ixn_of m1 (by rw [h12]; exact m2)]
      refine ⟨_, rfl, k _ ⟨cells.set ((j : Int) % 12).toNat (c0 + c), some (.pu (DI' (j : Int))), some (.pu (DI' c)), ?_, by simpa using hl⟩⟩
      rw [List.map_set]
  · obtain ⟨cells, x, y, rfl, hl⟩ := hI
    simp only [hN, dSet, dRet, dRetN, dIfS, dFor, dIt, dgName, dgNil, dgCons, dgTup, dgLst, dgTxt, dgSet, dVar, dC, dG, dOp, dUn, dCallP, dCons, dNil, dTst, dAnd, dOr, dNot, dAndV, dOrV, dNotV, dIf, dFz, dTup, dLst, dCall, dChain, dSl, dONo, dOSome, dMs, dMi, dAsg, dPar, dDrop, dLc, dLc2, dYes, dRng1, dRng2, dEnum, dZip, dLam, dNewD, dRaise, dNext, dBrk, dCnt, DS.put, DS.wipe, DS.rest, wipeL, restL, val, slD, vals, frz1, put1, out1, pures, dargs, dback, getM, setM, M.frz, start0, par, dEnds, isRes, itemsD, p2i, addP, subP, mulP, divP, modP, powP, DL.ltP, DL.leP, DL.gtP, DL.geP, eqP, inP, isNP, ixP, lenP, isiP, allP, anyP, intP, listP, tupleP, sortedSP, reprP, slP, revP, negP, findP, countP, joinP, appP, insP, tyD, lenD, dMl, lcountP, isBP, dLSet, dLRg, List.getElem?_cons_zero, List.getElem?_cons_succ, List.set_cons_zero, List.set_cons_succ, List.cons_append, List.nil_append, List.replicate_succ, List.replicate_zero, List.length_cons, List.length_nil, Option.some.injEq, exists_eq_left', exists_eq_left, Wv.pu.injEq, D.sc.injEq, V.bl.injEq, V.int.injEq, V.str.injEq, Nat.reduceSub, Nat.reduceAdd, List.cons.injEq, and_true, true_and, exists_and_left, Option.map_some, if_true, if_false, Bool.false_eq_true, exists_eq_right, ex2a, ex2b, ex2c, D.tup.injEq, D.lst.injEq, M.lst.injEq, eq_self]
    exact ⟨by decide, q _ ⟨cells, 0, 0, rfl, by rw [hl]; exact l1, by decide, by decide, by decide⟩⟩
theorem sum_const {α : Type} {f : α → Nat} {c : Nat} : ∀ xs : List α, (∀ x ∈ xs, f x = c) → (xs.map f).sum = xs.length * c
  | [], _ => by simp
  | x :: xs, h => by
    rw [List.map_cons, List.sum_cons, h x (List.mem_cons_self ..), sum_const xs fun y hy => h y (List.mem_cons_of_mem _ hy), List.length_cons, Nat.add_mul]
    omega
theorem for_a {ti : DTI} {gt : DTG} {tb : DTS} {D : DEnds} {δ : DS} (h : ∀ T, T = tb → dFor ti gt T D δ) : dFor ti gt tb D δ := h _ rfl
theorem isBit_in {c : Nat} (h : isBit (sign c) = true) : c ∈ ("01?" : Str).cps.toList := by
  simp only [isBit, Bool.or_eq_true, beq_iff_eq] at h
  have key : ∀ d : Nat, sign c = sign d → c = d := fun d e => by
    have := congrArg one? e
    rw [one?_sign, one?_sign] at this
    exact Option.some.inj this
  rcases h with h | h | h
  · rw [key 48 h]; decide
  · rw [key 49 h]; decide
  · rw [key 63 h]; decide
theorem bit_cases {c : Nat} (h : isBit (sign c) = true) : c = 48 ∨ c = 49 ∨ c = 63 := by
  have := isBit_in h
  have e : ("01?" : Str).cps.toList = [48, 49, 63] := rfl
  rw [e] at this
  simpa using this
theorem len2 {ds : List D} (h : ds.length = 2) : ∃ a b, ds = [a, b] := by
  match ds, h with
  | [a, b], _ => exact ⟨a, b, rfl⟩
theorem sq63 : (Str.ofString "?") = sign 63 := rfl
theorem fm_len {xs ys : List Str} : (xs.flatMap fun start => ys.map (start ++ ·)).length = xs.length * ys.length := by
  rw [List.length_flatMap]
  exact sum_const _ fun w _ => by simp
theorem settle_snoc (cs : List Nat) (c : Nat) : settle (cs ++ [c]) = (settle cs).flatMap fun start => (opts c).map (start ++ ·) := by
  unfold settle
  rw [List.foldl_append]
  rfl
theorem opts_len (c : Nat) : (opts c).length = if c = 63 then 2 else 1 := by
  unfold opts
  split <;> rfl
theorem settle_len (cs : List Nat) : (settle cs).length = 2 ^ cs.count 63 := by
  induction cs using snoc_ind with
  | h0 => rfl
  | h1 cs c ih =>
    rw [settle_snoc, fm_len, ih, opts_len, List.count_append]
    by_cases h : c = 63
    · simp [h, Nat.pow_succ]
    · simp [h]
theorem settle_mem {cs : List Nat} {x : Str} (h : x ∈ settle cs) : x.length = cs.length := by
  induction cs using snoc_ind generalizing x with
  | h0 => rw [List.mem_singleton.mp h]; rfl
  | h1 cs c ih =>
    rw [settle_snoc] at h
    obtain ⟨s, hs, h⟩ := List.mem_flatMap.mp h
    obtain ⟨o, ho, rfl⟩ := List.mem_map.mp h
    have : o.length = 1 := by
      unfold opts at ho
      split at ho
      · rcases List.mem_cons.mp ho with rfl | ho
        · rfl
        · rw [List.mem_singleton.mp ho]; rfl
      · rw [List.mem_singleton.mp ho]; rfl
    rw [len_app, ih hs, this]
    simp
theorem pow_le8 {n : Nat} (h : n ≤ 8) : 2 ^ n ≤ 256 := Nat.le_trans (Nat.pow_le_pow_right (by decide) h) (by decide)
theorem count_pre {p r : List Nat} {c : Nat} {z : Str} (h : z.cps.toList = p ++ c :: r) (hz : z.length ≤ 32) (h8 : qs z ≤ 8) : p.length ≤ 31 ∧ p.count 63 ≤ 8 ∧ (p ++ [c]).count 63 ≤ 8 := by
  have l := len_cps z
  have k : z.cps.toList.count 63 = qs z := rfl
  rw [h] at l k
  rw [List.length_append, List.length_cons] at l
  rw [List.count_append, List.count_cons] at k
  rw [List.count_append, List.count_singleton]
  omega
theorem r__law_settled (h : sp__law_settled K ws Q Y) : t__law_settled K (dEnds Q Y) (start0 N__law_settled ws) := by
  obtain ⟨ds, e, hl, ⟨z, rfl, hb, hz, h8⟩, q⟩ := h
  have := pures_len e; subst this
  simp only [List.map_cons, List.map_nil, List.headD_cons, str, DS'] at q ⊢
  unfold t__law_settled
  refine seq_o fun N hN => ?_
  simp only [N__law_settled, dSet, dRet, dRetN, dIfS, dFor, dIt, dgName, dgNil, dgCons, dgTup, dgLst, dgTxt, dgSet, dVar, dC, dG, dOp, dUn, dCallP, dCons, dNil, dTst, dAnd, dOr, dNot, dAndV, dOrV, dNotV, dIf, dFz, dTup, dLst, dCall, dChain, dSl, dONo, dOSome, dMs, dMi, dAsg, dPar, dDrop, dLc, dLc2, dYes, dRng1, dRng2, dEnum, dZip, dLam, dNewD, dRaise, dNext, dBrk, dCnt, DS.put, DS.wipe, DS.rest, wipeL, restL, val, slD, vals, frz1, put1, out1, pures, dargs, dback, getM, setM, M.frz, start0, par, dEnds, isRes, itemsD, p2i, addP, subP, mulP, divP, modP, powP, DL.ltP, DL.leP, DL.gtP, DL.geP, eqP, inP, isNP, ixP, lenP, isiP, allP, anyP, intP, listP, tupleP, sortedSP, reprP, slP, revP, negP, findP, countP, joinP, appP, insP, tyD, lenD, dMl, lcountP, isBP, dLSet, dLRg, List.getElem?_cons_zero, List.getElem?_cons_succ, List.set_cons_zero, List.set_cons_succ, List.cons_append, List.nil_append, List.replicate_succ, List.replicate_zero, List.length_cons, List.length_nil, Option.some.injEq, exists_eq_left', exists_eq_left, Wv.pu.injEq, D.sc.injEq, V.bl.injEq, V.int.injEq, V.str.injEq, Nat.reduceSub, Nat.reduceAdd, List.cons.injEq, and_true, true_and, exists_and_left, Option.map_some, if_true, if_false, Bool.false_eq_true, exists_eq_right, ex2a, ex2b, ex2c, D.tup.injEq, D.lst.injEq, M.lst.injEq, eq_self]
  refine ⟨by decide, ?_⟩
  show N _; rw [hN]; clear hN N
  refine seq_o fun N hN => ?_
  refine for_a fun T hT => ?_
  walk_at "d-go"
  refine for_pre (fun p δ => ∃ x y v, δ = ⟨[some (.pu (.sc (.str z))), some (strsL (settle p)), x, y, v, none], [.pu (.sc (.str z))]⟩) ⟨none, none, none, rfl⟩ (fun p c r δ K2 e2 hI k => ?_) (fun δ hI => ?_)
  · obtain ⟨x, y, v, rfl⟩ := hI
    obtain ⟨p1, p2, p3⟩ := count_pre e2 hz h8
    have hbc := bit_cases (hb c (by rw [e2]; simp))
    have s1 := settle_len p
    have s2 := settle_len (p ++ [c])
    have s3 := pow_le8 p3
    simp only [dSet, dRet, dRetN, dIfS, dFor, dIt, dgName, dgNil, dgCons, dgTup, dgLst, dgTxt, dgSet, dVar, dC, dG, dOp, dUn, dCallP, dCons, dNil, dTst, dAnd, dOr, dNot, dAndV, dOrV, dNotV, dIf, dFz, dTup, dLst, dCall, dChain, dSl, dONo, dOSome, dMs, dMi, dAsg, dPar, dDrop, dLc, dLc2, dYes, dRng1, dRng2, dEnum, dZip, dLam, dNewD, dRaise, dNext, dBrk, dCnt, DS.put, DS.wipe, DS.rest, wipeL, restL, val, slD, vals, frz1, put1, out1, pures, dargs, dback, getM, setM, M.frz, start0, par, dEnds, isRes, itemsD, p2i, addP, subP, mulP, divP, modP, powP, DL.ltP, DL.leP, DL.gtP, DL.geP, eqP, inP, isNP, ixP, lenP, isiP, allP, anyP, intP, listP, tupleP, sortedSP, reprP, slP, revP, negP, findP, countP, joinP, appP, insP, tyD, lenD, dMl, lcountP, isBP, dLSet, dLRg, List.getElem?_cons_zero, List.getElem?_cons_succ, List.set_cons_zero, List.set_cons_succ, List.cons_append, List.nil_append, List.replicate_succ, List.replicate_zero, List.length_cons, List.length_nil, Option.some.injEq, exists_eq_left', exists_eq_left, Wv.pu.injEq, D.sc.injEq, V.bl.injEq, V.int.injEq, V.str.injEq, Nat.reduceSub, Nat.reduceAdd, List.cons.injEq, and_true, true_and, exists_and_left, Option.map_some, if_true, if_false, Bool.false_eq_true, exists_eq_right, ex2a, ex2b, ex2c, D.tup.injEq, D.lst.injEq, M.lst.injEq, eq_self, strsL, hT]
    refine seq_o fun N hN => ?_
    walk_at "d-go"
    refine ⟨by decide, ?_⟩
    show N _; rw [hN]; clear hN N
    refine seq_o fun N hN => ?_
    refine for_a fun T hT => ?_
    walk_at "d-go"
    refine for_pre (fun pp δ => ∃ v, δ = ⟨[some (.pu (.sc (.str z))), some (.pu (.lst ((settle p).map fun z => DS' z))), some (.pu (.sc (.str (sign c)))), some (strsL (pp.flatMap fun start => (opts c).map (start ++ ·))), v, none], [.pu (.sc (.str z))]⟩) ⟨v, rfl⟩ (fun pp s rr δ K3 e3 hI3 k3 => ?_) (fun δ hI3 => ?_)
    · obtain ⟨v, rfl⟩ := hI3
      have l1 := settle_mem (show s ∈ settle p by rw [e3]; simp)
      have tot : (pp.flatMap fun start => (opts c).map (start ++ ·)).length + (opts c).length ≤ 256 := by
        rw [settle_snoc, e3, List.flatMap_append, List.flatMap_cons] at s2
        simp only [List.length_append, List.length_map] at s2
        omega
      simp only [dSet, dRet, dRetN, dIfS, dFor, dIt, dgName, dgNil, dgCons, dgTup, dgLst, dgTxt, dgSet, dVar, dC, dG, dOp, dUn, dCallP, dCons, dNil, dTst, dAnd, dOr, dNot, dAndV, dOrV, dNotV, dIf, dFz, dTup, dLst, dCall, dChain, dSl, dONo, dOSome, dMs, dMi, dAsg, dPar, dDrop, dLc, dLc2, dYes, dRng1, dRng2, dEnum, dZip, dLam, dNewD, dRaise, dNext, dBrk, dCnt, DS.put, DS.wipe, DS.rest, wipeL, restL, val, slD, vals, frz1, put1, out1, pures, dargs, dback, getM, setM, M.frz, start0, par, dEnds, isRes, itemsD, p2i, addP, subP, mulP, divP, modP, powP, DL.ltP, DL.leP, DL.gtP, DL.geP, eqP, inP, isNP, ixP, lenP, isiP, allP, anyP, intP, listP, tupleP, sortedSP, reprP, slP, revP, negP, findP, countP, joinP, appP, insP, tyD, lenD, dMl, lcountP, isBP, dLSet, dLRg, List.getElem?_cons_zero, List.getElem?_cons_succ, List.set_cons_zero, List.set_cons_succ, List.cons_append, List.nil_append, List.replicate_succ, List.replicate_zero, List.length_cons, List.length_nil, Option.some.injEq, exists_eq_left', exists_eq_left, Wv.pu.injEq, D.sc.injEq, V.bl.injEq, V.int.injEq, V.str.injEq, Nat.reduceSub, Nat.reduceAdd, List.cons.injEq, and_true, true_and, exists_and_left, Option.map_some, if_true, if_false, Bool.false_eq_true, exists_eq_right, ex2a, ex2b, ex2c, D.tup.injEq, D.lst.injEq, M.lst.injEq, eq_self, strsL, hT]
      have eo : (["0", "1"] : List Str).filter (fun o => o == sign c || (sign 63) == sign c) = opts c := by
        rcases hbc with rfl | rfl | rfl <;> rfl
      rw [show ((Str.ofString "01").cps.toList.map fun c => D.sc (.str (sign c))) = (["0", "1"] : List Str).map fun o => DS' o from rfl]
      refine comp_fx (fun o => o == sign c || (sign 63) == sign c) (fun o => DS' (s ++ o)) (["0", "1"] : List Str) [] _ (fun o ho K4 k4 => ?_) (by decide) ?_
      · have l2 : o.length = 1 := by
          rcases List.mem_cons.mp ho with rfl | ho
          · rfl
          · rw [List.mem_singleton.mp ho]; rfl
        simp only [dSet, dRet, dRetN, dIfS, dFor, dIt, dgName, dgNil, dgCons, dgTup, dgLst, dgTxt, dgSet, dVar, dC, dG, dOp, dUn, dCallP, dCons, dNil, dTst, dAnd, dOr, dNot, dAndV, dOrV, dNotV, dIf, dFz, dTup, dLst, dCall, dChain, dSl, dONo, dOSome, dMs, dMi, dAsg, dPar, dDrop, dLc, dLc2, dYes, dRng1, dRng2, dEnum, dZip, dLam, dNewD, dRaise, dNext, dBrk, dCnt, DS.put, DS.wipe, DS.rest, wipeL, restL, val, slD, vals, frz1, put1, out1, pures, dargs, dback, getM, setM, M.frz, start0, par, dEnds, isRes, itemsD, p2i, addP, subP, mulP, divP, modP, powP, DL.ltP, DL.leP, DL.gtP, DL.geP, eqP, inP, isNP, ixP, lenP, isiP, allP, anyP, intP, listP, tupleP, sortedSP, reprP, slP, revP, negP, findP, countP, joinP, appP, insP, tyD, lenD, dMl, lcountP, isBP, dLSet, dLRg, List.getElem?_cons_zero, List.getElem?_cons_succ, List.set_cons_zero, List.set_cons_succ, List.cons_append, List.nil_append, List.replicate_succ, List.replicate_zero, List.length_cons, List.length_nil, Option.some.injEq, exists_eq_left', exists_eq_left, Wv.pu.injEq, D.sc.injEq, V.bl.injEq, V.int.injEq, V.str.injEq, Nat.reduceSub, Nat.reduceAdd, List.cons.injEq, and_true, true_and, exists_and_left, Option.map_some, if_true, if_false, Bool.false_eq_true, exists_eq_right, ex2a, ex2b, ex2c, D.tup.injEq, D.lst.injEq, M.lst.injEq, eq_self, flats, flatV, inV]
        refine ⟨by decide, ?_⟩
        have e : (false ^^ [V.str o, V.str (Str.ofString "?")].any fun y => eqV y (V.str (sign c))) = (o == sign c || (sign 63) == sign c) := by
          simp only [eqV, List.any_cons, List.any_nil, Bool.false_xor, Bool.or_false]
          rfl
        rw [e]
        refine k4 _ (by simp only [dSet, dRet, dRetN, dIfS, dFor, dIt, dgName, dgNil, dgCons, dgTup, dgLst, dgTxt, dgSet, dVar, dC, dG, dOp, dUn, dCallP, dCons, dNil, dTst, dAnd, dOr, dNot, dAndV, dOrV, dNotV, dIf, dFz, dTup, dLst, dCall, dChain, dSl, dONo, dOSome, dMs, dMi, dAsg, dPar, dDrop, dLc, dLc2, dYes, dRng1, dRng2, dEnum, dZip, dLam, dNewD, dRaise, dNext, dBrk, dCnt, DS.put, DS.wipe, DS.rest, wipeL, restL, val, slD, vals, frz1, put1, out1, pures, dargs, dback, getM, setM, M.frz, start0, par, dEnds, isRes, itemsD, p2i, addP, subP, mulP, divP, modP, powP, DL.ltP, DL.leP, DL.gtP, DL.geP, eqP, inP, isNP, ixP, lenP, isiP, allP, anyP, intP, listP, tupleP, sortedSP, reprP, slP, revP, negP, findP, countP, joinP, appP, insP, tyD, lenD, dMl, lcountP, isBP, dLSet, dLRg, List.getElem?_cons_zero, List.getElem?_cons_succ, List.set_cons_zero, List.set_cons_succ, List.cons_append, List.nil_append, List.replicate_succ, List.replicate_zero, List.length_cons, List.length_nil, Option.some.injEq, exists_eq_left', exists_eq_left, Wv.pu.injEq, D.sc.injEq, V.bl.injEq, V.int.injEq, V.str.injEq, Nat.reduceSub, Nat.reduceAdd, List.cons.injEq, and_true, true_and, exists_and_left, Option.map_some, if_true, if_false, Bool.false_eq_true, exists_eq_right, ex2a, ex2b, ex2c, D.tup.injEq, D.lst.injEq, M.lst.injEq, eq_self]) fun hp K5 k5 => ?_
        simp only [dSet, dRet, dRetN, dIfS, dFor, dIt, dgName, dgNil, dgCons, dgTup, dgLst, dgTxt, dgSet, dVar, dC, dG, dOp, dUn, dCallP, dCons, dNil, dTst, dAnd, dOr, dNot, dAndV, dOrV, dNotV, dIf, dFz, dTup, dLst, dCall, dChain, dSl, dONo, dOSome, dMs, dMi, dAsg, dPar, dDrop, dLc, dLc2, dYes, dRng1, dRng2, dEnum, dZip, dLam, dNewD, dRaise, dNext, dBrk, dCnt, DS.put, DS.wipe, DS.rest, wipeL, restL, val, slD, vals, frz1, put1, out1, pures, dargs, dback, getM, setM, M.frz, start0, par, dEnds, isRes, itemsD, p2i, addP, subP, mulP, divP, modP, powP, DL.ltP, DL.leP, DL.gtP, DL.geP, eqP, inP, isNP, ixP, lenP, isiP, allP, anyP, intP, listP, tupleP, sortedSP, reprP, slP, revP, negP, findP, countP, joinP, appP, insP, tyD, lenD, dMl, lcountP, isBP, dLSet, dLRg, List.getElem?_cons_zero, List.getElem?_cons_succ, List.set_cons_zero, List.set_cons_succ, List.cons_append, List.nil_append, List.replicate_succ, List.replicate_zero, List.length_cons, List.length_nil, Option.some.injEq, exists_eq_left', exists_eq_left, Wv.pu.injEq, D.sc.injEq, V.bl.injEq, V.int.injEq, V.str.injEq, Nat.reduceSub, Nat.reduceAdd, List.cons.injEq, and_true, true_and, exists_and_left, Option.map_some, if_true, if_false, Bool.false_eq_true, exists_eq_right, ex2a, ex2b, ex2c, D.tup.injEq, D.lst.injEq, M.lst.injEq, eq_self]
        exact ⟨small_sl (by omega), k5 _ (by simp only [dSet, dRet, dRetN, dIfS, dFor, dIt, dgName, dgNil, dgCons, dgTup, dgLst, dgTxt, dgSet, dVar, dC, dG, dOp, dUn, dCallP, dCons, dNil, dTst, dAnd, dOr, dNot, dAndV, dOrV, dNotV, dIf, dFz, dTup, dLst, dCall, dChain, dSl, dONo, dOSome, dMs, dMi, dAsg, dPar, dDrop, dLc, dLc2, dYes, dRng1, dRng2, dEnum, dZip, dLam, dNewD, dRaise, dNext, dBrk, dCnt, DS.put, DS.wipe, DS.rest, wipeL, restL, val, slD, vals, frz1, put1, out1, pures, dargs, dback, getM, setM, M.frz, start0, par, dEnds, isRes, itemsD, p2i, addP, subP, mulP, divP, modP, powP, DL.ltP, DL.leP, DL.gtP, DL.geP, eqP, inP, isNP, ixP, lenP, isiP, allP, anyP, intP, listP, tupleP, sortedSP, reprP, slP, revP, negP, findP, countP, joinP, appP, insP, tyD, lenD, dMl, lcountP, isBP, dLSet, dLRg, List.getElem?_cons_zero, List.getElem?_cons_succ, List.set_cons_zero, List.set_cons_succ, List.cons_append, List.nil_append, List.replicate_succ, List.replicate_zero, List.length_cons, List.length_nil, Option.some.injEq, exists_eq_left', exists_eq_left, Wv.pu.injEq, D.sc.injEq, V.bl.injEq, V.int.injEq, V.str.injEq, Nat.reduceSub, Nat.reduceAdd, List.cons.injEq, and_true, true_and, exists_and_left, Option.map_some, if_true, if_false, Bool.false_eq_true, exists_eq_right, ex2a, ex2b, ex2c, D.tup.injEq, D.lst.injEq, M.lst.injEq, eq_self])⟩
      · rw [eo, List.nil_append]
        simp only [dSet, dRet, dRetN, dIfS, dFor, dIt, dgName, dgNil, dgCons, dgTup, dgLst, dgTxt, dgSet, dVar, dC, dG, dOp, dUn, dCallP, dCons, dNil, dTst, dAnd, dOr, dNot, dAndV, dOrV, dNotV, dIf, dFz, dTup, dLst, dCall, dChain, dSl, dONo, dOSome, dMs, dMi, dAsg, dPar, dDrop, dLc, dLc2, dYes, dRng1, dRng2, dEnum, dZip, dLam, dNewD, dRaise, dNext, dBrk, dCnt, DS.put, DS.wipe, DS.rest, wipeL, restL, val, slD, vals, frz1, put1, out1, pures, dargs, dback, getM, setM, M.frz, start0, par, dEnds, isRes, itemsD, p2i, addP, subP, mulP, divP, modP, powP, DL.ltP, DL.leP, DL.gtP, DL.geP, eqP, inP, isNP, ixP, lenP, isiP, allP, anyP, intP, listP, tupleP, sortedSP, reprP, slP, revP, negP, findP, countP, joinP, appP, insP, tyD, lenD, dMl, lcountP, isBP, dLSet, dLRg, List.getElem?_cons_zero, List.getElem?_cons_succ, List.set_cons_zero, List.set_cons_succ, List.cons_append, List.nil_append, List.replicate_succ, List.replicate_zero, List.length_cons, List.length_nil, Option.some.injEq, exists_eq_left', exists_eq_left, Wv.pu.injEq, D.sc.injEq, V.bl.injEq, V.int.injEq, V.str.injEq, Nat.reduceSub, Nat.reduceAdd, List.cons.injEq, and_true, true_and, exists_and_left, Option.map_some, if_true, if_false, Bool.false_eq_true, exists_eq_right, ex2a, ex2b, ex2c, D.tup.injEq, D.lst.injEq, M.lst.injEq, eq_self, List.length_map]
        refine ⟨small_sl (by omega), k3 _ ⟨some (.pu (.sc (.str s))), ?_⟩⟩
        rw [List.flatMap_append]
        simp only [strsL, List.map_append, List.map_map, List.flatMap_cons, List.flatMap_nil, List.append_nil, Function.comp_def]
    · obtain ⟨v, rfl⟩ := hI3
      show N _; rw [hN]; clear hN N
      simp only [dSet, dRet, dRetN, dIfS, dFor, dIt, dgName, dgNil, dgCons, dgTup, dgLst, dgTxt, dgSet, dVar, dC, dG, dOp, dUn, dCallP, dCons, dNil, dTst, dAnd, dOr, dNot, dAndV, dOrV, dNotV, dIf, dFz, dTup, dLst, dCall, dChain, dSl, dONo, dOSome, dMs, dMi, dAsg, dPar, dDrop, dLc, dLc2, dYes, dRng1, dRng2, dEnum, dZip, dLam, dNewD, dRaise, dNext, dBrk, dCnt, DS.put, DS.wipe, DS.rest, wipeL, restL, val, slD, vals, frz1, put1, out1, pures, dargs, dback, getM, setM, M.frz, start0, par, dEnds, isRes, itemsD, p2i, addP, subP, mulP, divP, modP, powP, DL.ltP, DL.leP, DL.gtP, DL.geP, eqP, inP, isNP, ixP, lenP, isiP, allP, anyP, intP, listP, tupleP, sortedSP, reprP, slP, revP, negP, findP, countP, joinP, appP, insP, tyD, lenD, dMl, lcountP, isBP, dLSet, dLRg, List.getElem?_cons_zero, List.getElem?_cons_succ, List.set_cons_zero, List.set_cons_succ, List.cons_append, List.nil_append, List.replicate_succ, List.replicate_zero, List.length_cons, List.length_nil, Option.some.injEq, exists_eq_left', exists_eq_left, Wv.pu.injEq, D.sc.injEq, V.bl.injEq, V.int.injEq, V.str.injEq, Nat.reduceSub, Nat.reduceAdd, List.cons.injEq, and_true, true_and, exists_and_left, Option.map_some, if_true, if_false, Bool.false_eq_true, exists_eq_right, ex2a, ex2b, ex2c, D.tup.injEq, D.lst.injEq, M.lst.injEq, eq_self, strsL]
      refine ⟨_, rfl, k _ ⟨some (.pu (.sc (.str (sign c)))), none, v, ?_⟩⟩
      rw [settle_snoc]
      rfl
  · obtain ⟨x, y, v, rfl⟩ := hI
    show N _; rw [hN]; clear hN N
    simp only [dSet, dRet, dRetN, dIfS, dFor, dIt, dgName, dgNil, dgCons, dgTup, dgLst, dgTxt, dgSet, dVar, dC, dG, dOp, dUn, dCallP, dCons, dNil, dTst, dAnd, dOr, dNot, dAndV, dOrV, dNotV, dIf, dFz, dTup, dLst, dCall, dChain, dSl, dONo, dOSome, dMs, dMi, dAsg, dPar, dDrop, dLc, dLc2, dYes, dRng1, dRng2, dEnum, dZip, dLam, dNewD, dRaise, dNext, dBrk, dCnt, DS.put, DS.wipe, DS.rest, wipeL, restL, val, slD, vals, frz1, put1, out1, pures, dargs, dback, getM, setM, M.frz, start0, par, dEnds, isRes, itemsD, p2i, addP, subP, mulP, divP, modP, powP, DL.ltP, DL.leP, DL.gtP, DL.geP, eqP, inP, isNP, ixP, lenP, isiP, allP, anyP, intP, listP, tupleP, sortedSP, reprP, slP, revP, negP, findP, countP, joinP, appP, insP, tyD, lenD, dMl, lcountP, isBP, dLSet, dLRg, List.getElem?_cons_zero, List.getElem?_cons_succ, List.set_cons_zero, List.set_cons_succ, List.cons_append, List.nil_append, List.replicate_succ, List.replicate_zero, List.length_cons, List.length_nil, Option.some.injEq, exists_eq_left', exists_eq_left, Wv.pu.injEq, D.sc.injEq, V.bl.injEq, V.int.injEq, V.str.injEq, Nat.reduceSub, Nat.reduceAdd, List.cons.injEq, and_true, true_and, exists_and_left, Option.map_some, if_true, if_false, Bool.false_eq_true, exists_eq_right, ex2a, ex2b, ex2c, D.tup.injEq, D.lst.injEq, M.lst.injEq, eq_self, strsL]
    exact q.2
theorem at_get {z : Str} {k : Nat} (h : k < z.length) : z.cps.toList[k]? = some (at_ z k) := by
  have hk : k < z.cps.toList.length := by rw [len_cps]; exact h
  unfold at_
  rw [List.getD_eq_getElem?_getD, List.getElem?_eq_getElem hk]
  rfl
theorem same_mem {zs : List Str} (h : sameLen zs = true) {w : Str} (hw : w ∈ zs) : w.length = (zs.headD "").length := by
  have := List.all_eq_true.mp h w hw
  simpa using this
theorem lstrs_map (zs : List Str) : lstrs (.lst (zs.map fun z => DS' z)) = zs := by
  simp [lstrs, Function.comp_def, str]
theorem atI_at {z : Str} {j : Nat} (h : j < z.length) : L2.atI z.cps.toList (0 + (j : Int)) = some (at_ z j) := by
  have hj : j < z.cps.toList.length := by rw [len_cps]; exact h
  rw [Int.zero_add, atI_nat hj]
  have := at_get h
  rw [List.getElem?_eq_getElem hj] at this
  exact this
theorem len_sign (c : Nat) : (sign c).length = 1 := rfl
theorem count_col (zs : List Str) (z : Str) (k : Nat) : ((zs.map fun z => sign (at_ z k)).count (sign (at_ z k)) = zs.length) ↔ (zs.all fun y => at_ y k == at_ z k) = true := by
  have := List.count_eq_length (a := sign (at_ z k)) (l := zs.map fun z => sign (at_ z k))
  rw [List.length_map] at this
  rw [this, List.all_eq_true]
  constructor
  · intro h y hy
    have := h (sign (at_ y k)) (List.mem_map.mpr ⟨y, hy, rfl⟩)
    rw [sign_inj] at this
    simp [this]
  · intro h b hb
    obtain ⟨y, hy, rfl⟩ := List.mem_map.mp hb
    have := h y hy
    rw [sign_inj]
    simpa using (beq_iff_eq.mp this).symm
theorem r__law_joined (h : sp__law_joined K ws Q Y) : t__law_joined K (dEnds Q Y) (start0 N__law_joined ws) := by
  obtain ⟨ds, e, hl, ⟨zs, rfl, hne, h1000, hs, h32⟩, q⟩ := h
  have := pures_len e; subst this
  simp only [List.map_cons, List.map_nil, List.headD_cons, lstrs_map] at q ⊢
  obtain ⟨z, r, rfl⟩ : ∃ z r, zs = z :: r := by
    cases zs with
    | nil => exact absurd rfl hne
    | cons z r => exact ⟨z, r, rfl⟩
  have h32 : z.length ≤ 32 := h32
  have ej : joinAll (z :: r) = strOf ((List.range z.length).map (colJ (z :: r))) := rfl
  generalize hzs : z :: r = zs at *
  have e0 : L2.atI (zs.map fun z => DS' z) 0 = some (DS' z) := by rw [← hzs]; exact at0 (DS' z) (r.map fun z => DS' z)
  have hd0 : zs.headD "" = z := by rw [← hzs]; rfl
  unfold t__law_joined
  refine seq_o fun N hN => ?_
  simp only [N__law_joined, dSet, dRet, dRetN, dIfS, dFor, dIt, dgName, dgNil, dgCons, dgTup, dgLst, dgTxt, dgSet, dVar, dC, dG, dOp, dUn, dCallP, dCons, dNil, dTst, dAnd, dOr, dNot, dAndV, dOrV, dNotV, dIf, dFz, dTup, dLst, dCall, dChain, dSl, dONo, dOSome, dMs, dMi, dAsg, dPar, dDrop, dLc, dLc2, dYes, dRng1, dRng2, dEnum, dZip, dLam, dNewD, dRaise, dNext, dBrk, dCnt, DS.put, DS.wipe, DS.rest, wipeL, restL, val, slD, vals, frz1, put1, out1, pures, dargs, dback, getM, setM, M.frz, start0, par, dEnds, isRes, itemsD, p2i, addP, subP, mulP, divP, modP, powP, DL.ltP, DL.leP, DL.gtP, DL.geP, eqP, inP, isNP, ixP, lenP, isiP, allP, anyP, intP, listP, tupleP, sortedSP, reprP, slP, revP, negP, findP, countP, joinP, appP, insP, tyD, lenD, dMl, lcountP, isBP, dLSet, dLRg, List.getElem?_cons_zero, List.getElem?_cons_succ, List.set_cons_zero, List.set_cons_succ, List.cons_append, List.nil_append, List.replicate_succ, List.replicate_zero, List.length_cons, List.length_nil, Option.some.injEq, exists_eq_left', exists_eq_left, Wv.pu.injEq, D.sc.injEq, V.bl.injEq, V.int.injEq, V.str.injEq, Nat.reduceSub, Nat.reduceAdd, List.cons.injEq, and_true, true_and, exists_and_left, Option.map_some, if_true, if_false, Bool.false_eq_true, exists_eq_right, ex2a, ex2b, ex2c, D.tup.injEq, D.lst.injEq, M.lst.injEq, eq_self]
  show N _; rw [hN]; clear hN N
  refine seq_o fun N hN => ?_
  refine for_a fun T hT => ?_
  walk_at "d-go"
  refine ⟨_, e0, ?_⟩
  have hz : z.length ≤ sizeLine := small_sl (by omega)
  simp only [dSet, dRet, dRetN, dIfS, dFor, dIt, dgName, dgNil, dgCons, dgTup, dgLst, dgTxt, dgSet, dVar, dC, dG, dOp, dUn, dCallP, dCons, dNil, dTst, dAnd, dOr, dNot, dAndV, dOrV, dNotV, dIf, dFz, dTup, dLst, dCall, dChain, dSl, dONo, dOSome, dMs, dMi, dAsg, dPar, dDrop, dLc, dLc2, dYes, dRng1, dRng2, dEnum, dZip, dLam, dNewD, dRaise, dNext, dBrk, dCnt, DS.put, DS.wipe, DS.rest, wipeL, restL, val, slD, vals, frz1, put1, out1, pures, dargs, dback, getM, setM, M.frz, start0, par, dEnds, isRes, itemsD, p2i, addP, subP, mulP, divP, modP, powP, DL.ltP, DL.leP, DL.gtP, DL.geP, eqP, inP, isNP, ixP, lenP, isiP, allP, anyP, intP, listP, tupleP, sortedSP, reprP, slP, revP, negP, findP, countP, joinP, appP, insP, tyD, lenD, dMl, lcountP, isBP, dLSet, dLRg, List.getElem?_cons_zero, List.getElem?_cons_succ, List.set_cons_zero, List.set_cons_succ, List.cons_append, List.nil_append, List.replicate_succ, List.replicate_zero, List.length_cons, List.length_nil, Option.some.injEq, exists_eq_left', exists_eq_left, Wv.pu.injEq, D.sc.injEq, V.bl.injEq, V.int.injEq, V.str.injEq, Nat.reduceSub, Nat.reduceAdd, List.cons.injEq, and_true, true_and, exists_and_left, Option.map_some, if_true, if_false, Bool.false_eq_true, exists_eq_right, ex2a, ex2b, ex2c, D.tup.injEq, D.lst.injEq, M.lst.injEq, eq_self, hz, Int.toNat_natCast]
  refine ⟨by omega, by omega, ?_⟩
  refine for_rng 0 z.length (fun j δ => ∃ x y, δ = ⟨[some (.pu (.lst (zs.map fun z => DS' z))), some (.pu (DS' (strOf ((List.range j).map (colJ zs))))), x, y, none], [.pu (.lst (zs.map fun z => DS' z))]⟩) ⟨none, none, rfl⟩ (fun j δ K2 hj hI k => ?_) (fun δ hI => ?_)
  · obtain ⟨x, y, rfl⟩ := hI
    simp only [dSet, dRet, dRetN, dIfS, dFor, dIt, dgName, dgNil, dgCons, dgTup, dgLst, dgTxt, dgSet, dVar, dC, dG, dOp, dUn, dCallP, dCons, dNil, dTst, dAnd, dOr, dNot, dAndV, dOrV, dNotV, dIf, dFz, dTup, dLst, dCall, dChain, dSl, dONo, dOSome, dMs, dMi, dAsg, dPar, dDrop, dLc, dLc2, dYes, dRng1, dRng2, dEnum, dZip, dLam, dNewD, dRaise, dNext, dBrk, dCnt, DS.put, DS.wipe, DS.rest, wipeL, restL, val, slD, vals, frz1, put1, out1, pures, dargs, dback, getM, setM, M.frz, start0, par, dEnds, isRes, itemsD, p2i, addP, subP, mulP, divP, modP, powP, DL.ltP, DL.leP, DL.gtP, DL.geP, eqP, inP, isNP, ixP, lenP, isiP, allP, anyP, intP, listP, tupleP, sortedSP, reprP, slP, revP, negP, findP, countP, joinP, appP, insP, tyD, lenD, dMl, lcountP, isBP, dLSet, dLRg, List.getElem?_cons_zero, List.getElem?_cons_succ, List.set_cons_zero, List.set_cons_succ, List.cons_append, List.nil_append, List.replicate_succ, List.replicate_zero, List.length_cons, List.length_nil, Option.some.injEq, exists_eq_left', exists_eq_left, Wv.pu.injEq, D.sc.injEq, V.bl.injEq, V.int.injEq, V.str.injEq, Nat.reduceSub, Nat.reduceAdd, List.cons.injEq, and_true, true_and, exists_and_left, Option.map_some, if_true, if_false, Bool.false_eq_true, exists_eq_right, ex2a, ex2b, ex2c, D.tup.injEq, D.lst.injEq, M.lst.injEq, eq_self, hT]
    refine seq_o fun N hN => ?_
    walk_at "d-go"
    refine comp_x (fun z => DS' (sign (at_ z j))) _ [] _ (fun y hy K k => ?_) (by rw [List.length_nil]; exact small_sl (by omega)) ?_
    · have hy2 := same_mem hs hy
      rw [hd0] at hy2
      simp only [dSet, dRet, dRetN, dIfS, dFor, dIt, dgName, dgNil, dgCons, dgTup, dgLst, dgTxt, dgSet, dVar, dC, dG, dOp, dUn, dCallP, dCons, dNil, dTst, dAnd, dOr, dNot, dAndV, dOrV, dNotV, dIf, dFz, dTup, dLst, dCall, dChain, dSl, dONo, dOSome, dMs, dMi, dAsg, dPar, dDrop, dLc, dLc2, dYes, dRng1, dRng2, dEnum, dZip, dLam, dNewD, dRaise, dNext, dBrk, dCnt, DS.put, DS.wipe, DS.rest, wipeL, restL, val, slD, vals, frz1, put1, out1, pures, dargs, dback, getM, setM, M.frz, start0, par, dEnds, isRes, itemsD, p2i, addP, subP, mulP, divP, modP, powP, DL.ltP, DL.leP, DL.gtP, DL.geP, eqP, inP, isNP, ixP, lenP, isiP, allP, anyP, intP, listP, tupleP, sortedSP, reprP, slP, revP, negP, findP, countP, joinP, appP, insP, tyD, lenD, dMl, lcountP, isBP, dLSet, dLRg, List.getElem?_cons_zero, List.getElem?_cons_succ, List.set_cons_zero, List.set_cons_succ, List.cons_append, List.nil_append, List.replicate_succ, List.replicate_zero, List.length_cons, List.length_nil, Option.some.injEq, exists_eq_left', exists_eq_left, Wv.pu.injEq, D.sc.injEq, V.bl.injEq, V.int.injEq, V.str.injEq, Nat.reduceSub, Nat.reduceAdd, List.cons.injEq, and_true, true_and, exists_and_left, Option.map_some, if_true, if_false, Bool.false_eq_true, exists_eq_right, ex2a, ex2b, ex2c, D.tup.injEq, D.lst.injEq, M.lst.injEq, eq_self]
      exact ⟨small_sl (by omega), _, atI_at (by omega), k _ (by simp only [dSet, dRet, dRetN, dIfS, dFor, dIt, dgName, dgNil, dgCons, dgTup, dgLst, dgTxt, dgSet, dVar, dC, dG, dOp, dUn, dCallP, dCons, dNil, dTst, dAnd, dOr, dNot, dAndV, dOrV, dNotV, dIf, dFz, dTup, dLst, dCall, dChain, dSl, dONo, dOSome, dMs, dMi, dAsg, dPar, dDrop, dLc, dLc2, dYes, dRng1, dRng2, dEnum, dZip, dLam, dNewD, dRaise, dNext, dBrk, dCnt, DS.put, DS.wipe, DS.rest, wipeL, restL, val, slD, vals, frz1, put1, out1, pures, dargs, dback, getM, setM, M.frz, start0, par, dEnds, isRes, itemsD, p2i, addP, subP, mulP, divP, modP, powP, DL.ltP, DL.leP, DL.gtP, DL.geP, eqP, inP, isNP, ixP, lenP, isiP, allP, anyP, intP, listP, tupleP, sortedSP, reprP, slP, revP, negP, findP, countP, joinP, appP, insP, tyD, lenD, dMl, lcountP, isBP, dLSet, dLRg, List.getElem?_cons_zero, List.getElem?_cons_succ, List.set_cons_zero, List.set_cons_succ, List.cons_append, List.nil_append, List.replicate_succ, List.replicate_zero, List.length_cons, List.length_nil, Option.some.injEq, exists_eq_left', exists_eq_left, Wv.pu.injEq, D.sc.injEq, V.bl.injEq, V.int.injEq, V.str.injEq, Nat.reduceSub, Nat.reduceAdd, List.cons.injEq, and_true, true_and, exists_and_left, Option.map_some, if_true, if_false, Bool.false_eq_true, exists_eq_right, ex2a, ex2b, ex2c, D.tup.injEq, D.lst.injEq, M.lst.injEq, eq_self])⟩
    rw [List.nil_append]
    simp only [dSet, dRet, dRetN, dIfS, dFor, dIt, dgName, dgNil, dgCons, dgTup, dgLst, dgTxt, dgSet, dVar, dC, dG, dOp, dUn, dCallP, dCons, dNil, dTst, dAnd, dOr, dNot, dAndV, dOrV, dNotV, dIf, dFz, dTup, dLst, dCall, dChain, dSl, dONo, dOSome, dMs, dMi, dAsg, dPar, dDrop, dLc, dLc2, dYes, dRng1, dRng2, dEnum, dZip, dLam, dNewD, dRaise, dNext, dBrk, dCnt, DS.put, DS.wipe, DS.rest, wipeL, restL, val, slD, vals, frz1, put1, out1, pures, dargs, dback, getM, setM, M.frz, start0, par, dEnds, isRes, itemsD, p2i, addP, subP, mulP, divP, modP, powP, DL.ltP, DL.leP, DL.gtP, DL.geP, eqP, inP, isNP, ixP, lenP, isiP, allP, anyP, intP, listP, tupleP, sortedSP, reprP, slP, revP, negP, findP, countP, joinP, appP, insP, tyD, lenD, dMl, lcountP, isBP, dLSet, dLRg, List.getElem?_cons_zero, List.getElem?_cons_succ, List.set_cons_zero, List.set_cons_succ, List.cons_append, List.nil_append, List.replicate_succ, List.replicate_zero, List.length_cons, List.length_nil, Option.some.injEq, exists_eq_left', exists_eq_left, Wv.pu.injEq, D.sc.injEq, V.bl.injEq, V.int.injEq, V.str.injEq, Nat.reduceSub, Nat.reduceAdd, List.cons.injEq, and_true, true_and, exists_and_left, Option.map_some, if_true, if_false, Bool.false_eq_true, exists_eq_right, ex2a, ex2b, ex2c, D.tup.injEq, D.lst.injEq, M.lst.injEq, eq_self]
    show N _; rw [hN]; clear hN N
    have e1 : (zs.map fun z => DS' (sign (at_ z j))) = (zs.map fun z => sign (at_ z j)).map fun z => DS' z := by rw [List.map_map]; rfl
    have e2 : L2.atI ((zs.map fun z => sign (at_ z j)).map fun z => DS' z) 0 = some (DS' (sign (at_ z j))) := by rw [← hzs]; exact at0 (DS' (sign (at_ z j))) _
    rw [e1]
    simp only [dSet, dRet, dRetN, dIfS, dFor, dIt, dgName, dgNil, dgCons, dgTup, dgLst, dgTxt, dgSet, dVar, dC, dG, dOp, dUn, dCallP, dCons, dNil, dTst, dAnd, dOr, dNot, dAndV, dOrV, dNotV, dIf, dFz, dTup, dLst, dCall, dChain, dSl, dONo, dOSome, dMs, dMi, dAsg, dPar, dDrop, dLc, dLc2, dYes, dRng1, dRng2, dEnum, dZip, dLam, dNewD, dRaise, dNext, dBrk, dCnt, DS.put, DS.wipe, DS.rest, wipeL, restL, val, slD, vals, frz1, put1, out1, pures, dargs, dback, getM, setM, M.frz, start0, par, dEnds, isRes, itemsD, p2i, addP, subP, mulP, divP, modP, powP, DL.ltP, DL.leP, DL.gtP, DL.geP, eqP, inP, isNP, ixP, lenP, isiP, allP, anyP, intP, listP, tupleP, sortedSP, reprP, slP, revP, negP, findP, countP, joinP, appP, insP, tyD, lenD, dMl, lcountP, isBP, dLSet, dLRg, List.getElem?_cons_zero, List.getElem?_cons_succ, List.set_cons_zero, List.set_cons_succ, List.cons_append, List.nil_append, List.replicate_succ, List.replicate_zero, List.length_cons, List.length_nil, Option.some.injEq, exists_eq_left', exists_eq_left, Wv.pu.injEq, D.sc.injEq, V.bl.injEq, V.int.injEq, V.str.injEq, Nat.reduceSub, Nat.reduceAdd, List.cons.injEq, and_true, true_and, exists_and_left, Option.map_some, if_true, if_false, Bool.false_eq_true, exists_eq_right, ex2a, ex2b, ex2c, D.tup.injEq, D.lst.injEq, M.lst.injEq, eq_self, strs_mapF, List.length_map]
    refine ⟨⟨_, rfl⟩, _, e2, ?_⟩
    show ∃ ys, strsD _ = some ys ∧ _
    rw [strs_mapF]
    refine ⟨_, rfl, rfl, ?_⟩
    have ls : (strOf ((List.range j).map (colJ zs))).length = j := by rw [strOf_len, List.length_map, List.length_range]
    have es : strOf ((List.range (j + 1)).map (colJ zs)) = strOf ((List.range j).map (colJ zs)) ++ sign (colJ zs j) := by
      rw [List.range_succ, List.map_append]
      exact strOf_snoc _ _
    have cc := count_col zs z j
    have ec : colJ zs j = if zs.all (fun y => at_ y j == at_ z j) then at_ z j else 63 := by unfold colJ; rw [hd0]
    by_cases hA : zs.all (fun y => at_ y j == at_ z j) = true
    · rw [if_pos (by rw [cc.mpr hA]; simp)]
      refine ⟨_, e2, ?_⟩
      rw [if_pos hA] at ec
      refine ⟨small_sl (by rw [ls, len_sign]; omega), k _ ⟨some (.pu (.sc (.int (0 + (j : Int))))), some (.ow (.lst ((zs.map fun z => sign (at_ z j)).map fun z => DS' z))), ?_⟩⟩
      rw [es, ec]
    · rw [if_neg (by
        have : ¬ (zs.map fun z => sign (at_ z j)).count (sign (at_ z j)) = zs.length := fun h => hA (cc.mp h)
        simp
        omega)]
      rw [if_neg hA] at ec
      refine ⟨small_sl (by rw [ls, sq63, len_sign]; omega), k _ ⟨some (.pu (.sc (.int (0 + (j : Int))))), some (.ow (.lst ((zs.map fun z => sign (at_ z j)).map fun z => DS' z))), ?_⟩⟩
      rw [es, ec]
      rfl
  · obtain ⟨x, y, rfl⟩ := hI
    show N _; rw [hN]; clear hN N
    simp only [dSet, dRet, dRetN, dIfS, dFor, dIt, dgName, dgNil, dgCons, dgTup, dgLst, dgTxt, dgSet, dVar, dC, dG, dOp, dUn, dCallP, dCons, dNil, dTst, dAnd, dOr, dNot, dAndV, dOrV, dNotV, dIf, dFz, dTup, dLst, dCall, dChain, dSl, dONo, dOSome, dMs, dMi, dAsg, dPar, dDrop, dLc, dLc2, dYes, dRng1, dRng2, dEnum, dZip, dLam, dNewD, dRaise, dNext, dBrk, dCnt, DS.put, DS.wipe, DS.rest, wipeL, restL, val, slD, vals, frz1, put1, out1, pures, dargs, dback, getM, setM, M.frz, start0, par, dEnds, isRes, itemsD, p2i, addP, subP, mulP, divP, modP, powP, DL.ltP, DL.leP, DL.gtP, DL.geP, eqP, inP, isNP, ixP, lenP, isiP, allP, anyP, intP, listP, tupleP, sortedSP, reprP, slP, revP, negP, findP, countP, joinP, appP, insP, tyD, lenD, dMl, lcountP, isBP, dLSet, dLRg, List.getElem?_cons_zero, List.getElem?_cons_succ, List.set_cons_zero, List.set_cons_succ, List.cons_append, List.nil_append, List.replicate_succ, List.replicate_zero, List.length_cons, List.length_nil, Option.some.injEq, exists_eq_left', exists_eq_left, Wv.pu.injEq, D.sc.injEq, V.bl.injEq, V.int.injEq, V.str.injEq, Nat.reduceSub, Nat.reduceAdd, List.cons.injEq, and_true, true_and, exists_and_left, Option.map_some, if_true, if_false, Bool.false_eq_true, exists_eq_right, ex2a, ex2b, ex2c, D.tup.injEq, D.lst.injEq, M.lst.injEq, eq_self]
    rw [ej] at q
    exact q.2
theorem settle_at : ∀ (cs : List Nat) (s : Str) (k : Nat), s ∈ settle cs → k < cs.length → sign (at_ s k) ∈ opts (cs.getD k 0) := by
  intro cs
  induction cs using snoc_ind with
  | h0 => intro s k _ h; simp at h
  | h1 cs c ih =>
    intro s k hs hk
    rw [settle_snoc] at hs
    obtain ⟨t, ht, h⟩ := List.mem_flatMap.mp hs
    obtain ⟨o, ho, rfl⟩ := List.mem_map.mp h
    have lt := settle_mem ht
    have lt2 := len_cps t
    rw [List.length_append, List.length_singleton] at hk
    by_cases h : k < cs.length
    · have e1 : at_ (t ++ o) k = at_ t k := by
        unfold at_
        rw [cps_app, List.getD_eq_getElem?_getD, List.getD_eq_getElem?_getD, List.getElem?_append_left (by omega)]
      have e2 : (cs ++ [c]).getD k 0 = cs.getD k 0 := by
        rw [List.getD_eq_getElem?_getD, List.getD_eq_getElem?_getD, List.getElem?_append_left h]
      rw [e1, e2]
      exact ih t k ht h
    · have hk : k = cs.length := by omega
      subst hk
      have e2 : (cs ++ [c]).getD cs.length 0 = c := by
        rw [List.getD_eq_getElem?_getD, List.getElem?_append_right (Nat.le_refl _)]
        simp
      have e1 : at_ (t ++ o) cs.length = at_ o 0 := by
        unfold at_
        rw [cps_app, List.getD_eq_getElem?_getD, List.getD_eq_getElem?_getD, List.getElem?_append_right (by omega)]
        congr 2
        omega
      rw [e1, e2]
      have key : sign (at_ o 0) = o := by
        unfold opts at ho
        split at ho
        · rcases List.mem_cons.mp ho with rfl | ho
          · rfl
          · rw [List.mem_singleton.mp ho]; rfl
        · rw [List.mem_singleton.mp ho]; rfl
      rw [key]
      exact ho
theorem qs_le (z : Str) : qs z ≤ z.length := by
  unfold qs
  rw [← len_cps]
  exact List.count_le_length
theorem c_settled {z : Str} {Q : Wv → List Wv → Prop} {Y : Value → List Wv → Prop} (hb : bitsS z) (h : z.length ≤ 32) (h8 : qs z ≤ 8) (q : Q (strsL (settle z.cps.toList)) [.pu (DS' z)]) : sp__law_settled K [.pu (DS' z)] Q Y :=
  call_ok (ds := [DS' z]) rfl rfl ⟨z, rfl, hb, h, h8⟩ ⟨trivial, q⟩
theorem bits_W {z : Str} (h : bitsS z) (h1 : 1 ≤ z.length) (h2 : z.length ≤ 32) : isW z = true := by
  unfold isW
  simp only [Bool.and_eq_true, decide_eq_true_eq, List.all_eq_true]
  exact ⟨⟨h1, h2⟩, fun c hc => isBit_in (h c hc)⟩
end
end Lw

/-! text QNa -/
set_option Elab.async false
set_option linter.all false
set_option maxRecDepth 100000
set_option maxHeartbeats 4000000
namespace Lw
open PySem PySem.Spec PyProof.Rows L2 DL
section
variable {P : Program} {w : World} {base : Heap} {K : PySem.W.Frag} {ws : List Wv} {Q : Wv → List Wv → Prop} {Y : Value → List Wv → Prop} {mg : Str → Option Value}
local macro_rules | `(tactic| walk_at "d-run") => `(tactic| try simp only [↓y_dSeq, ↓y_dC, ↓y_dG, ↓y_dOp, ↓y_dUn, ↓y_dNil, ↓y_dCons, ↓y_dCallP, ↓y_dTst, ↓y_dAnd, ↓y_dOr, ↓y_dNot, ↓y_dAndV, ↓y_dOrV, ↓y_dNotV, ↓y_dIf, ↓y_dFz, ↓y_dTup, ↓y_dLst, ↓y_dCall, ↓y_dLam, ↓y_dNext, ↓y_dBrk, ↓y_dCnt, ↓y_dDrop, ↓y_dRet, ↓y_dRetN, ↓y_dIfS, ↓y_dSet, ↓y_dgName, ↓y_dgNil, ↓y_dgCons, ↓y_dgTup, ↓y_dgLst, ↓y_dgTxt, ↓y_dAsg, ↓y_dIt, ↓y_dRng1, ↓y_dRng2, ↓y_dEnum, ↓y_dZip, ↓y_dFor, ↓y_dRaise, ↓y_dLc, ↓y_dLc2, ↓y_dYes, ↓y_dNewD, ↓y_dMi, ↓y_dMs, ↓y_dMl, ↓y_dgSet, ↓y_dPar, ↓y_dONo, ↓y_dOSome, ↓y_dSl, ↓y_dChain, ↓y_subP, ↓y_divP, ↓y_modP, ↓y_powP, ↓y_ltP, ↓y_leP, ↓y_gtP, ↓y_geP, ↓y_addP_i, ↓y_addP_s, ↓y_addP_l, ↓y_addP_t, ↓y_mulP_i, ↓y_mulP_s, ↓y_mulP_l, ↓y_mulP_t, ↓y_eqP_s, ↓y_eqP_ll, ↓y_eqP_lt, ↓y_eqP_ls, ↓y_eqP_ld, ↓y_eqP_tl, ↓y_eqP_tt, ↓y_eqP_ts, ↓y_eqP_td, ↓y_eqP_sl, ↓y_eqP_st, ↓y_eqP_sd, ↓y_eqP_dl, ↓y_eqP_dt, ↓y_eqP_ds, ↓y_eqP_dd, ↓y_inP_s, ↓y_inP_t, ↓y_inP_l, ↓y_isNP_s, ↓y_isNP_t, ↓y_isNP_l, ↓y_isNP_d, ↓y_isBP, ↓y_ixP_l, ↓y_ixP_t, ↓y_ixP_s, ↓y_lenP, ↓y_isiP, ↓y_allP, ↓y_anyP, ↓y_intP_i, ↓y_intP_b, ↓y_listP_l, ↓y_listP_t, ↓y_tupleP_l, ↓y_tupleP_t, ↓y_sortedSP, ↓y_reprP, ↓y_negP, ↓y_revP_s, ↓y_revP_l, ↓y_slP_l, ↓y_slP_t, ↓y_slP_r, ↓y_slP_s, ↓y_findP, ↓y_countP, ↓y_joinP, ↓y_lcountP_s, ↓y_lcountP_i, ↓y_appP, ↓y_insP, ↓kc_q, ↓kc_y, ↓k1_k, ↓k2_k, ↓k0_k, ↓kb_a, ↓kb_b, ↓cS_some, ↓cB_t, ↓cB_f, ↓cBl_i, ↓cInt_i, ↓cSD_i, ↓cLD_i, ↓cLM_i, ↓dLM_i, ↓cBw_i, ↓cPair_i, ↓cOne_i, ↓cI1_i, ↓cI2_i, ↓cTup_i, ↓cLst_i, ↓cTxt_i, ↓cCons_i, ↓cNil_i, ↓dVar, DS.put, DS.wipe, DS.rest, wipeL, restL, val, slD, vals, frz1, put1, out1, pures, dargs, dback, getM, setM, M.frz, start0, par, dEnds, isRes, itemsD, tyD, lenD, dLSet, dLRg, ↓y_inTabP, ↓y_ixTabP, ↓y_eqEP, ↓y_strP, ↓y_revP_t, ↓y_list2P_l, ↓y_list2P_t, ↓y_list2P_s, ↓y_reprP2, ↓y_dDGet, ↓y_dUpper, ↓y_dIsiT, ↓y_dCallB, strO, tyO, scO, List.getElem?_cons_zero, List.getElem?_cons_succ, List.set_cons_zero, List.set_cons_succ, List.cons_append, List.nil_append, List.replicate_succ, List.replicate_zero, List.length_cons, List.length_nil, Option.some.injEq, exists_eq_left', exists_eq_left, Wv.pu.injEq, D.sc.injEq, V.bl.injEq, V.int.injEq, V.str.injEq, Nat.reduceSub, Nat.reduceAdd, List.cons.injEq, and_true, true_and, exists_and_left, Option.map_some, if_true, if_false, Bool.false_eq_true, exists_eq_right, ex2a, ex2b, ex2c, D.tup.injEq, D.lst.injEq, M.lst.injEq, eq_self])
theorem okB_thing {d : D} (h : okB d = true) : thing d := by
  refine ⟨okB_ty h, fun z e => ?_⟩
  subst e
  simp only [okB, decide_eq_true_eq] at h
  exact small_sl h
theorem okB_tup {xs : List D} (h : okB (.tup xs) = true) : xs.length ≤ 100000 ∧ ∀ x ∈ xs, okB x = true := by
  simp only [okB, Bool.and_eq_true, decide_eq_true_eq] at h
  exact ⟨h.1, okBs_all h.2⟩
theorem bnd_num {d : D} {a b : Int} : bndF [d, DI' a, DI' b] = .ok (.pu (DB' (isNum d a b))) := by
  cases d with
  | sc v => cases v <;> rfl
  | _ => rfl
theorem c_bounds {d : D} {a b : Int} {Q : Wv → List Wv → Prop} {Y : Value → List Wv → Prop} (h : okB d = true) (q : Q (.pu (DB' (isNum d a b))) [.pu d, .pu (DI' a), .pu (DI' b)]) : sp_is_within_bounds K [.pu d, .pu (DI' a), .pu (DI' b)] Q Y := by
  obtain ⟨t, ht⟩ := okB_ty h
  refine call_ok (ds := [d, DI' a, DI' b]) rfl rfl ⟨d, t, a, b, rfl, ht⟩ ?_
  rw [bnd_num]
  exact ⟨trivial, q⟩
theorem kit_tup_no {d : D} (h : okB d = true) (n : ∀ xs, d ≠ .tup xs) : ∃ t, tyD d = some t ∧ kitB t "tuple" = some false := by
  cases d with
  | sc v => cases v <;> first | exact ⟨_, rfl, by rfl⟩ | (simp [okB] at h)
  | tup xs => exact absurd rfl (n xs)
  | lst xs => exact ⟨_, rfl, by rfl⟩
  | dic xs => exact ⟨_, rfl, by rfl⟩
  | scr xs => simp [okB] at h
theorem kit_str_no {d : D} (h : okB d = true) (n : ∀ z, d ≠ DS' z) : ∃ t, tyD d = some t ∧ kitB t "str" = some false := by
  cases d with
  | sc v => cases v <;> first | exact ⟨_, rfl, by rfl⟩ | (simp [okB] at h; done) | exact absurd rfl (n _)
  | tup xs => exact ⟨_, rfl, by rfl⟩
  | lst xs => exact ⟨_, rfl, by rfl⟩
  | dic xs => exact ⟨_, rfl, by rfl⟩
  | scr xs => simp [okB] at h
theorem gateB_no {d : D} {b : Int} (n : ∀ z r, d ≠ .tup (.sc (.str z) :: r)) : gateB d b = false := by
  cases d with
  | tup xs =>
    cases xs with
    | nil => rfl
    | cons x xs =>
      cases x with
      | sc v => cases v <;> first | rfl | exact absurd rfl (n _ _)
      | _ => rfl
  | _ => rfl
theorem r_is_gate (h : sp_is_gate K ws Q Y) : t_is_gate K (dEnds Q Y) (start0 N_is_gate ws) := by
  obtain ⟨ds, e, hl, ⟨d, b, rfl, ok⟩, q⟩ := h
  have := pures_len e; subst this
  have q := q.2
  simp only [List.map_cons, List.map_nil, t_is_gate, N_is_gate, List.getD_cons_zero, List.getD_cons_succ, numOf] at q ⊢
  by_cases ht : ∃ xs, d = .tup xs
  · obtain ⟨xs, rfl⟩ := ht
    obtain ⟨xl, xok⟩ := okB_tup ok
    refine seq_o fun N hN => ?_
    walk_at "d-run"
    refine cS_i (a := true) (by rfl) ?_
    walk_at "d-run"
    refine cB_n (by rfl) ?_
    walk_at "d-run"
    refine ⟨Nat.zero_le _, ?_⟩
    cases xs with
    | nil =>
      rw [gateB_no fun z r e => by cases e] at q
      refine cB_y rfl ?_
      walk_at "d-run"
      exact q
    | cons x xs =>
    refine cB_n rfl ?_
    walk_at "d-run"
    refine cS_i (at0 _ _) ?_
    walk_at "d-run"
    have xo := xok x (by simp)
    by_cases hs : ∃ z, x = DS' z
    · obtain ⟨z, rfl⟩ := hs
      walk_at "d-run"
      refine cS_i (a := true) (by rfl) ?_
      walk_at "d-run"
      refine cB_n rfl ?_
      walk_at "d-run"
      refine cS_i (at0 _ _) ?_
      walk_at "d-run"
      cases hf : tab_PLACES.find? fun q => q.1 == z with
      | none =>
        rw [show gateB (.tup (DS' z :: xs)) b = false by simp only [gateB, places, hf, Option.map_none]] at q
        refine cB_y rfl ?_
        walk_at "d-run"
        exact q
      | some p =>
      have hg : gateB (.tup (DS' z :: xs)) b = (decide ((xs.length : Int) = p.2) && xs.all fun x => isNum x 0 (b - 1)) := by simp only [gateB, places, hf, Option.map_some]
      rw [hg] at q
      refine cB_n rfl ?_
      walk_at "d-run"
      show N _; rw [hN]; clear hN N
      refine seq_o fun N hN => ?_
      walk_at "d-run"
      refine cS_i (at0 _ _) ?_
      walk_at "d-run"
      refine cS_i hf ?_
      walk_at "d-run"
      refine ⟨rfl, ?_⟩
      by_cases hp : (xs.length : Int) = p.2
      · rw [decide_eq_true hp, Bool.true_and] at q
        refine cB_n (by simp [hp]) ?_
        walk_at "d-run"
        show N _; rw [hN]; clear hN N
        walk_at "d-run"
        rw [cutL_tail]
        refine comp_map (fun x => DB' (isNum x 0 (b - 1))) xs [] _ (fun x hx K2 k => ?_) (by rw [List.length_nil, Nat.zero_add]; rw [List.length_cons] at xl; exact small_sl (by omega)) ?_
        · walk_at "d-run"
          refine c_bounds (xok x (List.mem_cons_of_mem _ hx)) ?_
          walk_at "d-run"
          exact k _ rfl
        · walk_at "d-run"
          refine cS_i (bools_mapF _ _) ?_
          walk_at "d-run"
          rw [List.all_map]
          exact q
      · rw [decide_eq_false hp, Bool.false_and] at q
        refine cB_y (by simp; omega) ?_
        walk_at "d-run"
        exact q
    · obtain ⟨t, e1, e2⟩ := kit_str_no xo fun z e => hs ⟨z, e⟩
      rw [gateB_no fun z r e => by cases e; exact hs ⟨z, rfl⟩] at q
      refine cS_i e1 ?_
      walk_at "d-run"
      refine cS_i e2 ?_
      walk_at "d-run"
      refine cB_y rfl ?_
      walk_at "d-run"
      exact q
  · have nt : ∀ xs, d ≠ .tup xs := fun xs e => ht ⟨xs, e⟩
    obtain ⟨t, e1, e2⟩ := kit_tup_no ok nt
    rw [gateB_no fun z r e => nt _ e] at q
    refine seq_o fun N hN => ?_
    walk_at "d-run"
    refine cS_i e1 ?_
    walk_at "d-run"
    refine cS_i e2 ?_
    walk_at "d-run"
    refine cB_y rfl ?_
    walk_at "d-run"
    exact q
theorem outsB_no {d : D} {b : Int} (n : ∀ xs, d ≠ .tup xs) : outsB d b = false := by
  cases d with
  | tup xs => exact absurd rfl (n xs)
  | _ => rfl
theorem r_are_outs (h : sp_are_outs K ws Q Y) : t_are_outs K (dEnds Q Y) (start0 N_are_outs ws) := by
  obtain ⟨ds, e, hl, ⟨d, b, rfl, ok⟩, q⟩ := h
  have := pures_len e; subst this
  have q := q.2
  simp only [List.map_cons, List.map_nil, t_are_outs, N_are_outs, List.getD_cons_zero, List.getD_cons_succ, numOf] at q ⊢
  by_cases ht : ∃ xs, d = .tup xs
  · obtain ⟨xs, rfl⟩ := ht
    obtain ⟨xl, xok⟩ := okB_tup ok
    have ho : outsB (.tup xs) b = (decide (1 ≤ xs.length) && decide (xs.length ≤ 32) && xs.all fun x => isNum x 0 (b - 1)) := rfl
    rw [ho] at q
    refine seq_o fun N hN => ?_
    walk_at "d-run"
    refine cS_i (a := true) (by rfl) ?_
    walk_at "d-run"
    refine cB_n (by rfl) ?_
    walk_at "d-run"
    by_cases h1 : 1 ≤ xs.length
    · refine cB_y (decide_eq_true (by omega)) ?_
      walk_at "d-run"
      by_cases h2 : xs.length ≤ 32
      · rw [decide_eq_true h1, decide_eq_true h2, Bool.true_and, Bool.true_and] at q
        refine cB_n (by simp; omega) ?_
        walk_at "d-run"
        show N _; rw [hN]; clear hN N
        walk_at "d-run"
        refine comp_map (fun x => DB' (isNum x 0 (b - 1))) xs [] _ (fun x hx K2 k => ?_) (by rw [List.length_nil, Nat.zero_add]; exact small_sl (by omega)) ?_
        · walk_at "d-run"
          refine c_bounds (xok x hx) ?_
          walk_at "d-run"
          exact k _ rfl
        · walk_at "d-run"
          refine cS_i (bools_mapF _ _) ?_
          walk_at "d-run"
          rw [List.all_map]
          exact q
      · rw [decide_eq_false h2, Bool.and_false, Bool.false_and] at q
        refine cB_y (by simp; omega) ?_
        walk_at "d-run"
        exact q
    · rw [decide_eq_false h1, Bool.false_and, Bool.false_and] at q
      refine cB_n (decide_eq_false (by omega)) ?_
      walk_at "d-run"
      refine cB_y rfl ?_
      walk_at "d-run"
      exact q
  · have nt : ∀ xs, d ≠ .tup xs := fun xs e => ht ⟨xs, e⟩
    obtain ⟨t, e1, e2⟩ := kit_tup_no ok nt
    rw [outsB_no nt] at q
    refine seq_o fun N hN => ?_
    walk_at "d-run"
    refine cS_i e1 ?_
    walk_at "d-run"
    refine cS_i e2 ?_
    walk_at "d-run"
    refine cB_y rfl ?_
    walk_at "d-run"
    exact q
theorem c_gate {d : D} {b : Int} {Q : Wv → List Wv → Prop} {Y : Value → List Wv → Prop} (h : okB d = true) (q : Q (.pu (DB' (gateB d b))) [.pu d, .pu (DI' b)]) : sp_is_gate K [.pu d, .pu (DI' b)] Q Y :=
  call_ok (ds := [d, DI' b]) rfl rfl ⟨d, b, rfl, h⟩ ⟨trivial, q⟩
theorem c_outs {d : D} {b : Int} {Q : Wv → List Wv → Prop} {Y : Value → List Wv → Prop} (h : okB d = true) (q : Q (.pu (DB' (outsB d b))) [.pu d, .pu (DI' b)]) : sp_are_outs K [.pu d, .pu (DI' b)] Q Y :=
  call_ok (ds := [d, DI' b]) rfl rfl ⟨d, b, rfl, h⟩ ⟨trivial, q⟩
theorem c_is_net {d : D} {Q : Wv → List Wv → Prop} {Y : Value → List Wv → Prop} (h : okB d = true) (q : Q (.pu (DB' (netB d))) [.pu d]) : sp_is_net K [.pu d] Q Y :=
  call_ok (ds := [d]) rfl rfl (fun x hx => by rw [List.mem_singleton.mp hx]; exact h) ⟨trivial, q⟩
theorem netB_no {d : D} (n : ∀ a b c, d ≠ .tup [a, b, c]) : netB d = false := by
  unfold netB
  split
  · exact absurd rfl (n _ _ _)
  · rfl
theorem netB_3 {a c : D} {gs : List D} : netB (.tup [a, .tup gs, c]) = (isNum a 1 32 && decide (gs.length ≤ 100000) && gatesB gs (numOf a) && outsB c (numOf a + gs.length)) := rfl
theorem netB_no2 {a b c : D} (n : ∀ gs, b ≠ .tup gs) : netB (.tup [a, b, c]) = false := by
  unfold netB
  split
  · rename_i h
    cases h
    exact absurd rfl (n _)
  · rfl
theorem en_ds (xs : List D) : enD 0 xs = (List.range xs.length).map fun k : Nat => .tup [DI' (k : Int), xs.getD k DN'] := by
  refine List.ext_getElem? fun k => ?_
  by_cases h : k < xs.length
  · have e : xs[k]? = some (xs.getD k DN') := by
      rw [List.getD_eq_getElem?_getD, List.getElem?_eq_getElem h]
      rfl
    rw [enD_get e, List.getElem?_map, List.getElem?_range h]
    simp
  · rw [List.getElem?_eq_none (by rw [enD_len]; omega), List.getElem?_eq_none (by rw [List.length_map, List.length_range]; omega)]
theorem getD_mem {xs : List D} {k : Nat} (h : k < xs.length) : xs.getD k DN' ∈ xs := by
  rw [List.getD_eq_getElem?_getD, List.getElem?_eq_getElem h]
  exact List.getElem_mem h
theorem isNum_int {d : D} {a b : Int} (h : isNum d a b = true) : ∃ i : Int, d = DI' i ∧ a ≤ i ∧ i ≤ b := by
  match d, h with
  | .sc (.int i), h =>
    simp only [isNum, Bool.and_eq_true, decide_eq_true_eq] at h
    exact ⟨i, rfl, h.1, h.2⟩
theorem r_is_net (h : sp_is_net K ws Q Y) : t_is_net K (dEnds Q Y) (start0 N_is_net ws) := by
  obtain ⟨ds, e, hl, hp, q⟩ := h
  obtain ⟨d, rfl⟩ := len1 hl
  have ok := hp d (by simp)
  have := pures_len e; subst this
  have q := q.2
  simp only [List.map_cons, List.map_nil, t_is_net, N_is_net, List.headD_cons] at q ⊢
  by_cases ht : ∃ xs, d = .tup xs
  · obtain ⟨xs, rfl⟩ := ht
    obtain ⟨xl, xok⟩ := okB_tup ok
    refine seq_o fun N hN => ?_
    walk_at "d-run"
    refine cS_i (a := true) (by rfl) ?_
    walk_at "d-run"
    refine cB_n (by rfl) ?_
    walk_at "d-run"
    refine ⟨rfl, ?_⟩
    by_cases l3 : xs.length = 3
    · obtain ⟨a, b, c, rfl⟩ := len3 l3
      have ao := xok a (by simp)
      have bo := xok b (by simp)
      have co := xok c (by simp)
      refine cB_n (by simp) ?_
      walk_at "d-run"
      refine cS_i (at0 _ _) ?_
      walk_at "d-run"
      refine c_bounds ao ?_
      walk_at "d-run"
      cases ha : isNum a 1 32 with
      | false =>
        have z : netB (.tup [a, b, c]) = false := by
          by_cases hb : ∃ gs, b = .tup gs
          · obtain ⟨gs, rfl⟩ := hb
            rw [netB_3, ha]
            rfl
          · exact netB_no2 fun gs e => hb ⟨gs, e⟩
        rw [z] at q
        refine cB_y rfl ?_
        walk_at "d-run"
        exact q
      | true =>
      obtain ⟨i, rfl, i1, i2⟩ := isNum_int ha
      refine cB_n rfl ?_
      walk_at "d-run"
      show N _; rw [hN]; clear hN N
      refine seq_o fun N hN => ?_
      walk_at "d-run"
      show N _; rw [hN]; clear hN N
      refine seq_o fun N hN => ?_
      walk_at "d-run"
      by_cases hb : ∃ gs, b = .tup gs
      · obtain ⟨gs, rfl⟩ := hb
        obtain ⟨gl, gok⟩ := okB_tup bo
        rw [netB_3, ha, decide_eq_true gl, Bool.true_and, Bool.true_and] at q
        walk_at "d-run"
        refine cS_i (a := true) (by rfl) ?_
        walk_at "d-run"
        refine cB_n rfl ?_
        walk_at "d-run"
        refine cB_n (by simp; omega) ?_
        walk_at "d-run"
        show N _; rw [hN]; clear hN N
        refine seq_o fun N hN => ?_
        walk_at "d-run"
        rw [en_ds]
        refine comp_x (g := fun k : Nat => .tup [DI' (k : Int), gs.getD k DN']) (fun k : Nat => DB' (gateB (gs.getD k DN') (i + (k : Int)))) (List.range gs.length) [] _ (fun k hk K2 a => ?_) (by rw [List.length_nil, List.length_range, Nat.zero_add]; exact small_sl gl) ?_
        · walk_at "d-run"
          refine c_gate (gok _ (getD_mem (List.mem_range.mp hk))) ?_
          walk_at "d-run"
          exact a _ rfl
        · walk_at "d-run"
          refine cS_i (bools_mapF _ _) ?_
          walk_at "d-run"
          rw [List.all_map]
          have eg : (List.range gs.length).all (id ∘ fun k : Nat => gateB (gs.getD k DN') (i + (k : Int))) = gatesB gs i := rfl
          rw [eg]
          cases hg : gatesB gs i with
          | false =>
            rw [show gatesB gs (numOf (DI' i)) = gatesB gs i from rfl, hg, Bool.false_and] at q
            refine cB_y rfl ?_
            walk_at "d-run"
            exact q
          | true =>
            rw [show gatesB gs (numOf (DI' i)) = gatesB gs i from rfl, hg, Bool.true_and] at q
            refine cB_n rfl ?_
            walk_at "d-run"
            show N _; rw [hN]; clear hN N
            walk_at "d-run"
            refine c_outs co ?_
            walk_at "d-run"
            exact q
      · obtain ⟨t, e1, e2⟩ := kit_tup_no bo fun gs e => hb ⟨gs, e⟩
        rw [netB_no2 fun gs e => hb ⟨gs, e⟩] at q
        refine cS_i e1 ?_
        walk_at "d-run"
        refine cS_i e2 ?_
        walk_at "d-run"
        refine cB_y rfl ?_
        walk_at "d-run"
        exact q
    · rw [netB_no fun a b c e => by cases e; exact l3 rfl] at q
      refine cB_y (by simp; omega) ?_
      walk_at "d-run"
      exact q
  · have nt : ∀ xs, d ≠ .tup xs := fun xs e => ht ⟨xs, e⟩
    obtain ⟨t, e1, e2⟩ := kit_tup_no ok nt
    rw [netB_no fun a b c => nt _] at q
    refine seq_o fun N hN => ?_
    walk_at "d-run"
    refine cS_i e1 ?_
    walk_at "d-run"
    refine cS_i e2 ?_
    walk_at "d-run"
    refine cB_y rfl ?_
    walk_at "d-run"
    exact q
theorem r_need_net (h : sp_need_net K ws Q Y) : t_need_net K (dEnds Q Y) (start0 N_need_net ws) := by
  obtain ⟨ds, e, hl, hp, q⟩ := h
  obtain ⟨d, rfl⟩ := len1 hl
  have ok := hp d (by simp)
  have := pures_len e; subst this
  simp only [List.map_cons, List.map_nil, t_need_net, N_need_net, List.headD_cons] at q ⊢
  walk_at "d-run"
  refine c_is_net ok ?_
  walk_at "d-run"
  cases hn : netB d with
  | true =>
    simp only [hn, if_true] at q
    refine cB_n rfl ?_
    walk_at "d-run"
    exact q.2
  | false =>
    simp only [hn, Bool.false_eq_true, if_false] at q
    refine cB_y rfl ?_
    walk_at "d-run"
    exact q
theorem comp_f {gt : DTG} {tt : DTT} {te : DTE} {vs : List Nat} (p : D → Bool) (f : D → D) {δ : DS} (xs acc : List D) (Q : List D → DS → Prop)
    (h : ∀ d ∈ xs, ∀ K : Bool → DS → Prop, (∀ δ2, δ2.wipe vs = δ → (p d = true → ∀ K' : Wv → DS → Prop, (∀ δ3, δ3.wipe vs = δ → K' (.pu (f d)) δ3) → te δ2 K' fun _ _ => False) → K (p d) δ2) → gt d δ fun δ1 => tt δ1 K fun _ _ => False)
    (hz : acc.length + xs.length ≤ sizeLine) (q : Q (acc ++ (xs.filter p).map f) δ) : dComp gt tt te vs xs acc δ Q := by
  have := comp_fx (g := fun d : D => d) p f xs acc Q h hz q
  rwa [List.map_id'] at this
end
end Lw

/-! text QNb -/
set_option Elab.async false
set_option linter.all false
set_option maxRecDepth 100000
set_option maxHeartbeats 4000000
namespace Lw
open PySem PySem.Spec PyProof.Rows L2 DL
section
variable {P : Program} {w : World} {base : Heap} {K : PySem.W.Frag} {ws : List Wv} {Q : Wv → List Wv → Prop} {Y : Value → List Wv → Prop} {mg : Str → Option Value}
local macro_rules | `(tactic| walk_at "d-run") => `(tactic| try simp only [↓y_dSeq, ↓y_dC, ↓y_dG, ↓y_dOp, ↓y_dUn, ↓y_dNil, ↓y_dCons, ↓y_dCallP, ↓y_dTst, ↓y_dAnd, ↓y_dOr, ↓y_dNot, ↓y_dAndV, ↓y_dOrV, ↓y_dNotV, ↓y_dIf, ↓y_dFz, ↓y_dTup, ↓y_dLst, ↓y_dCall, ↓y_dLam, ↓y_dNext, ↓y_dBrk, ↓y_dCnt, ↓y_dDrop, ↓y_dRet, ↓y_dRetN, ↓y_dIfS, ↓y_dSet, ↓y_dgName, ↓y_dgNil, ↓y_dgCons, ↓y_dgTup, ↓y_dgLst, ↓y_dgTxt, ↓y_dAsg, ↓y_dIt, ↓y_dRng1, ↓y_dRng2, ↓y_dEnum, ↓y_dZip, ↓y_dFor, ↓y_dRaise, ↓y_dLc, ↓y_dLc2, ↓y_dYes, ↓y_dNewD, ↓y_dMi, ↓y_dMs, ↓y_dMl, ↓y_dgSet, ↓y_dPar, ↓y_dONo, ↓y_dOSome, ↓y_dSl, ↓y_dChain, ↓y_subP, ↓y_divP, ↓y_modP, ↓y_powP, ↓y_ltP, ↓y_leP, ↓y_gtP, ↓y_geP, ↓y_addP_i, ↓y_addP_s, ↓y_addP_l, ↓y_addP_t, ↓y_mulP_i, ↓y_mulP_s, ↓y_mulP_l, ↓y_mulP_t, ↓y_eqP_s, ↓y_eqP_ll, ↓y_eqP_lt, ↓y_eqP_ls, ↓y_eqP_ld, ↓y_eqP_tl, ↓y_eqP_tt, ↓y_eqP_ts, ↓y_eqP_td, ↓y_eqP_sl, ↓y_eqP_st, ↓y_eqP_sd, ↓y_eqP_dl, ↓y_eqP_dt, ↓y_eqP_ds, ↓y_eqP_dd, ↓y_inP_s, ↓y_inP_t, ↓y_inP_l, ↓y_isNP_s, ↓y_isNP_t, ↓y_isNP_l, ↓y_isNP_d, ↓y_isBP, ↓y_ixP_l, ↓y_ixP_t, ↓y_ixP_s, ↓y_lenP, ↓y_isiP, ↓y_allP, ↓y_anyP, ↓y_intP_i, ↓y_intP_b, ↓y_listP_l, ↓y_listP_t, ↓y_tupleP_l, ↓y_tupleP_t, ↓y_sortedSP, ↓y_reprP, ↓y_negP, ↓y_revP_s, ↓y_revP_l, ↓y_slP_l, ↓y_slP_t, ↓y_slP_r, ↓y_slP_s, ↓y_findP, ↓y_countP, ↓y_joinP, ↓y_lcountP_s, ↓y_lcountP_i, ↓y_appP, ↓y_insP, ↓kc_q, ↓kc_y, ↓k1_k, ↓k2_k, ↓k0_k, ↓kb_a, ↓kb_b, ↓cS_some, ↓cB_t, ↓cB_f, ↓cBl_i, ↓cInt_i, ↓cSD_i, ↓cLD_i, ↓cLM_i, ↓dLM_i, ↓cBw_i, ↓cPair_i, ↓cOne_i, ↓cI1_i, ↓cI2_i, ↓cTup_i, ↓cLst_i, ↓cTxt_i, ↓cCons_i, ↓cNil_i, ↓dVar, DS.put, DS.wipe, DS.rest, wipeL, restL, val, slD, vals, frz1, put1, out1, pures, dargs, dback, getM, setM, M.frz, start0, par, dEnds, isRes, itemsD, tyD, lenD, dLSet, dLRg, ↓y_inTabP, ↓y_ixTabP, ↓y_eqEP, ↓y_strP, ↓y_revP_t, ↓y_list2P_l, ↓y_list2P_t, ↓y_list2P_s, ↓y_reprP2, ↓y_dDGet, ↓y_dUpper, ↓y_dIsiT, ↓y_dCallB, strO, tyO, scO, List.getElem?_cons_zero, List.getElem?_cons_succ, List.set_cons_zero, List.set_cons_succ, List.cons_append, List.nil_append, List.replicate_succ, List.replicate_zero, List.length_cons, List.length_nil, Option.some.injEq, exists_eq_left', exists_eq_left, Wv.pu.injEq, D.sc.injEq, V.bl.injEq, V.int.injEq, V.str.injEq, Nat.reduceSub, Nat.reduceAdd, List.cons.injEq, and_true, true_and, exists_and_left, Option.map_some, if_true, if_false, Bool.false_eq_true, exists_eq_right, ex2a, ex2b, ex2c, D.tup.injEq, D.lst.injEq, M.lst.injEq, eq_self])
theorem places_cases {z : Str} {n : Int} (h : places z = some n) : ((z = "0" ∨ z = "1") ∧ n = 0) ∨ (z = "not" ∧ n = 1) ∨ ((z = "and" ∨ z = "or") ∧ n = 2) := by
  unfold places tab_PLACES at h
  simp only [List.find?_cons, List.find?_nil] at h
  split at h
  · rename_i e; have e := eq_of_beq e; simp only [Option.map_some, Option.some.injEq] at h; exact .inl ⟨.inl e.symm, h.symm⟩
  split at h
  · rename_i e; have e := eq_of_beq e; simp only [Option.map_some, Option.some.injEq] at h; exact .inl ⟨.inr e.symm, h.symm⟩
  split at h
  · rename_i e; have e := eq_of_beq e; simp only [Option.map_some, Option.some.injEq] at h; exact .inr (.inl ⟨e.symm, h.symm⟩)
  split at h
  · rename_i e; have e := eq_of_beq e; simp only [Option.map_some, Option.some.injEq] at h; exact .inr (.inr ⟨.inl e.symm, h.symm⟩)
  split at h
  · rename_i e; have e := eq_of_beq e; simp only [Option.map_some, Option.some.injEq] at h; exact .inr (.inr ⟨.inr e.symm, h.symm⟩)
  · cases h
theorem gate_cases {d : D} {b : Int} (h : gateB d b = true) : (∃ z : Str, (z = "0" ∨ z = "1") ∧ d = .tup [DS' z]) ∨ (∃ i : Int, d = .tup [DS' "not", DI' i] ∧ 0 ≤ i ∧ i ≤ b - 1) ∨ (∃ (z : Str) (i j : Int), (z = "and" ∨ z = "or") ∧ d = .tup [DS' z, DI' i, DI' j] ∧ (0 ≤ i ∧ i ≤ b - 1) ∧ 0 ≤ j ∧ j ≤ b - 1) := by
  by_cases hd : ∃ z r, d = .tup (.sc (.str z) :: r)
  · obtain ⟨z, r, rfl⟩ := hd
    cases hp : places z with
    | none => simp only [gateB, hp] at h; cases h
    | some n =>
      simp only [gateB, hp, Bool.and_eq_true, decide_eq_true_eq, List.all_eq_true] at h
      obtain ⟨hl, ha⟩ := h
      rcases places_cases hp with ⟨hz, rfl⟩ | ⟨rfl, rfl⟩ | ⟨hz, rfl⟩
      · have : r = [] := List.eq_nil_of_length_eq_zero (by omega)
        exact .inl ⟨z, hz, by rw [this]⟩
      · obtain ⟨x, rfl⟩ := len1 (show r.length = 1 by omega)
        obtain ⟨i, rfl, h1, h2⟩ := isNum_int (ha x (by simp))
        exact .inr (.inl ⟨i, rfl, h1, h2⟩)
      · obtain ⟨x, y, rfl⟩ := len2 (show r.length = 2 by omega)
        obtain ⟨i, rfl, h1, h2⟩ := isNum_int (ha x (by simp))
        obtain ⟨j, rfl, h3, h4⟩ := isNum_int (ha y (by simp))
        exact .inr (.inr ⟨z, i, j, hz, rfl, ⟨h1, h2⟩, h3, h4⟩)
  · rw [gateB_no fun z r e => hd ⟨z, r, e⟩] at h
    cases h
theorem at_bits {bs : List Nat} {i : Int} (h0 : 0 ≤ i) (h1 : i ≤ (bs.length : Int) - 1) : L2.atI (bs.map fun c => DS' (sign c)) i = some (DS' (sign (bs.getD i.toNat 0))) := by
  have hn : i.toNat < bs.length := by omega
  have := atI_nat (k := i.toNat) (xs := bs.map fun c => DS' (sign c)) (by rw [List.length_map]; exact hn)
  rw [show ((i.toNat : Nat) : Int) = i by omega] at this
  rw [this, List.getElem_map, List.getD_eq_getElem?_getD, List.getElem?_eq_getElem hn]
  rfl
theorem getD_bit {bs : List Nat} (hb : bitsL bs) {k : Nat} (h : k < bs.length) : isBit (sign (bs.getD k 0)) = true := by
  rw [List.getD_eq_getElem?_getD, List.getElem?_eq_getElem h]
  exact hb _ (List.getElem_mem h)
theorem bitsOf_map (bs : List Nat) : bitsOf (.lst (bs.map fun c => DS' (sign c))) = bs := by
  show (bs.map fun c => DS' (sign c)).map (fun x => at_ (str x) 0) = bs
  rw [List.map_map]
  exact (List.map_congr_left fun c _ => rfl).trans (List.map_id bs)
theorem r_told_by (h : sp_told_by K ws Q Y) : t_told_by K (dEnds Q Y) (start0 N_told_by ws) := by
  obtain ⟨ds, e, hl, ⟨d, bs, rfl, hg, hb, hbl⟩, q⟩ := h
  have := pures_len e; subst this
  have q := q.2
  simp only [List.map_cons, List.map_nil, t_told_by, N_told_by, List.getD_cons_zero, List.getD_cons_succ, bitsOf_map] at q ⊢
  rcases gate_cases hg with ⟨z, hz, rfl⟩ | ⟨i, rfl, i1, i2⟩ | ⟨z, i, j, hz, rfl, ⟨i1, i2⟩, j1, j2⟩
  · refine seq_o fun N hN => ?_
    walk_at "d-run"
    refine cS_i (at0 _ _) ?_
    walk_at "d-run"
    refine ⟨by decide, cS_i (a := [V.str "0", V.str "1"]) rfl ?_⟩
    walk_at "d-run"
    rcases hz with rfl | rfl
    · refine ⟨rfl, cB_y (by decide +kernel) ?_⟩
      walk_at "d-run"
      refine cS_i (at0 _ _) ?_
      walk_at "d-run"
      exact q
    · refine ⟨rfl, cB_y (by decide +kernel) ?_⟩
      walk_at "d-run"
      refine cS_i (at0 _ _) ?_
      walk_at "d-run"
      exact q
  · have hbit := bit_cases (getD_bit hb (show i.toNat < bs.length by omega))
    have ea : L2.atI (bs.map fun c => DS' (sign c)) i = some (DS' (sign (bs.getD i.toNat 0))) := at_bits i1 i2
    have tq : toldB (.tup [DS' "not", DI' i]) bs = if bs.getD i.toNat 0 = 48 then 49 else if bs.getD i.toNat 0 = 49 then 48 else 63 := rfl
    rw [tq] at q
    generalize bs.getD i.toNat 0 = a at hbit ea q
    refine seq_o fun N hN => ?_
    walk_at "d-run"
    refine cS_i (at0 _ _) ?_
    walk_at "d-run"
    refine ⟨by decide, cS_i (a := [V.str "0", V.str "1"]) rfl ?_⟩
    walk_at "d-run"
    refine ⟨rfl, cB_n (by decide +kernel) ?_⟩
    walk_at "d-run"
    show N _; rw [hN]; clear hN N
    refine seq_o fun N hN => ?_
    walk_at "d-run"
    refine cS_i (a := DI' i) (by rfl) ?_
    walk_at "d-run"
    refine cS_i ea ?_
    walk_at "d-run"
    show N _; rw [hN]; clear hN N
    refine seq_o fun N hN => ?_
    walk_at "d-run"
    refine cS_i (at0 _ _) ?_
    walk_at "d-run"
    refine ⟨rfl, cB_y (by simp) ?_⟩
    walk_at "d-run"
    rcases hbit with rfl | rfl | rfl <;> exact q
  · have hb1 := bit_cases (getD_bit hb (show i.toNat < bs.length by omega))
    have hb2 := bit_cases (getD_bit hb (show j.toNat < bs.length by omega))
    have ea : L2.atI (bs.map fun c => DS' (sign c)) i = some (DS' (sign (bs.getD i.toNat 0))) := at_bits i1 i2
    have eb : L2.atI (bs.map fun c => DS' (sign c)) j = some (DS' (sign (bs.getD j.toNat 0))) := at_bits j1 j2
    have tq : toldB (.tup [DS' z, DI' i, DI' j]) bs = if bs.getD i.toNat 0 = (if z = "and" then 48 else 49) ∨ bs.getD j.toNat 0 = (if z = "and" then 48 else 49) then (if z = "and" then 48 else 49) else if bs.getD i.toNat 0 = bs.getD j.toNat 0 then bs.getD i.toNat 0 else 63 := rfl
    rw [tq] at q
    generalize bs.getD i.toNat 0 = a at hb1 ea q
    generalize bs.getD j.toNat 0 = b at hb2 eb q
    have nz : ∃ b1 b2 : Bool, (false ^^ inV (V.str z) [V.str "0", V.str "1"]) = false ∧ ¬ z = "not" := by
      rcases hz with rfl | rfl <;> exact ⟨true, true, by decide +kernel, by decide +kernel⟩
    obtain ⟨_, _, z1, z2⟩ := nz
    refine seq_o fun N hN => ?_
    walk_at "d-run"
    refine cS_i (at0 _ _) ?_
    walk_at "d-run"
    refine ⟨by decide, cS_i (a := [V.str "0", V.str "1"]) rfl ?_⟩
    walk_at "d-run"
    refine ⟨rfl, cB_n z1 ?_⟩
    walk_at "d-run"
    show N _; rw [hN]; clear hN N
    refine seq_o fun N hN => ?_
    walk_at "d-run"
    refine cS_i (a := DI' i) (by rfl) ?_
    walk_at "d-run"
    refine cS_i ea ?_
    walk_at "d-run"
    show N _; rw [hN]; clear hN N
    refine seq_o fun N hN => ?_
    walk_at "d-run"
    refine cS_i (at0 _ _) ?_
    walk_at "d-run"
    refine ⟨rfl, cB_n (by simp [z2]) ?_⟩
    walk_at "d-run"
    show N _; rw [hN]; clear hN N
    refine seq_o fun N hN => ?_
    walk_at "d-run"
    refine cS_i (a := DI' j) (by rfl) ?_
    walk_at "d-run"
    refine cS_i eb ?_
    walk_at "d-run"
    refine cS_i (at0 _ _) ?_
    walk_at "d-run"
    refine ⟨rfl, ?_⟩
    have key : ∀ s : Nat, (if z = "and" then 48 else 49) = s → N ⟨[some (.pu (.tup [DS' z, DI' i, DI' j])), some (.pu (.lst (bs.map fun c => DS' (sign c)))), some (.pu (DS' (sign a))), some (.pu (DS' (sign b))), some (.pu (DS' (sign s)))], [.pu (.tup [DS' z, DI' i, DI' j]), .pu (.lst (bs.map fun c => DS' (sign c)))]⟩ := fun s hs => by
      rw [hs] at q
      show N _; rw [hN]; clear hN N
      refine seq_o fun N hN => ?_
      walk_at "d-run"
      refine ⟨by decide, cS_i (a := [V.str (sign a), V.str (sign b)]) rfl ?_⟩
      walk_at "d-run"
      refine ⟨rfl, ?_⟩
      have e : (false ^^ inV (V.str (sign s)) [V.str (sign a), V.str (sign b)]) = decide (a = s ∨ b = s) := by
        simp only [inV, eqV, List.any_cons, List.any_nil, Bool.false_xor, Bool.or_false, beq_sign]
        by_cases h1 : a = s <;> by_cases h2 : b = s <;> simp [h1, h2]
      rw [e]
      by_cases h : a = s ∨ b = s
      · rw [if_pos h] at q
        refine cB_y (decide_eq_true h) ?_
        walk_at "d-run"
        exact q
      · rw [if_neg h] at q
        refine cB_n (decide_eq_false h) ?_
        walk_at "d-run"
        show N _; rw [hN]; clear hN N
        walk_at "d-run"
        refine ⟨rfl, ?_⟩
        by_cases h2 : a = b
        · rw [if_pos h2] at q
          refine cB_y (by simp [h2]) ?_
          walk_at "d-run"
          exact q
        · rw [if_neg h2] at q
          refine cB_n (by simp [sign_inj, h2]) ?_
          walk_at "d-run"
          exact q
    by_cases ha : z = "and"
    · refine cB_y (by simp [ha]) ?_
      walk_at "d-run"
      exact key 48 (if_pos ha)
    · refine cB_n (by simp [ha]) ?_
      walk_at "d-run"
      exact key 49 (if_neg ha)
theorem c_told {d : D} {bs : List Nat} {Q : Wv → List Wv → Prop} {Y : Value → List Wv → Prop} (hg : gateB d bs.length = true) (hb : bitsL bs) (l : bs.length ≤ 200000) (q : Q (.pu (DS' (sign (toldB d bs)))) [.pu d, .pu (.lst (bs.map fun c => DS' (sign c)))]) : sp_told_by K [.pu d, .pu (.lst (bs.map fun c => DS' (sign c)))] Q Y := by
  refine call_ok (ds := [d, .lst (bs.map fun c => DS' (sign c))]) rfl rfl ⟨d, bs, rfl, hg, hb, l⟩ ?_
  simp only [List.getD_cons_zero, List.getD_cons_succ, bitsOf_map]
  exact ⟨trivial, q⟩
end
end Lw

/-! text QNc -/
set_option Elab.async false
set_option linter.all false
set_option maxRecDepth 100000
set_option maxHeartbeats 4000000
namespace Lw
open PySem PySem.Spec PyProof.Rows L2 DL
section
variable {P : Program} {w : World} {base : Heap} {K : PySem.W.Frag} {ws : List Wv} {Q : Wv → List Wv → Prop} {Y : Value → List Wv → Prop} {mg : Str → Option Value}
local macro_rules | `(tactic| walk_at "d-run") => `(tactic| try simp only [↓y_dSeq, ↓y_dC, ↓y_dG, ↓y_dOp, ↓y_dUn, ↓y_dNil, ↓y_dCons, ↓y_dCallP, ↓y_dTst, ↓y_dAnd, ↓y_dOr, ↓y_dNot, ↓y_dAndV, ↓y_dOrV, ↓y_dNotV, ↓y_dIf, ↓y_dFz, ↓y_dTup, ↓y_dLst, ↓y_dCall, ↓y_dLam, ↓y_dNext, ↓y_dBrk, ↓y_dCnt, ↓y_dDrop, ↓y_dRet, ↓y_dRetN, ↓y_dIfS, ↓y_dSet, ↓y_dgName, ↓y_dgNil, ↓y_dgCons, ↓y_dgTup, ↓y_dgLst, ↓y_dgTxt, ↓y_dAsg, ↓y_dIt, ↓y_dRng1, ↓y_dRng2, ↓y_dEnum, ↓y_dZip, ↓y_dFor, ↓y_dRaise, ↓y_dLc, ↓y_dLc2, ↓y_dYes, ↓y_dNewD, ↓y_dMi, ↓y_dMs, ↓y_dMl, ↓y_dgSet, ↓y_dPar, ↓y_dONo, ↓y_dOSome, ↓y_dSl, ↓y_dChain, ↓y_subP, ↓y_divP, ↓y_modP, ↓y_powP, ↓y_ltP, ↓y_leP, ↓y_gtP, ↓y_geP, ↓y_addP_i, ↓y_addP_s, ↓y_addP_l, ↓y_addP_t, ↓y_mulP_i, ↓y_mulP_s, ↓y_mulP_l, ↓y_mulP_t, ↓y_eqP_s, ↓y_eqP_ll, ↓y_eqP_lt, ↓y_eqP_ls, ↓y_eqP_ld, ↓y_eqP_tl, ↓y_eqP_tt, ↓y_eqP_ts, ↓y_eqP_td, ↓y_eqP_sl, ↓y_eqP_st, ↓y_eqP_sd, ↓y_eqP_dl, ↓y_eqP_dt, ↓y_eqP_ds, ↓y_eqP_dd, ↓y_inP_s, ↓y_inP_t, ↓y_inP_l, ↓y_isNP_s, ↓y_isNP_t, ↓y_isNP_l, ↓y_isNP_d, ↓y_isBP, ↓y_ixP_l, ↓y_ixP_t, ↓y_ixP_s, ↓y_lenP, ↓y_isiP, ↓y_allP, ↓y_anyP, ↓y_intP_i, ↓y_intP_b, ↓y_listP_l, ↓y_listP_t, ↓y_tupleP_l, ↓y_tupleP_t, ↓y_sortedSP, ↓y_reprP, ↓y_negP, ↓y_revP_s, ↓y_revP_l, ↓y_slP_l, ↓y_slP_t, ↓y_slP_r, ↓y_slP_s, ↓y_findP, ↓y_countP, ↓y_joinP, ↓y_lcountP_s, ↓y_lcountP_i, ↓y_appP, ↓y_insP, ↓kc_q, ↓kc_y, ↓k1_k, ↓k2_k, ↓k0_k, ↓kb_a, ↓kb_b, ↓cS_some, ↓cB_t, ↓cB_f, ↓cBl_i, ↓cInt_i, ↓cSD_i, ↓cLD_i, ↓cLM_i, ↓dLM_i, ↓cBw_i, ↓cPair_i, ↓cOne_i, ↓cI1_i, ↓cI2_i, ↓cTup_i, ↓cLst_i, ↓cTxt_i, ↓cCons_i, ↓cNil_i, ↓dVar, DS.put, DS.wipe, DS.rest, wipeL, restL, val, slD, vals, frz1, put1, out1, pures, dargs, dback, getM, setM, M.frz, start0, par, dEnds, isRes, itemsD, tyD, lenD, dLSet, dLRg, ↓y_inTabP, ↓y_ixTabP, ↓y_eqEP, ↓y_strP, ↓y_revP_t, ↓y_list2P_l, ↓y_list2P_t, ↓y_list2P_s, ↓y_reprP2, ↓y_dDGet, ↓y_dUpper, ↓y_dIsiT, ↓y_dCallB, strO, tyO, scO, List.getElem?_cons_zero, List.getElem?_cons_succ, List.set_cons_zero, List.set_cons_succ, List.cons_append, List.nil_append, List.replicate_succ, List.replicate_zero, List.length_cons, List.length_nil, Option.some.injEq, exists_eq_left', exists_eq_left, Wv.pu.injEq, D.sc.injEq, V.bl.injEq, V.int.injEq, V.str.injEq, Nat.reduceSub, Nat.reduceAdd, List.cons.injEq, and_true, true_and, exists_and_left, Option.map_some, if_true, if_false, Bool.false_eq_true, exists_eq_right, ex2a, ex2b, ex2c, D.tup.injEq, D.lst.injEq, M.lst.injEq, eq_self])
structure Net (d : D) (n : Nat) (gs os : List D) : Prop where
  eq : d = .tup [DI' (n : Int), .tup gs, .tup os]
  n1 : 1 ≤ n
  n32 : n ≤ 32
  gl : gs.length ≤ 100000
  gate : ∀ k, k < gs.length → gateB (gs.getD k DN') ((n : Int) + (k : Int)) = true
  o1 : 1 ≤ os.length
  o32 : os.length ≤ 32
  out : ∀ x ∈ os, ∃ i : Int, x = DI' i ∧ 0 ≤ i ∧ i ≤ (n : Int) + gs.length - 1
theorem net_of {d : D} (h : netB d = true) : ∃ n gs os, Net d n gs os := by
  by_cases hd : ∃ a b c, d = .tup [a, b, c]
  · obtain ⟨a, b, c, rfl⟩ := hd
    by_cases hb : ∃ gs, b = .tup gs
    · obtain ⟨gs, rfl⟩ := hb
      rw [netB_3] at h
      simp only [Bool.and_eq_true, decide_eq_true_eq] at h
      obtain ⟨⟨⟨h1, h2⟩, h3⟩, h4⟩ := h
      obtain ⟨i, rfl, i1, i2⟩ := isNum_int h1
      obtain ⟨n, rfl⟩ : ∃ n : Nat, i = (n : Int) := ⟨i.toNat, by omega⟩
      by_cases hc : ∃ os, c = .tup os
      · obtain ⟨os, rfl⟩ := hc
        have ho : outsB (.tup os) (numOf (DI' (n : Int)) + gs.length) = (decide (1 ≤ os.length) && decide (os.length ≤ 32) && os.all fun x => isNum x 0 ((n : Int) + gs.length - 1)) := rfl
        rw [ho] at h4
        simp only [Bool.and_eq_true, decide_eq_true_eq, List.all_eq_true] at h4
        obtain ⟨⟨o1, o2⟩, o3⟩ := h4
        refine ⟨n, gs, os, rfl, by omega, by omega, h2, fun k hk => ?_, o1, o2, fun x hx => isNum_int (o3 x hx)⟩
        exact List.all_eq_true.mp h3 k (List.mem_range.mpr hk)
      · rw [outsB_no fun os e => hc ⟨os, e⟩] at h4
        cases h4
    · rw [netB_no2 fun gs e => hb ⟨gs, e⟩] at h
      cases h
  · rw [netB_no fun a b c e => hd ⟨a, b, c, e⟩] at h
    cases h
theorem told_bit {d : D} {bs : List Nat} (hg : gateB d bs.length = true) (hb : bitsL bs) : isBit (sign (toldB d bs)) = true := by
  have b48 : isBit (sign 48) = true := by decide
  have b49 : isBit (sign 49) = true := by decide
  have b63 : isBit (sign 63) = true := by decide
  rcases gate_cases hg with ⟨z, hz, rfl⟩ | ⟨i, rfl, i1, i2⟩ | ⟨z, i, j, hz, rfl, ⟨i1, i2⟩, j1, j2⟩
  · rcases hz with rfl | rfl
    · exact b48
    · exact b49
  · have tq : toldB (.tup [DS' "not", DI' i]) bs = if bs.getD i.toNat 0 = 48 then 49 else if bs.getD i.toNat 0 = 49 then 48 else 63 := rfl
    rw [tq]
    split
    · exact b49
    · split
      · exact b48
      · exact b63
  · have hi := getD_bit hb (show i.toNat < bs.length by omega)
    have tq : toldB (.tup [DS' z, DI' i, DI' j]) bs = if bs.getD i.toNat 0 = (if z = "and" then 48 else 49) ∨ bs.getD j.toNat 0 = (if z = "and" then 48 else 49) then (if z = "and" then 48 else 49) else if bs.getD i.toNat 0 = bs.getD j.toNat 0 then bs.getD i.toNat 0 else 63 := rfl
    rw [tq]
    have hs : isBit (sign (if z = "and" then 48 else 49)) = true := by
      split
      · exact b48
      · exact b49
    generalize (if z = "and" then 48 else 49) = s at hs
    split
    · exact hs
    · split
      · exact hi
      · exact b63
theorem runB_snoc (gs : List D) (g : D) (bs : List Nat) : runB (gs ++ [g]) bs = runB gs bs ++ [toldB g (runB gs bs)] := by
  unfold runB
  rw [List.foldl_append]
  rfl
theorem getD_mid {p r : List D} {x : D} : (p ++ x :: r).getD p.length DN' = x := by
  rw [List.getD_eq_getElem?_getD, List.getElem?_append_right (Nat.le_refl _), Nat.sub_self]
  rfl
/-- what stands behind the first gates -/
theorem Net.run {d : D} {n : Nat} {gs os : List D} (t : Net d n gs os) {w : Str} (wl : w.length = n) (wb : bitsS w) : ∀ p r, gs = p ++ r → (runB p w.cps.toList).length = n + p.length ∧ bitsL (runB p w.cps.toList) := by
  intro p
  induction p using snoc_ind with
  | h0 => exact fun r _ => ⟨by show w.cps.toList.length = _; rw [len_cps, wl]; rfl, wb⟩
  | h1 p x ih =>
    intro r e
    obtain ⟨h1, h2⟩ := ih (x :: r) (by rw [e, List.append_assoc]; rfl)
    have hg := t.gate p.length (by rw [e, List.append_assoc, List.length_append]; simp)
    rw [e, List.append_assoc] at hg
    rw [show ([x] ++ r : List D) = x :: r from rfl, getD_mid] at hg
    rw [show ((n : Int) + (p.length : Int)) = (((runB p w.cps.toList).length : Nat) : Int) by rw [h1]; omega] at hg
    rw [runB_snoc, List.length_append, List.length_append, h1]
    refine ⟨by simp; omega, fun c hc => ?_⟩
    rcases List.mem_append.mp hc with hc | hc
    · exact h2 c hc
    · rw [List.mem_singleton.mp hc]
      exact told_bit hg h2
theorem r_raw_run (h : sp_raw_run K ws Q Y) : t_raw_run K (dEnds Q Y) (start0 N_raw_run ws) := by
  obtain ⟨ds, e, hl, ⟨d, w, rfl, hn, wb, wl⟩, q⟩ := h
  have := pures_len e; subst this
  have q := q.2
  obtain ⟨n, gs, os, t⟩ := net_of hn
  have te := t.eq
  subst te
  have wl : w.length = n := by rw [wl]; show ((n : Int)).toNat = n; omega
  simp only [List.map_cons, List.map_nil, t_raw_run, N_raw_run, List.getD_cons_zero, List.getD_cons_succ] at q ⊢
  have sl9 : 200000 ≤ sizeLine := by decide
  have n32 := t.n32
  have gl := t.gl
  refine seq_o fun N hN => ?_
  walk_at "d-run"
  refine ⟨by omega, ?_⟩
  show N _; rw [hN]; clear hN N
  refine seq_o fun N hN => ?_
  refine for_a fun T hT => ?_
  walk_at "d-run"
  refine cS_i (a := .tup gs) (by rfl) ?_
  walk_at "d-run"
  have fp := for_pre (gt := dgName 3) (tb := T) (g := fun d : D => d) (xs := gs) (E := { nx := N, rt := fun w δ => isRes w ∧ Q w δ.an, ex := fun c δ => Y c δ.an })
    (fun p δ => ∃ s3, δ = ⟨[some (.pu (.tup [DI' (n : Int), .tup gs, .tup os])), some (.pu (DS' w)), some (.ow (.lst ((runB p w.cps.toList).map fun c => DS' (sign c)))), s3, none], [.pu (.tup [DI' (n : Int), .tup gs, .tup os]), .pu (DS' w)]⟩)
    (δ := ⟨[some (.pu (.tup [DI' (n : Int), .tup gs, .tup os])), some (.pu (DS' w)), some (.ow (.lst (w.cps.toList.map fun c => DS' (sign c)))), none, none], [.pu (.tup [DI' (n : Int), .tup gs, .tup os]), .pu (DS' w)]⟩) ⟨none, rfl⟩
  rw [List.map_id'] at fp
  refine fp (fun p x r δ K1 hk hI next => ?_) fun δ hI => ?_
  · obtain ⟨s3, rfl⟩ := hI
    obtain ⟨h1, h2⟩ := t.run wl wb p (x :: r) hk
    have hg := t.gate p.length (by rw [hk, List.length_append]; simp)
    rw [hk, getD_mid] at hg
    rw [show ((n : Int) + (p.length : Int)) = (((runB p w.cps.toList).length : Nat) : Int) by rw [h1]; omega] at hg
    have pl : p.length + 1 ≤ gs.length := by rw [hk, List.length_append]; simp
    rw [hT]
    walk_at "d-run"
    refine c_told hg h2 (by omega) ?_
    walk_at "d-run"
    refine ⟨by rw [List.length_map]; omega, next _ ⟨some (.pu x), ?_⟩⟩
    rw [runB_snoc, List.map_append]
    rfl
  · obtain ⟨s3, rfl⟩ := hI
    obtain ⟨h1, h2⟩ := t.run wl wb gs [] (by simp)
    clear fp
    show N _; rw [hN]; clear hN N
    walk_at "d-run"
    refine cS_i (a := .tup os) (by rfl) ?_
    walk_at "d-run"
    refine comp_map (fun o => DS' (sign ((runB gs w.cps.toList).getD (numOf o).toNat 0))) os [] _ (fun o ho K2 k => ?_) (by rw [List.length_nil, Nat.zero_add]; have := t.o32; omega) ?_
    · obtain ⟨i, rfl, i0, i1⟩ := t.out o ho
      walk_at "d-run"
      refine cS_i (at_bits i0 (by rw [h1]; omega)) ?_
      walk_at "d-run"
      exact k _ rfl
    · walk_at "d-run"
      have e1 : (os.map fun o => DS' (sign ((runB gs w.cps.toList).getD (numOf o).toNat 0))) = ((os.map fun o => (runB gs w.cps.toList).getD (numOf o).toNat 0).map sign).map fun z => DS' z := by
        rw [List.map_map, List.map_map]
        rfl
      rw [e1]
      refine cS_i (strs_mapF _) ?_
      walk_at "d-run"
      rw [join_sum]
      refine ⟨by rw [List.length_map]; have := t.o32; omega, ?_⟩
      rw [join_signs]
      exact q
theorem c_need_net {d : D} {Q : Wv → List Wv → Prop} {Y : Value → List Wv → Prop} (h : okB d = true) (q : netB d = true → Q (.pu DN') [.pu d]) (y : netB d = false → Y (.ref (He.ga K "NoNet")) [.pu d]) : sp_need_net K [.pu d] Q Y := by
  refine call_ok (ds := [d]) rfl rfl (fun x hx => by rw [List.mem_singleton.mp hx]; exact h) ?_
  simp only [List.headD_cons]
  by_cases hn : netB d = true
  · simp only [hn, if_true]
    exact ⟨trivial, q hn⟩
  · have hn : netB d = false := by simpa using hn
    simp only [hn, Bool.false_eq_true, if_false]
    exact y hn
theorem c_need_word2 {d : D} {Q : Wv → List Wv → Prop} {Y : Value → List Wv → Prop} (h : okB d = true) (q : isWD d = true → Q (.pu DN') [.pu d]) (y : isWD d = false → Y (.ref (He.ga K "NoWord")) [.pu d]) : sp_need_word K [.pu d] Q Y := by
  refine call_ok (ds := [d]) rfl rfl (fun x hx => by rw [List.mem_singleton.mp hx]; exact okB_thing h) ?_
  simp only [List.headD_cons]
  by_cases hn : isWD d = true
  · simp only [hn, if_true]
    exact ⟨trivial, q hn⟩
  · have hn : isWD d = false := by simpa using hn
    simp only [hn, Bool.false_eq_true, if_false]
    exact y hn
theorem r_run (h : sp_run K ws Q Y) : t_run K (dEnds Q Y) (start0 N_run ws) := by
  obtain ⟨ds, e, hl, hp, q⟩ := h
  obtain ⟨d, w, rfl⟩ := len2 hl
  have ok1 := hp d (by simp)
  have ok2 := hp w (by simp)
  have := pures_len e; subst this
  simp only [List.map_cons, List.map_nil, t_run, N_run, List.getD_cons_zero, List.getD_cons_succ] at q ⊢
  refine seq_o fun N hN => ?_
  walk_at "d-run"
  refine c_need_net ok1 (fun hn => ?_) fun hn => ?_
  · simp only [hn, if_true] at q
    walk_at "d-run"
    show N _; rw [hN]; clear hN N
    refine seq_o fun N hN => ?_
    walk_at "d-run"
    refine c_need_word2 ok2 (fun hw => ?_) fun hw => ?_
    · simp only [hw, if_true] at q
      obtain ⟨z, rfl⟩ : ∃ z : Str, w = DS' z := by
        cases w with
        | sc v => cases v <;> first | exact ⟨_, rfl⟩ | cases hw
        | _ => cases hw
      have zw : isW z = true := hw
      obtain ⟨n, gs, os, t⟩ := net_of hn
      have te := t.eq
      subst te
      have hi : inOf (.tup [DI' (n : Int), .tup gs, .tup os]) = n := by show ((n : Int)).toNat = n; omega
      rw [hi] at q
      walk_at "d-run"
      show N _; rw [hN]; clear hN N
      refine seq_o fun N hN => ?_
      walk_at "d-run"
      have bz := isW_bits zw
      refine cS_i (if_pos (small_sl (by omega))) ?_
      walk_at "d-run"
      refine cS_i (at0 _ _) ?_
      walk_at "d-run"
      refine ⟨rfl, ?_⟩
      by_cases hz : z.length = n
      · rw [if_pos (show (str (DS' z)).length = n from hz)] at q
        refine cB_n (by simp [hz]) ?_
        walk_at "d-run"
        show N _; rw [hN]; clear hN N
        walk_at "d-run"
        refine call_ok (ds := [.tup [DI' (n : Int), .tup gs, .tup os], DS' z]) rfl rfl ⟨_, z, rfl, hn, bz.2.2, by rw [hi]; exact hz⟩ ?_
        simp only [List.getD_cons_zero, List.getD_cons_succ]
        refine ⟨trivial, ?_⟩
        walk_at "d-run"
        exact q.2
      · rw [if_neg (show ¬ (str (DS' z)).length = n from hz)] at q
        refine cB_y (by simp; omega) ?_
        walk_at "d-run"
        exact q
    · simp only [hw, Bool.false_eq_true, if_false] at q
      walk_at "d-run"
      exact q
  · simp only [hn, Bool.false_eq_true, if_false] at q
    walk_at "d-run"
    exact q
end
end Lw

/-! text Q32a -/
set_option Elab.async false
set_option linter.all false
set_option maxRecDepth 100000
set_option maxHeartbeats 4000000
namespace Lw
open PySem PySem.Spec PyProof.Rows L2 DL
section
variable {P : Program} {w : World} {base : Heap} {K : PySem.W.Frag} {ws : List Wv} {Q : Wv → List Wv → Prop} {Y : Value → List Wv → Prop} {mg : Str → Option Value}
local macro_rules | `(tactic| walk_at "d-run") => `(tactic| try simp only [↓y_dSeq, ↓y_dC, ↓y_dG, ↓y_dOp, ↓y_dUn, ↓y_dNil, ↓y_dCons, ↓y_dCallP, ↓y_dTst, ↓y_dAnd, ↓y_dOr, ↓y_dNot, ↓y_dAndV, ↓y_dOrV, ↓y_dNotV, ↓y_dIf, ↓y_dFz, ↓y_dTup, ↓y_dLst, ↓y_dCall, ↓y_dLam, ↓y_dNext, ↓y_dBrk, ↓y_dCnt, ↓y_dDrop, ↓y_dRet, ↓y_dRetN, ↓y_dIfS, ↓y_dSet, ↓y_dgName, ↓y_dgNil, ↓y_dgCons, ↓y_dgTup, ↓y_dgLst, ↓y_dgTxt, ↓y_dAsg, ↓y_dIt, ↓y_dRng1, ↓y_dRng2, ↓y_dEnum, ↓y_dZip, ↓y_dFor, ↓y_dRaise, ↓y_dLc, ↓y_dLc2, ↓y_dYes, ↓y_dNewD, ↓y_dMi, ↓y_dMs, ↓y_dMl, ↓y_dgSet, ↓y_dPar, ↓y_dONo, ↓y_dOSome, ↓y_dSl, ↓y_dChain, ↓y_subP, ↓y_divP, ↓y_modP, ↓y_powP, ↓y_ltP, ↓y_leP, ↓y_gtP, ↓y_geP, ↓y_addP_i, ↓y_addP_s, ↓y_addP_l, ↓y_addP_t, ↓y_mulP_i, ↓y_mulP_s, ↓y_mulP_l, ↓y_mulP_t, ↓y_eqP_s, ↓y_eqP_ll, ↓y_eqP_lt, ↓y_eqP_ls, ↓y_eqP_ld, ↓y_eqP_tl, ↓y_eqP_tt, ↓y_eqP_ts, ↓y_eqP_td, ↓y_eqP_sl, ↓y_eqP_st, ↓y_eqP_sd, ↓y_eqP_dl, ↓y_eqP_dt, ↓y_eqP_ds, ↓y_eqP_dd, ↓y_inP_s, ↓y_inP_t, ↓y_inP_l, ↓y_isNP_s, ↓y_isNP_t, ↓y_isNP_l, ↓y_isNP_d, ↓y_isBP, ↓y_ixP_l, ↓y_ixP_t, ↓y_ixP_s, ↓y_lenP, ↓y_isiP, ↓y_allP, ↓y_anyP, ↓y_intP_i, ↓y_intP_b, ↓y_listP_l, ↓y_listP_t, ↓y_tupleP_l, ↓y_tupleP_t, ↓y_sortedSP, ↓y_reprP, ↓y_negP, ↓y_revP_s, ↓y_revP_l, ↓y_slP_l, ↓y_slP_t, ↓y_slP_r, ↓y_slP_s, ↓y_findP, ↓y_countP, ↓y_joinP, ↓y_lcountP_s, ↓y_lcountP_i, ↓y_appP, ↓y_insP, ↓kc_q, ↓kc_y, ↓k1_k, ↓k2_k, ↓k0_k, ↓kb_a, ↓kb_b, ↓cS_some, ↓cB_t, ↓cB_f, ↓cBl_i, ↓cInt_i, ↓cSD_i, ↓cLD_i, ↓cLM_i, ↓dLM_i, ↓cBw_i, ↓cPair_i, ↓cOne_i, ↓cI1_i, ↓cI2_i, ↓cTup_i, ↓cLst_i, ↓cTxt_i, ↓cCons_i, ↓cNil_i, ↓dVar, DS.put, DS.wipe, DS.rest, wipeL, restL, val, slD, vals, frz1, put1, out1, pures, dargs, dback, getM, setM, M.frz, start0, par, dEnds, isRes, itemsD, tyD, lenD, dLSet, dLRg, ↓y_inTabP, ↓y_ixTabP, ↓y_eqEP, ↓y_strP, ↓y_revP_t, ↓y_list2P_l, ↓y_list2P_t, ↓y_list2P_s, ↓y_reprP2, ↓y_dDGet, ↓y_dUpper, ↓y_dIsiT, ↓y_dCallB, strO, tyO, scO, List.getElem?_cons_zero, List.getElem?_cons_succ, List.set_cons_zero, List.set_cons_succ, List.cons_append, List.nil_append, List.replicate_succ, List.replicate_zero, List.length_cons, List.length_nil, Option.some.injEq, exists_eq_left', exists_eq_left, Wv.pu.injEq, D.sc.injEq, V.bl.injEq, V.int.injEq, V.str.injEq, Nat.reduceSub, Nat.reduceAdd, List.cons.injEq, and_true, true_and, exists_and_left, Option.map_some, if_true, if_false, Bool.false_eq_true, exists_eq_right, ex2a, ex2b, ex2c, D.tup.injEq, D.lst.injEq, M.lst.injEq, eq_self])
theorem r__law_is_number (h : sp__law_is_number K ws Q Y) : t__law_is_number K (dEnds Q Y) (start0 N__law_is_number ws) := by
  obtain ⟨ds, e, hl, ⟨d, a, b, rfl, ok⟩, q⟩ := h
  have := pures_len e; subst this
  have q := q.2
  exact r_is_within_bounds (K := K) (c_bounds (K := K) ok q)
theorem r__law_told (h : sp__law_told K ws Q Y) : t__law_told K (dEnds Q Y) (start0 N__law_told ws) := by
  obtain ⟨ds, e, hl, ⟨z, s, rfl, hk⟩, q⟩ := h
  have := pures_len e; subst this
  have q := q.2
  simp only [List.map_cons, List.map_nil, t__law_told, N__law_told, List.getD_cons_zero, List.getD_cons_succ, show str (DS' z) = z from rfl, show str (DS' s) = s from rfl] at q ⊢
  rcases hk with ⟨rfl, hs⟩ | ⟨hz, hs⟩
  · refine seq_o fun N hN => ?_
    walk_at "d-run"
    refine ⟨rfl, cB_y (by simp) ?_⟩
    walk_at "d-run"
    simp only [List.mem_cons, List.not_mem_nil, or_false] at hs
    rcases hs with rfl | rfl
    · refine ⟨by decide, cS_i (a := 48) (by rfl) ?_⟩
      walk_at "d-run"
      refine ⟨rfl, cB_n (by decide +kernel) ?_⟩
      walk_at "d-run"
      exact q
    · refine ⟨by decide, cS_i (a := 49) (by rfl) ?_⟩
      walk_at "d-run"
      refine ⟨rfl, cB_y (by decide +kernel) ?_⟩
      walk_at "d-run"
      exact q
  · have nz : ¬ z = "not" := by rcases hz with rfl | rfl <;> decide +kernel
    refine seq_o fun N hN => ?_
    walk_at "d-run"
    refine ⟨rfl, cB_n (by simp [nz]) ?_⟩
    walk_at "d-run"
    show N _; rw [hN]; clear hN N
    refine seq_o fun N hN => ?_
    walk_at "d-run"
    refine ⟨rfl, ?_⟩
    rcases hz with rfl | rfl
    · refine cB_y (by simp) ?_
      walk_at "d-run"
      refine ⟨rfl, ?_⟩
      by_cases h : s = "11"
      · refine cB_y (by simp [h]) ?_
        walk_at "d-run"
        rw [h] at q ⊢
        exact q
      · have e : toldS "and" s = "0" := by
          unfold toldS
          rw [if_neg (by decide +kernel), if_pos rfl, if_neg h]
        rw [e] at q
        refine cB_n (by simp [h]) ?_
        walk_at "d-run"
        exact q
    · refine cB_n (by decide +kernel) ?_
      walk_at "d-run"
      show N _; rw [hN]; clear hN N
      walk_at "d-run"
      refine ⟨rfl, ?_⟩
      by_cases h : s = "00"
      · refine cB_y (by simp [h]) ?_
        walk_at "d-run"
        rw [h] at q ⊢
        exact q
      · have e : toldS "or" s = "1" := by
          unfold toldS
          rw [if_neg (by decide +kernel), if_neg (by decide +kernel), if_neg h]
        rw [e] at q
        refine cB_n (by simp [h]) ?_
        walk_at "d-run"
        exact q
theorem pd_ones {α : Type} (xs : List α) : toPD (.lst (xs.map fun _ => DI' 1)) = some (.list (xs.map fun _ => .int 1)) := by
  have : ∀ xs : List α, toPDs (xs.map fun _ => DI' 1) = some (xs.map fun _ => PyData.int 1) := fun xs => by
    induction xs with
    | nil => rfl
    | cons x xs ih => simp [toPDs, toPD, ih]
  simp [toPD, this]
theorem sp_ones {α : Type} (xs : List α) : SeqAt.shaped (.list (xs.map fun _ => .int 1)) = true := by
  have key : PyData.canLayAll0 (xs.map fun _ => PyData.int 1) = true ∧ PyData.depthAll (xs.map fun _ => PyData.int 1) ≤ 1 := by
    induction xs with
    | nil => exact ⟨rfl, by simp [PyData.depthAll]⟩
    | cons n ns ih => exact ⟨by simp [PyData.canLayAll0, PyData.canLay0, ih.1], by simp only [List.map_cons, PyData.depthAll, PyData.depth]; omega⟩
  unfold SeqAt.shaped
  rw [Bool.and_eq_true, decide_eq_true_eq]
  exact ⟨key.1, by simp only [PyData.depth]; omega⟩
theorem eqv_ones {α : Type} (xs : List α) : PyData.eqv (.list (xs.map fun _ => .int 1)) (.list []) = xs.isEmpty := by
  rw [PyData.eqv]
  cases xs with
  | nil => rfl
  | cons x xs => simp [PyData.eqvAll]
theorem r__law_is_within (h : sp__law_is_within K ws Q Y) : t__law_is_within K (dEnds Q Y) (start0 N__law_is_within ws) := by
  obtain ⟨ds, e, hl, ⟨a, b, rfl, hab, h32⟩, q⟩ := h
  have := pures_len e; subst this
  have q := q.2
  simp only [List.map_cons, List.map_nil, t__law_is_within, N__law_is_within, List.getD_cons_zero, List.getD_cons_succ] at q ⊢
  have la := len_cps a
  have lb := len_cps b
  walk_at "d-run"
  refine ⟨fun z => z.elim, ?_⟩
  rw [zipD_map]
  refine comp_fx (fun p : Nat × Nat => !(p.2 == 63) && !(p.2 == p.1)) (fun _ => DI' 1) (a.cps.toList.zip b.cps.toList) [] _ (fun p hp K2 k => ?_) (by rw [List.length_zip, List.length_nil]; exact small_sl (by omega)) ?_
  · walk_at "d-run"
    refine ⟨rfl, ?_⟩
    have e63 : (sign p.2 = Str.ofString "?") ↔ p.2 = 63 := sign_inj (b := 63)
    by_cases h1 : p.2 = 63
    · refine cB_n (by rw [decide_eq_true (e63.mpr h1)]; rfl) ?_
      walk_at "d-run"
      have ep : (!(p.2 == 63) && !(p.2 == p.1)) = false := by simp [h1]
      rw [ep] at k
      exact k _ rfl fun z => by cases z
    · refine cB_y (by rw [decide_eq_false fun z => h1 (e63.mp z)]; rfl) ?_
      walk_at "d-run"
      refine ⟨rfl, ?_⟩
      have ep : (!(p.2 == 63) && !(p.2 == p.1)) = (true ^^ decide (sign p.2 = sign p.1)) := by
        rw [Bool.true_xor]
        by_cases h2 : p.2 = p.1 <;> simp [h1, h2, sign_inj]
      rw [ep] at k
      refine k _ rfl fun _ K5 k5 => ?_
      walk_at "d-run"
      exact k5 _ rfl
  · walk_at "d-run"
    refine ⟨Nat.zero_le _, ?_⟩
    refine cS_i (pd_ones _) ?_
    walk_at "d-run"
    refine cS_i (a := PyData.list []) rfl ?_
    walk_at "d-run"
    refine ⟨⟨sp_ones _, rfl⟩, ?_⟩
    rw [eqv_ones]
    have e : (false ^^ ((a.cps.toList.zip b.cps.toList).filter fun p => !(p.2 == 63) && !(p.2 == p.1)).isEmpty) = within a.cps.toList b.cps.toList := by
      rw [Bool.false_xor]
      unfold within
      generalize a.cps.toList.zip b.cps.toList = l
      induction l with
      | nil => rfl
      | cons p l ih =>
        rw [List.all_cons, ← ih]
        cases h1 : p.2 == 63 <;> cases h2 : p.2 == p.1 <;> simp [h1, h2]
    rw [e]
    exact q
end
end Lw

/-! text Q32b -/
set_option Elab.async false
set_option linter.all false
set_option maxRecDepth 100000
set_option maxHeartbeats 4000000
namespace Lw
open PySem PySem.Spec PyProof.Rows L2 DL
section
variable {P : Program} {w : World} {base : Heap} {K : PySem.W.Frag} {ws : List Wv} {Q : Wv → List Wv → Prop} {Y : Value → List Wv → Prop} {mg : Str → Option Value}
local macro_rules | `(tactic| walk_at "d-run") => `(tactic| try simp only [↓y_dSeq, ↓y_dC, ↓y_dG, ↓y_dOp, ↓y_dUn, ↓y_dNil, ↓y_dCons, ↓y_dCallP, ↓y_dTst, ↓y_dAnd, ↓y_dOr, ↓y_dNot, ↓y_dAndV, ↓y_dOrV, ↓y_dNotV, ↓y_dIf, ↓y_dFz, ↓y_dTup, ↓y_dLst, ↓y_dCall, ↓y_dLam, ↓y_dNext, ↓y_dBrk, ↓y_dCnt, ↓y_dDrop, ↓y_dRet, ↓y_dRetN, ↓y_dIfS, ↓y_dSet, ↓y_dgName, ↓y_dgNil, ↓y_dgCons, ↓y_dgTup, ↓y_dgLst, ↓y_dgTxt, ↓y_dAsg, ↓y_dIt, ↓y_dRng1, ↓y_dRng2, ↓y_dEnum, ↓y_dZip, ↓y_dFor, ↓y_dRaise, ↓y_dLc, ↓y_dLc2, ↓y_dYes, ↓y_dNewD, ↓y_dMi, ↓y_dMs, ↓y_dMl, ↓y_dgSet, ↓y_dPar, ↓y_dONo, ↓y_dOSome, ↓y_dSl, ↓y_dChain, ↓y_subP, ↓y_divP, ↓y_modP, ↓y_powP, ↓y_ltP, ↓y_leP, ↓y_gtP, ↓y_geP, ↓y_addP_i, ↓y_addP_s, ↓y_addP_l, ↓y_addP_t, ↓y_mulP_i, ↓y_mulP_s, ↓y_mulP_l, ↓y_mulP_t, ↓y_eqP_s, ↓y_eqP_ll, ↓y_eqP_lt, ↓y_eqP_ls, ↓y_eqP_ld, ↓y_eqP_tl, ↓y_eqP_tt, ↓y_eqP_ts, ↓y_eqP_td, ↓y_eqP_sl, ↓y_eqP_st, ↓y_eqP_sd, ↓y_eqP_dl, ↓y_eqP_dt, ↓y_eqP_ds, ↓y_eqP_dd, ↓y_inP_s, ↓y_inP_t, ↓y_inP_l, ↓y_isNP_s, ↓y_isNP_t, ↓y_isNP_l, ↓y_isNP_d, ↓y_isBP, ↓y_ixP_l, ↓y_ixP_t, ↓y_ixP_s, ↓y_lenP, ↓y_isiP, ↓y_allP, ↓y_anyP, ↓y_intP_i, ↓y_intP_b, ↓y_listP_l, ↓y_listP_t, ↓y_tupleP_l, ↓y_tupleP_t, ↓y_sortedSP, ↓y_reprP, ↓y_negP, ↓y_revP_s, ↓y_revP_l, ↓y_slP_l, ↓y_slP_t, ↓y_slP_r, ↓y_slP_s, ↓y_findP, ↓y_countP, ↓y_joinP, ↓y_lcountP_s, ↓y_lcountP_i, ↓y_appP, ↓y_insP, ↓kc_q, ↓kc_y, ↓k1_k, ↓k2_k, ↓k0_k, ↓kb_a, ↓kb_b, ↓cS_some, ↓cB_t, ↓cB_f, ↓cBl_i, ↓cInt_i, ↓cSD_i, ↓cLD_i, ↓cLM_i, ↓dLM_i, ↓cBw_i, ↓cPair_i, ↓cOne_i, ↓cI1_i, ↓cI2_i, ↓cTup_i, ↓cLst_i, ↓cTxt_i, ↓cCons_i, ↓cNil_i, ↓dVar, DS.put, DS.wipe, DS.rest, wipeL, restL, val, slD, vals, frz1, put1, out1, pures, dargs, dback, getM, setM, M.frz, start0, par, dEnds, isRes, itemsD, tyD, lenD, dLSet, dLRg, ↓y_inTabP, ↓y_ixTabP, ↓y_eqEP, ↓y_strP, ↓y_revP_t, ↓y_list2P_l, ↓y_list2P_t, ↓y_list2P_s, ↓y_reprP2, ↓y_dDGet, ↓y_dUpper, ↓y_dIsiT, ↓y_dCallB, strO, tyO, scO, List.getElem?_cons_zero, List.getElem?_cons_succ, List.set_cons_zero, List.set_cons_succ, List.cons_append, List.nil_append, List.replicate_succ, List.replicate_zero, List.length_cons, List.length_nil, Option.some.injEq, exists_eq_left', exists_eq_left, Wv.pu.injEq, D.sc.injEq, V.bl.injEq, V.int.injEq, V.str.injEq, Nat.reduceSub, Nat.reduceAdd, List.cons.injEq, and_true, true_and, exists_and_left, Option.map_some, if_true, if_false, Bool.false_eq_true, exists_eq_right, ex2a, ex2b, ex2c, D.tup.injEq, D.lst.injEq, M.lst.injEq, eq_self])
theorem not_facts : ∀ a ∈ [48, 49, 63], (∀ z ∈ settle [a], z ∈ (["0", "1"] : List Str)) ∧ (settle [a]).length ≤ 4 ∧ (settle [a]).map (toldS "not") ≠ [] ∧ sameLen ((settle [a]).map (toldS "not")) = true ∧ (((settle [a]).map (toldS "not")).headD "").length ≤ 32 ∧
    joinAll ((settle [a]).map (toldS "not")) = sign (if a = 48 then 49 else if a = 49 then 48 else 63) := by decide +kernel
theorem two_facts : ∀ z ∈ (["and", "or"] : List Str), ∀ a ∈ [48, 49, 63], ∀ b ∈ [48, 49, 63], (∀ s ∈ settle [a, b], s ∈ (["00", "01", "10", "11"] : List Str)) ∧ (settle [a, b]).length ≤ 4 ∧ (settle [a, b]).map (toldS z) ≠ [] ∧ sameLen ((settle [a, b]).map (toldS z)) = true ∧ (((settle [a, b]).map (toldS z)).headD "").length ≤ 32 ∧
    joinAll ((settle [a, b]).map (toldS z)) = sign (if a = (if z = "and" then 48 else 49) ∨ b = (if z = "and" then 48 else 49) then (if z = "and" then 48 else 49) else if a = b then a else 63) := by decide +kernel
theorem bit_mem {c : Nat} (h : isBit (sign c) = true) : c ∈ [48, 49, 63] := by
  rcases bit_cases h with rfl | rfl | rfl <;> simp
theorem c_joined {zs : List Str} {Q : Wv → List Wv → Prop} {Y : Value → List Wv → Prop} (h1 : zs ≠ []) (h2 : zs.length ≤ 1000) (h3 : sameLen zs = true) (h4 : (zs.headD "").length ≤ 32) (q : Q (.pu (DS' (joinAll zs))) [.pu (.lst (zs.map fun z => DS' z))]) : sp__law_joined K [.pu (.lst (zs.map fun z => DS' z))] Q Y := by
  refine call_ok (ds := [.lst (zs.map fun z => DS' z)]) rfl rfl ⟨zs, rfl, h1, h2, h3, h4⟩ ?_
  simp only [List.headD_cons, lstrs_map]
  exact ⟨trivial, q⟩
theorem c_ltold {z s : Str} {Q : Wv → List Wv → Prop} {Y : Value → List Wv → Prop} (h : isKindS z s) (q : Q (.pu (DS' (toldS z s))) [.pu (DS' z), .pu (DS' s)]) : sp__law_told K [.pu (DS' z), .pu (DS' s)] Q Y :=
  call_ok (ds := [DS' z, DS' s]) rfl rfl ⟨z, s, rfl, h⟩ ⟨trivial, q⟩
theorem settled_asc {cs : List Nat} : strOf cs = strOf cs := rfl
/-- one gate, as the law sees it -/
theorem lr_body {x : D} {bs : List Nat} {s0 s1 s4 : Option Wv} {an : List Wv} {E : DEnds} (hg : gateB x bs.length = true) (hb : bitsL bs) (hl : bs.length ≤ 200000)
    (g : ∀ s3 s4, E.nx ⟨[s0, s1, some (.ow (.lst ((bs ++ [toldB x bs]).map fun c => DS' (sign c)))), s3, s4, none, none, none], an⟩) :
    dIfS (dTst (dOp (eqP false) (dCallP lenP (dCons (dVar 3) (dNil))) (dC (.int 1)))) (dDrop (dMi appP (dVar 2) (dCons (dFz (dOp ixP (dVar 3) (dC (.int 0)))) (dNil)))) (dSeq (dSet 4 (dMs joinP (dC (.str "")) (dCons (dLc (dIt (dSl slP (dVar 3) (dOSome (dC (.int 1))) dONo)) (dgName 5) (dYes) (dFz (dOp ixP (dVar 2) (dVar 5))) [5]) (dNil))))
  (dDrop (dMi appP (dVar 2) (dCons (dFz (dCall ((sp__law_joined K)) (dCons (dFz (dLc (dIt (dCall ((sp__law_settled K)) (dCons (dFz (dVar 4)) (dNil)))) (dgName 6) (dYes) (dFz (dCall ((sp__law_told K)) (dCons (dFz (dOp ixP (dVar 3) (dC (.int 0)))) (dCons (dFz (dVar 6)) (dNil))))) [6])) (dNil)))) (dNil))))) E
    ⟨[s0, s1, some (.ow (.lst (bs.map fun c => DS' (sign c)))), some (.pu x), s4, none, none, none], an⟩ := by
  have sl9 : 200000 < sizeLine := by decide
  -- the last row: given, the bits, what is told
  have fin : ∀ (z : Str) (cs : List Nat) (t : Nat) (r : List D), x = .tup (DS' z :: r) → cs.length ≤ 2 → bitsL cs → (∀ s ∈ settle cs, isKindS z s) → (settle cs).length ≤ 4 → (settle cs).map (toldS z) ≠ [] → sameLen ((settle cs).map (toldS z)) = true → (((settle cs).map (toldS z)).headD "").length ≤ 32 → joinAll ((settle cs).map (toldS z)) = sign t → toldB x bs = t →
      (dDrop (dMi appP (dVar 2) (dCons (dFz (dCall ((sp__law_joined K)) (dCons (dFz (dLc (dIt (dCall ((sp__law_settled K)) (dCons (dFz (dVar 4)) (dNil)))) (dgName 6) (dYes) (dFz (dCall ((sp__law_told K)) (dCons (dFz (dOp ixP (dVar 3) (dC (.int 0)))) (dCons (dFz (dVar 6)) (dNil))))) [6])) (dNil)))) (dNil)))) E
      ⟨[s0, s1, some (.ow (.lst (bs.map fun c => DS' (sign c)))), some (.pu x), some (.pu (DS' (strOf cs))), none, none, none], an⟩ := by
    intro z cs t r ex cl cb f1 f2 f3 f4 f5 f6 ft
    subst ex
    have qc := qs_le (strOf cs)
    have ll := strOf_len cs
    walk_at "d-run"
    refine c_settled (z := strOf cs) cb (by omega) (by omega) ?_
    rw [strsL, show (strOf cs).cps.toList = cs from rfl]
    walk_at "d-run"
    refine comp_x (g := fun s => DS' s) (fun s => DS' (toldS z s)) (settle cs) [] _ (fun s hs K2 a => ?_) (by rw [List.length_nil]; omega) ?_
    · walk_at "d-run"
      refine cS_i (at0 _ _) ?_
      walk_at "d-run"
      refine c_ltold (f1 s hs) ?_
      walk_at "d-run"
      exact a _ rfl
    · walk_at "d-run"
      rw [show ((settle cs).map fun s => DS' (toldS z s)) = ((settle cs).map (toldS z)).map fun y => DS' y by rw [List.map_map]; rfl]
      refine c_joined f3 (by rw [List.length_map]; omega) f4 f5 ?_
      rw [f6]
      walk_at "d-run"
      refine ⟨by rw [List.length_map]; omega, ?_⟩
      have := g (some (.pu (.tup (DS' z :: r)))) (some (.pu (DS' (strOf cs))))
      rw [ft, List.map_append] at this
      exact this
  rcases gate_cases hg with ⟨z, hz, rfl⟩ | ⟨i, rfl, i1, i2⟩ | ⟨z, i, j, hz, rfl, ⟨i1, i2⟩, j1, j2⟩
  · walk_at "d-run"
    refine ⟨rfl, cB_y (by rfl) ?_⟩
    walk_at "d-run"
    refine cS_i (at0 _ _) ?_
    walk_at "d-run"
    refine ⟨by rw [List.length_map]; omega, ?_⟩
    have := g (some (.pu (.tup [DS' z]))) s4
    have e : sign (toldB (.tup [DS' z]) bs) = z := by rcases hz with rfl | rfl <;> rfl
    simp only [List.map_append, List.map_cons, List.map_nil, e] at this
    exact this
  · have ha := getD_bit hb (show i.toNat < bs.length by omega)
    have ea : L2.atI (bs.map fun c => DS' (sign c)) i = some (DS' (sign (bs.getD i.toNat 0))) := at_bits i1 i2
    obtain ⟨f1, f2, f3, f4, f5, f6⟩ := not_facts (bs.getD i.toNat 0) (bit_mem ha)
    have ft : toldB (.tup [DS' "not", DI' i]) bs = if bs.getD i.toNat 0 = 48 then 49 else if bs.getD i.toNat 0 = 49 then 48 else 63 := rfl
    have fn := fin "not" [bs.getD i.toNat 0] _ [DI' i] rfl (by simp) (fun c hc => by rw [List.mem_singleton.mp hc]; exact ha) (fun s hs => .inl ⟨rfl, f1 s hs⟩) f2 f3 f4 f5 f6 ft
    walk_at "d-run"
    refine ⟨rfl, cB_n (by rfl) ?_⟩
    refine seq_o fun N hN => ?_
    walk_at "d-run"
    rw [cutL_tail]
    refine comp_map (fun _ => DS' (sign (bs.getD i.toNat 0))) [DI' i] [] _ (fun d hd K2 k => ?_) (by simp; omega) ?_
    · rw [List.mem_singleton.mp hd]
      walk_at "d-run"
      refine cS_i ea ?_
      walk_at "d-run"
      exact k _ rfl
    · walk_at "d-run"
      refine cS_i (a := [sign (bs.getD i.toNat 0)]) rfl ?_
      walk_at "d-run"
      have js := join_sum [bs.getD i.toNat 0]
      have jj := join_signs [bs.getD i.toNat 0]
      simp only [List.map_cons, List.map_nil] at js jj
      simp only [List.map_cons, List.map_nil]
      refine ⟨show 1 + 0 + 1 * 0 ≤ 16777216 by decide, ?_⟩
      rw [jj]
      show N _; rw [hN]; clear hN N
      exact fn
  · have ha := getD_bit hb (show i.toNat < bs.length by omega)
    have hb2 := getD_bit hb (show j.toNat < bs.length by omega)
    have ea : L2.atI (bs.map fun c => DS' (sign c)) i = some (DS' (sign (bs.getD i.toNat 0))) := at_bits i1 i2
    have eb : L2.atI (bs.map fun c => DS' (sign c)) j = some (DS' (sign (bs.getD j.toNat 0))) := at_bits j1 j2
    obtain ⟨f1, f2, f3, f4, f5, f6⟩ := two_facts z (by simpa using hz) (bs.getD i.toNat 0) (bit_mem ha) (bs.getD j.toNat 0) (bit_mem hb2)
    have ft : toldB (.tup [DS' z, DI' i, DI' j]) bs = if bs.getD i.toNat 0 = (if z = "and" then 48 else 49) ∨ bs.getD j.toNat 0 = (if z = "and" then 48 else 49) then (if z = "and" then 48 else 49) else if bs.getD i.toNat 0 = bs.getD j.toNat 0 then bs.getD i.toNat 0 else 63 := rfl
    have fn := fin z [bs.getD i.toNat 0, bs.getD j.toNat 0] _ [DI' i, DI' j] rfl (by simp) (fun c hc => by
      simp only [List.mem_cons, List.not_mem_nil, or_false] at hc
      rcases hc with rfl | rfl
      · exact ha
      · exact hb2) (fun s hs => .inr ⟨hz, f1 s hs⟩) f2 f3 f4 f5 f6 ft
    walk_at "d-run"
    refine ⟨rfl, cB_n (by rfl) ?_⟩
    refine seq_o fun N hN => ?_
    walk_at "d-run"
    rw [cutL_tail]
    refine comp_map (fun d => DS' (sign (bs.getD (numOf d).toNat 0))) [DI' i, DI' j] [] _ (fun d hd K2 k => ?_) (by simp; omega) ?_
    · simp only [List.mem_cons, List.not_mem_nil, or_false] at hd
      rcases hd with rfl | rfl
      · walk_at "d-run"
        refine cS_i ea ?_
        walk_at "d-run"
        exact k _ rfl
      · walk_at "d-run"
        refine cS_i eb ?_
        walk_at "d-run"
        exact k _ rfl
    · walk_at "d-run"
      refine cS_i (a := [sign (bs.getD i.toNat 0), sign (bs.getD j.toNat 0)]) rfl ?_
      walk_at "d-run"
      have jj := join_signs [bs.getD i.toNat 0, bs.getD j.toNat 0]
      simp only [List.map_cons, List.map_nil] at jj
      simp only [List.map_cons, List.map_nil]
      refine ⟨show 1 + (1 + 0) + 2 * 0 ≤ 16777216 by decide, ?_⟩
      rw [jj]
      show N _; rw [hN]; clear hN N
      exact fn
theorem r__law_run (h : sp__law_run K ws Q Y) : t__law_run K (dEnds Q Y) (start0 N__law_run ws) := by
  obtain ⟨ds, e, hl, ⟨d, w, rfl, hn, wb, wl⟩, q⟩ := h
  have := pures_len e; subst this
  have q := q.2
  obtain ⟨n, gs, os, t⟩ := net_of hn
  have te := t.eq
  subst te
  have wl : w.length = n := by rw [wl]; show ((n : Int)).toNat = n; omega
  simp only [List.map_cons, List.map_nil, t__law_run, N__law_run, List.getD_cons_zero, List.getD_cons_succ] at q ⊢
  have sl9 : 200000 ≤ sizeLine := by decide
  have n32 := t.n32
  have gl := t.gl
  refine seq_o fun N hN => ?_
  walk_at "d-run"
  refine ⟨by omega, ?_⟩
  show N _; rw [hN]; clear hN N
  refine seq_o fun N hN => ?_
  refine for_a fun T hT => ?_
  walk_at "d-run"
  refine cS_i (a := .tup gs) (by rfl) ?_
  walk_at "d-run"
  have fp := for_pre (gt := dgName 3) (tb := T) (g := fun d : D => d) (xs := gs) (E := { nx := N, rt := fun w δ => isRes w ∧ Q w δ.an, ex := fun c δ => Y c δ.an })
    (fun p δ => ∃ s3 s4, δ = ⟨[some (.pu (.tup [DI' (n : Int), .tup gs, .tup os])), some (.pu (DS' w)), some (.ow (.lst ((runB p w.cps.toList).map fun c => DS' (sign c)))), s3, s4, none, none, none], [.pu (.tup [DI' (n : Int), .tup gs, .tup os]), .pu (DS' w)]⟩)
    (δ := ⟨[some (.pu (.tup [DI' (n : Int), .tup gs, .tup os])), some (.pu (DS' w)), some (.ow (.lst (w.cps.toList.map fun c => DS' (sign c)))), none, none, none, none, none], [.pu (.tup [DI' (n : Int), .tup gs, .tup os]), .pu (DS' w)]⟩) ⟨none, none, rfl⟩
  rw [List.map_id'] at fp
  refine fp (fun p x r δ K1 hk hI next => ?_) fun δ hI => ?_
  · obtain ⟨s3, s4, rfl⟩ := hI
    obtain ⟨h1, h2⟩ := t.run wl wb p (x :: r) hk
    have hg := t.gate p.length (by rw [hk, List.length_append]; simp)
    rw [hk, getD_mid] at hg
    rw [show ((n : Int) + (p.length : Int)) = (((runB p w.cps.toList).length : Nat) : Int) by rw [h1]; omega] at hg
    have pl : p.length + 1 ≤ gs.length := by rw [hk, List.length_append]; simp
    walk_at "d-run"
    rw [hT]
    refine lr_body hg h2 (by omega) ?_
    intro s3 s4
    exact next _ ⟨s3, s4, by rw [runB_snoc]⟩
  · obtain ⟨s3, s4, rfl⟩ := hI
    obtain ⟨h1, h2⟩ := t.run wl wb gs [] (by simp)
    clear fp
    show N _; rw [hN]; clear hN N
    walk_at "d-run"
    refine cS_i (a := .tup os) (by rfl) ?_
    walk_at "d-run"
    refine comp_map (fun o => DS' (sign ((runB gs w.cps.toList).getD (numOf o).toNat 0))) os [] _ (fun o ho K2 k => ?_) (by rw [List.length_nil, Nat.zero_add]; have := t.o32; omega) ?_
    · obtain ⟨i, rfl, i0, i1⟩ := t.out o ho
      walk_at "d-run"
      refine cS_i (at_bits i0 (by rw [h1]; omega)) ?_
      walk_at "d-run"
      exact k _ rfl
    · walk_at "d-run"
      have e1 : (os.map fun o => DS' (sign ((runB gs w.cps.toList).getD (numOf o).toNat 0))) = ((os.map fun o => (runB gs w.cps.toList).getD (numOf o).toNat 0).map sign).map fun z => DS' z := by
        rw [List.map_map, List.map_map]
        rfl
      rw [e1]
      refine cS_i (strs_mapF _) ?_
      walk_at "d-run"
      rw [join_sum]
      refine ⟨by rw [List.length_map]; have := t.o32; omega, ?_⟩
      rw [join_signs]
      exact q
end
end Lw

/-! text Q32c -/
set_option Elab.async false
set_option linter.all false
set_option maxRecDepth 100000
set_option maxHeartbeats 4000000
namespace Lw
open PySem PySem.Spec PyProof.Rows L2 DL
section
variable {P : Program} {w : World} {base : Heap} {K : PySem.W.Frag} {ws : List Wv} {Q : Wv → List Wv → Prop} {Y : Value → List Wv → Prop} {mg : Str → Option Value}
local macro_rules | `(tactic| walk_at "d-run") => `(tactic| try simp only [↓y_dSeq, ↓y_dC, ↓y_dG, ↓y_dOp, ↓y_dUn, ↓y_dNil, ↓y_dCons, ↓y_dCallP, ↓y_dTst, ↓y_dAnd, ↓y_dOr, ↓y_dNot, ↓y_dAndV, ↓y_dOrV, ↓y_dNotV, ↓y_dIf, ↓y_dFz, ↓y_dTup, ↓y_dLst, ↓y_dCall, ↓y_dLam, ↓y_dNext, ↓y_dBrk, ↓y_dCnt, ↓y_dDrop, ↓y_dRet, ↓y_dRetN, ↓y_dIfS, ↓y_dSet, ↓y_dgName, ↓y_dgNil, ↓y_dgCons, ↓y_dgTup, ↓y_dgLst, ↓y_dgTxt, ↓y_dAsg, ↓y_dIt, ↓y_dRng1, ↓y_dRng2, ↓y_dEnum, ↓y_dZip, ↓y_dFor, ↓y_dRaise, ↓y_dLc, ↓y_dLc2, ↓y_dYes, ↓y_dNewD, ↓y_dMi, ↓y_dMs, ↓y_dMl, ↓y_dgSet, ↓y_dPar, ↓y_dONo, ↓y_dOSome, ↓y_dSl, ↓y_dChain, ↓y_subP, ↓y_divP, ↓y_modP, ↓y_powP, ↓y_ltP, ↓y_leP, ↓y_gtP, ↓y_geP, ↓y_addP_i, ↓y_addP_s, ↓y_addP_l, ↓y_addP_t, ↓y_mulP_i, ↓y_mulP_s, ↓y_mulP_l, ↓y_mulP_t, ↓y_eqP_s, ↓y_eqP_ll, ↓y_eqP_lt, ↓y_eqP_ls, ↓y_eqP_ld, ↓y_eqP_tl, ↓y_eqP_tt, ↓y_eqP_ts, ↓y_eqP_td, ↓y_eqP_sl, ↓y_eqP_st, ↓y_eqP_sd, ↓y_eqP_dl, ↓y_eqP_dt, ↓y_eqP_ds, ↓y_eqP_dd, ↓y_inP_s, ↓y_inP_t, ↓y_inP_l, ↓y_isNP_s, ↓y_isNP_t, ↓y_isNP_l, ↓y_isNP_d, ↓y_isBP, ↓y_ixP_l, ↓y_ixP_t, ↓y_ixP_s, ↓y_lenP, ↓y_isiP, ↓y_allP, ↓y_anyP, ↓y_intP_i, ↓y_intP_b, ↓y_listP_l, ↓y_listP_t, ↓y_tupleP_l, ↓y_tupleP_t, ↓y_sortedSP, ↓y_reprP, ↓y_negP, ↓y_revP_s, ↓y_revP_l, ↓y_slP_l, ↓y_slP_t, ↓y_slP_r, ↓y_slP_s, ↓y_findP, ↓y_countP, ↓y_joinP, ↓y_lcountP_s, ↓y_lcountP_i, ↓y_appP, ↓y_insP, ↓kc_q, ↓kc_y, ↓k1_k, ↓k2_k, ↓k0_k, ↓kb_a, ↓kb_b, ↓cS_some, ↓cB_t, ↓cB_f, ↓cBl_i, ↓cInt_i, ↓cSD_i, ↓cLD_i, ↓cLM_i, ↓dLM_i, ↓cBw_i, ↓cPair_i, ↓cOne_i, ↓cI1_i, ↓cI2_i, ↓cTup_i, ↓cLst_i, ↓cTxt_i, ↓cCons_i, ↓cNil_i, ↓dVar, DS.put, DS.wipe, DS.rest, wipeL, restL, val, slD, vals, frz1, put1, out1, pures, dargs, dback, getM, setM, M.frz, start0, par, dEnds, isRes, itemsD, tyD, lenD, dLSet, dLRg, ↓y_inTabP, ↓y_ixTabP, ↓y_eqEP, ↓y_strP, ↓y_revP_t, ↓y_list2P_l, ↓y_list2P_t, ↓y_list2P_s, ↓y_reprP2, ↓y_dDGet, ↓y_dUpper, ↓y_dIsiT, ↓y_dCallB, strO, tyO, scO, List.getElem?_cons_zero, List.getElem?_cons_succ, List.set_cons_zero, List.set_cons_succ, List.cons_append, List.nil_append, List.replicate_succ, List.replicate_zero, List.length_cons, List.length_nil, Option.some.injEq, exists_eq_left', exists_eq_left, Wv.pu.injEq, D.sc.injEq, V.bl.injEq, V.int.injEq, V.str.injEq, Nat.reduceSub, Nat.reduceAdd, List.cons.injEq, and_true, true_and, exists_and_left, Option.map_some, if_true, if_false, Bool.false_eq_true, exists_eq_right, ex2a, ex2b, ex2c, D.tup.injEq, D.lst.injEq, M.lst.injEq, eq_self])
theorem kind_count : ∀ z ∈ (["not", "and", "or", "and", "or", "0", "1"] : List Str), ∃ c : Nat, c ≤ 2 ∧ (valV (mergeK [] [(.inr "not", V.int 1), (.inr "and", V.int 2), (.inr "or", V.int 2)]) (.inr z)).getD (.int 0) = .int (c : Int) ∧ places z = some (c : Int) := by
  intro z hz
  simp only [List.mem_cons, List.not_mem_nil, or_false] at hz
  rcases hz with rfl | rfl | rfl | rfl | rfl | rfl | rfl
  · exact ⟨1, by decide, by decide +kernel, by decide +kernel⟩
  · exact ⟨2, by decide, by decide +kernel, by decide +kernel⟩
  · exact ⟨2, by decide, by decide +kernel, by decide +kernel⟩
  · exact ⟨2, by decide, by decide +kernel, by decide +kernel⟩
  · exact ⟨2, by decide, by decide +kernel, by decide +kernel⟩
  · exact ⟨0, by decide, by decide +kernel, by decide +kernel⟩
  · exact ⟨0, by decide, by decide +kernel, by decide +kernel⟩
theorem gate_made {z : Str} {c : Nat} {b : Int} {ns : List Int} (hp : places z = some (c : Int)) (hl : ns.length = c) (hn : ∀ i ∈ ns, 0 ≤ i ∧ i < b) : gateB (.tup (DS' z :: ns.map fun i => DI' i)) b = true := by
  simp only [gateB, hp, List.length_map, Bool.and_eq_true, decide_eq_true_eq, List.all_eq_true]
  refine ⟨by omega, fun x hx => ?_⟩
  obtain ⟨i, hi, rfl⟩ := List.mem_map.mp hx
  have := hn i hi
  simp only [isNum, Bool.and_eq_true, decide_eq_true_eq]
  omega
theorem net_made {n : Nat} {gs : List D} {ns : List Int} (n1 : 1 ≤ n) (n32 : n ≤ 32) (gl : gs.length ≤ 100000) (hg : ∀ k : Nat, k < gs.length → gateB (gs.getD k DN') ((n : Int) + (k : Int)) = true) (o1 : 1 ≤ ns.length) (o32 : ns.length ≤ 32) (hn : ∀ i ∈ ns, 0 ≤ i ∧ i < (n : Int) + (gs.length : Int)) :
    netB (.tup [DI' (n : Int), .tup gs, .tup (ns.map fun i => DI' i)]) = true := by
  rw [netB_3]
  have h1 : isNum (DI' (n : Int)) 1 32 = true := by
    simp only [isNum, Bool.and_eq_true, decide_eq_true_eq]
    omega
  have h2 : gatesB gs (numOf (DI' (n : Int))) = true := List.all_eq_true.mpr fun k hk => hg k (List.mem_range.mp hk)
  have h3 : outsB (.tup (ns.map fun i => DI' i)) (numOf (DI' (n : Int)) + gs.length) = true := by
    show (decide (1 ≤ (ns.map fun i => DI' i).length) && decide ((ns.map fun i => DI' i).length ≤ 32) && (ns.map fun i => DI' i).all fun x => isNum x 0 ((n : Int) + gs.length - 1)) = true
    simp only [List.length_map, Bool.and_eq_true, decide_eq_true_eq, List.all_eq_true]
    refine ⟨⟨o1, o32⟩, fun x hx => ?_⟩
    obtain ⟨i, hi, rfl⟩ := List.mem_map.mp hx
    have := hn i hi
    simp only [isNum, Bool.and_eq_true, decide_eq_true_eq]
    omega
  rw [h1, h2, h3, decide_eq_true gl]
  rfl
theorem r__law_any_net (h : sp__law_any_net K ws Q Y) : t__law_any_net K (dEnds Q Y) (start0 N__law_any_net ws) := by
  obtain ⟨b, pen, n, most, m, rfl, hp, hb, n1, n32, hm, m1, m32, q⟩ := h
  have sl9 : 200000 < sizeLine := by decide
  simp only [t__law_any_net, N__law_any_net]
  refine seq_o fun N hN => ?_
  walk_at "d-run"
  refine ⟨by omega, ?_⟩
  show N _; rw [hN]; clear hN N
  refine seq_o fun N hN => ?_
  refine for_a fun T hT => ?_
  walk_at "d-run"
  refine take_call hp (by omega) (by omega) (by omega) fun t pen1 t0 t1 hp1 => ?_
  walk_at "d-run"
  refine ⟨by omega, by omega, ?_⟩
  refine for_rng 0 t.toNat (fun j δ => ∃ pen2 gs s5 s6 s7 s8, PenOk (b + 1 + 3 * j) pen2 ∧ gs.length = j ∧ (∀ k : Nat, k < gs.length → gateB (gs.getD k DN') ((n : Int) + (k : Int)) = true) ∧ δ = ⟨[some (.io 0), some (.pu (DI' (n : Int))), some (.pu (DI' (most : Int))), some (.pu (DI' (m : Int))), some (.ow (.lst gs)), s5, s6, s7, s8, none], [.ow (.lst pen2), .pu (DI' (n : Int)), .pu (DI' (most : Int)), .pu (DI' (m : Int))]⟩)
    ⟨pen1, [], none, none, none, none, hp1, rfl, fun k hk => by simp at hk, rfl⟩ (fun j δ K1 hj hI next => ?_) fun δ hI => ?_
  · obtain ⟨pen2, gs, s5, s6, s7, s8, hp2, gl, hg, rfl⟩ := hI
    have hj40 : j < 40 := by omega
    rw [hT]
    refine seq_o fun N hN => ?_
    walk_at "d-run"
    refine ⟨by omega, ?_⟩
    refine one_of_call hp2 (by omega) (.inl rfl) (by simp) (by decide) fun d pen3 hd hp3 => ?_
    obtain ⟨z, hz, rfl⟩ : ∃ z, z ∈ (["not", "and", "or", "and", "or", "0", "1"] : List Str) ∧ d = DS' z := by
      simp only [List.mem_cons, List.not_mem_nil, or_false] at hd
      rcases hd with rfl | rfl | rfl | rfl | rfl | rfl | rfl <;> exact ⟨_, by simp, rfl⟩
    obtain ⟨c, c2, ec, ep⟩ := kind_count z hz
    walk_at "d-run"
    refine ⟨by omega, ?_⟩
    show N _; rw [hN]; clear hN N
    refine seq_o fun N hN => ?_
    walk_at "d-run"
    rw [ec]
    walk_at "d-run"
    refine ⟨by omega, by omega, ?_⟩
    have hbl : 0 < (n : Int) + (gs.length : Int) := by omega
    refine comp_st (fun i acc δ => ∃ pen' ns, δ = ⟨[some (.io 0), some (.pu (DI' (n : Int))), some (.pu (DI' (most : Int))), some (.pu (DI' (m : Int))), some (.ow (.lst gs)), some (.pu (DI' (0 + (j : Int)))), some (.pu (DI' ((n : Int) + (gs.length : Int)))), some (.pu (DS' z)), s8, none], [.ow (.lst pen'), .pu (DI' (n : Int)), .pu (DI' (most : Int)), .pu (DI' (m : Int))]⟩ ∧ PenOk (b + 1 + 3 * j + 1 + i) pen' ∧ acc = ns.map (fun i : Int => DI' i) ∧ ns.length = i ∧ ∀ i ∈ ns, 0 ≤ i ∧ i < (n : Int) + (gs.length : Int)) _ _ 0 _ (fun i d acc δ K2 hd hJ k => ?_) (fun acc δ hJ => ?_) ⟨pen3, [], rfl, hp3, rfl, rfl, fun i hi => by cases hi⟩
    · obtain ⟨pen', ns, rfl, hp', rfl, hl, hns⟩ := hJ
      have hi : i < c := by
        have := (List.getElem?_eq_some_iff.mp hd).1
        rw [rng_len] at this
        simpa using this
      rw [Nat.zero_add] at hp' hl
      walk_at "d-run"
      refine take_call hp' (by omega) hbl (by omega) fun v pen4 v0 v1 hp4 => ?_
      walk_at "d-run"
      refine k _ _ ⟨?_, pen4, ns ++ [v], rfl, ?_, ?_, ?_, ?_⟩
      · rw [List.length_map, hl]; omega
      · rw [Nat.zero_add, show b + 1 + 3 * j + 1 + (i + 1) = b + 1 + 3 * j + 1 + i + 1 by omega]; exact hp4
      · rw [List.map_append]; rfl
      · rw [List.length_append, hl, Nat.zero_add]; rfl
      · intro x hx
        rcases List.mem_append.mp hx with hx | hx
        · exact hns x hx
        · rw [List.mem_singleton.mp hx]; exact ⟨v0, v1⟩
    · obtain ⟨pen', ns, rfl, hp', rfl, hl, hns⟩ := hJ
      rw [rng_len, Int.toNat_natCast, Nat.zero_add] at hp' hl
      have gm := gate_made ep hl hns
      walk_at "d-run"
      show N _; rw [hN]; clear hN N
      walk_at "d-run"
      rw [List.length_map, hl]
      refine ⟨by omega, by omega, by omega, next _ ⟨pen', gs ++ [.tup (DS' z :: ns.map fun i => DI' i)], _, _, _, _, hp'.mono (by omega), by rw [List.length_append, List.length_singleton, gl], fun k hk => ?_, rfl⟩⟩
      rw [List.length_append, List.length_singleton] at hk
      by_cases hk2 : k < gs.length
      · rw [List.getD_eq_getElem?_getD, List.getElem?_append_left hk2, ← List.getD_eq_getElem?_getD]
        exact hg k hk2
      · have : k = gs.length := by omega
        subst this
        rw [getD_mid]
        exact gm
  · obtain ⟨pen2, gs, s5, s6, s7, s8, hp2, gl, hg, rfl⟩ := hI
    clear hT T
    show N _; rw [hN]; clear hN N
    walk_at "d-run"
    refine ⟨by omega, by omega, ?_⟩
    have hbl : 0 < (n : Int) + (gs.length : Int) := by omega
    refine comp_st (fun i acc δ => ∃ pen' ns, δ = ⟨[some (.io 0), some (.pu (DI' (n : Int))), some (.pu (DI' (most : Int))), some (.pu (DI' (m : Int))), some (.ow (.lst gs)), s5, s6, s7, s8, none], [.ow (.lst pen'), .pu (DI' (n : Int)), .pu (DI' (most : Int)), .pu (DI' (m : Int))]⟩ ∧ PenOk (b + 1 + 3 * 40 + 1 + i) pen' ∧ acc = ns.map (fun i : Int => DI' i) ∧ ns.length = i ∧ ∀ i ∈ ns, 0 ≤ i ∧ i < (n : Int) + (gs.length : Int)) _ _ 0 _ (fun i d acc δ K2 hd hJ k => ?_) (fun acc δ hJ => ?_) ⟨pen2, [], rfl, hp2.mono (by omega), rfl, rfl, fun i hi => by cases hi⟩
    · obtain ⟨pen', ns, rfl, hp', rfl, hl, hns⟩ := hJ
      have hi : i < m := by
        have := (List.getElem?_eq_some_iff.mp hd).1
        rw [rng_len] at this
        simpa using this
      rw [Nat.zero_add] at hp' hl
      walk_at "d-run"
      refine take_call hp' (by omega) hbl (by omega) fun v pen4 v0 v1 hp4 => ?_
      walk_at "d-run"
      refine k _ _ ⟨?_, pen4, ns ++ [v], rfl, ?_, ?_, ?_, ?_⟩
      · rw [List.length_map, hl]; omega
      · rw [Nat.zero_add, show b + 1 + 3 * 40 + 1 + (i + 1) = b + 1 + 3 * 40 + 1 + i + 1 by omega]; exact hp4
      · rw [List.map_append]; rfl
      · rw [List.length_append, hl, Nat.zero_add]; rfl
      · intro x hx
        rcases List.mem_append.mp hx with hx | hx
        · exact hns x hx
        · rw [List.mem_singleton.mp hx]; exact ⟨v0, v1⟩
    · obtain ⟨pen', ns, rfl, hp', rfl, hl, hns⟩ := hJ
      rw [rng_len, Int.toNat_natCast, Nat.zero_add] at hp' hl
      walk_at "d-run"
      refine ⟨by omega, q _ pen' ?_ ?_ ?_ ?_ (hp'.mono (by omega))⟩
      · exact net_made n1 n32 (by omega) hg (by omega) (by omega) hns
      · show ((n : Int)).toNat = n
        omega
      · show gs.length ≤ most
        omega
      · show (ns.map fun i => DI' i).length = m
        rw [List.length_map, hl]
end
end Lw

/-! text Q32d -/
set_option Elab.async false
set_option linter.all false
set_option maxRecDepth 100000
set_option maxHeartbeats 4000000
namespace Lw
open PySem PySem.Spec PyProof.Rows L2 DL
section
variable {P : Program} {w : World} {base : Heap} {K : PySem.W.Frag} {ws : List Wv} {Q : Wv → List Wv → Prop} {Y : Value → List Wv → Prop} {mg : Str → Option Value}
local macro_rules | `(tactic| walk_at "d-run") => `(tactic| try simp only [↓y_dSeq, ↓y_dC, ↓y_dG, ↓y_dOp, ↓y_dUn, ↓y_dNil, ↓y_dCons, ↓y_dCallP, ↓y_dTst, ↓y_dAnd, ↓y_dOr, ↓y_dNot, ↓y_dAndV, ↓y_dOrV, ↓y_dNotV, ↓y_dIf, ↓y_dFz, ↓y_dTup, ↓y_dLst, ↓y_dCall, ↓y_dLam, ↓y_dNext, ↓y_dBrk, ↓y_dCnt, ↓y_dDrop, ↓y_dRet, ↓y_dRetN, ↓y_dIfS, ↓y_dSet, ↓y_dgName, ↓y_dgNil, ↓y_dgCons, ↓y_dgTup, ↓y_dgLst, ↓y_dgTxt, ↓y_dAsg, ↓y_dIt, ↓y_dRng1, ↓y_dRng2, ↓y_dEnum, ↓y_dZip, ↓y_dFor, ↓y_dRaise, ↓y_dLc, ↓y_dLc2, ↓y_dYes, ↓y_dNewD, ↓y_dMi, ↓y_dMs, ↓y_dMl, ↓y_dgSet, ↓y_dPar, ↓y_dONo, ↓y_dOSome, ↓y_dSl, ↓y_dChain, ↓y_subP, ↓y_divP, ↓y_modP, ↓y_powP, ↓y_ltP, ↓y_leP, ↓y_gtP, ↓y_geP, ↓y_addP_i, ↓y_addP_s, ↓y_addP_l, ↓y_addP_t, ↓y_mulP_i, ↓y_mulP_s, ↓y_mulP_l, ↓y_mulP_t, ↓y_eqP_s, ↓y_eqP_ll, ↓y_eqP_lt, ↓y_eqP_ls, ↓y_eqP_ld, ↓y_eqP_tl, ↓y_eqP_tt, ↓y_eqP_ts, ↓y_eqP_td, ↓y_eqP_sl, ↓y_eqP_st, ↓y_eqP_sd, ↓y_eqP_dl, ↓y_eqP_dt, ↓y_eqP_ds, ↓y_eqP_dd, ↓y_inP_s, ↓y_inP_t, ↓y_inP_l, ↓y_isNP_s, ↓y_isNP_t, ↓y_isNP_l, ↓y_isNP_d, ↓y_isBP, ↓y_ixP_l, ↓y_ixP_t, ↓y_ixP_s, ↓y_lenP, ↓y_isiP, ↓y_allP, ↓y_anyP, ↓y_intP_i, ↓y_intP_b, ↓y_listP_l, ↓y_listP_t, ↓y_tupleP_l, ↓y_tupleP_t, ↓y_sortedSP, ↓y_reprP, ↓y_negP, ↓y_revP_s, ↓y_revP_l, ↓y_slP_l, ↓y_slP_t, ↓y_slP_r, ↓y_slP_s, ↓y_findP, ↓y_countP, ↓y_joinP, ↓y_lcountP_s, ↓y_lcountP_i, ↓y_appP, ↓y_insP, ↓kc_q, ↓kc_y, ↓k1_k, ↓k2_k, ↓k0_k, ↓kb_a, ↓kb_b, ↓cS_some, ↓cB_t, ↓cB_f, ↓cBl_i, ↓cInt_i, ↓cSD_i, ↓cLD_i, ↓cLM_i, ↓dLM_i, ↓cBw_i, ↓cPair_i, ↓cOne_i, ↓cI1_i, ↓cI2_i, ↓cTup_i, ↓cLst_i, ↓cTxt_i, ↓cCons_i, ↓cNil_i, ↓dVar, DS.put, DS.wipe, DS.rest, wipeL, restL, val, slD, vals, frz1, put1, out1, pures, dargs, dback, getM, setM, M.frz, start0, par, dEnds, isRes, itemsD, tyD, lenD, dLSet, dLRg, ↓y_inTabP, ↓y_ixTabP, ↓y_eqEP, ↓y_strP, ↓y_revP_t, ↓y_list2P_l, ↓y_list2P_t, ↓y_list2P_s, ↓y_reprP2, ↓y_dDGet, ↓y_dUpper, ↓y_dIsiT, ↓y_dCallB, strO, tyO, scO, List.getElem?_cons_zero, List.getElem?_cons_succ, List.set_cons_zero, List.set_cons_succ, List.cons_append, List.nil_append, List.replicate_succ, List.replicate_zero, List.length_cons, List.length_nil, Option.some.injEq, exists_eq_left', exists_eq_left, Wv.pu.injEq, D.sc.injEq, V.bl.injEq, V.int.injEq, V.str.injEq, Nat.reduceSub, Nat.reduceAdd, List.cons.injEq, and_true, true_and, exists_and_left, Option.map_some, if_true, if_false, Bool.false_eq_true, exists_eq_right, ex2a, ex2b, ex2c, D.tup.injEq, D.lst.injEq, M.lst.injEq, eq_self])
theorem get_places (z : Str) : (valV (mergeK [] [(.inr "0", V.int 1), (.inr "1", V.int 1), (.inr "not", V.int 2), (.inr "and", V.int 3), (.inr "or", V.int 3)]) (.inr z)).getD (.int 0) = .int (match places z with
    | some n => n + 1
    | none => 0) := by
  have hm : mergeK [] [((.inr "0" : Key), V.int 1), (.inr "1", V.int 1), (.inr "not", V.int 2), (.inr "and", V.int 3), (.inr "or", V.int 3)] = [((.inr "0" : Key), V.int 1), (.inr "1", V.int 1), (.inr "not", V.int 2), (.inr "and", V.int 3), (.inr "or", V.int 3)] := by rfl
  rw [hm]
  by_cases h0 : z = "0"
  · subst h0; rfl
  by_cases h1 : z = "1"
  · subst h1; rfl
  by_cases h2 : z = "not"
  · subst h2; rfl
  by_cases h3 : z = "and"
  · subst h3; rfl
  by_cases h4 : z = "or"
  · subst h4; rfl
  have hp : places z = none := by
    unfold places tab_PLACES
    simp [List.find?_cons, Ne.symm h0, Ne.symm h1, Ne.symm h2, Ne.symm h3, Ne.symm h4]
  rw [hp]
  unfold valV
  simp [List.find?_cons, Ne.symm h0, Ne.symm h1, Ne.symm h2, Ne.symm h3, Ne.symm h4]
theorem c_isnum {d : D} {a b : Int} {Q : Wv → List Wv → Prop} {Y : Value → List Wv → Prop} (h : okB d = true) (q : Q (.pu (DB' (isNum d a b))) [.pu d, .pu (DI' a), .pu (DI' b)]) : sp__law_is_number K [.pu d, .pu (DI' a), .pu (DI' b)] Q Y :=
  call_ok (ds := [d, DI' a, DI' b]) rfl rfl ⟨d, a, b, rfl, h⟩ ⟨trivial, q⟩
theorem not_all {xs : List D} {p : D → Bool} : (xs.filter fun x => !p x).isEmpty = xs.all p := by
  induction xs with
  | nil => rfl
  | cons x xs ih =>
    rw [List.all_cons, ← ih]
    cases h : p x <;> simp [h]
/-- one gate, as the law looks at it -/
theorem gi_body {x : D} {i : Int} {k : Nat} {s0 s2 s3 : Option Wv} {an : List Wv} {E : DEnds} (xo : okB x = true)
    (yes : gateB x (i + (k : Int)) = true → E.nx ⟨[s0, some (.pu (DI' i)), s2, s3, some (.pu (DI' (k : Int))), some (.pu x), none, none], an⟩)
    (no : gateB x (i + (k : Int)) = false → E.rt (.pu (DB' false)) ⟨[s0, some (.pu (DI' i)), s2, s3, some (.pu (DI' (k : Int))), some (.pu x), none, none], an⟩) :
    dSeq (dIfS (dOr (dNot (dTst (dCallP isiP (dCons (dVar 5) (dCons (dC (.ty "tuple")) (dNil)))))) (dOr (dTst (dOp eqEP (dVar 5) (dTup (dNil)))) (dNot (dTst (dCallP isiP (dCons (dOp ixP (dVar 5) (dC (.int 0))) (dCons (dC (.ty "str")) (dNil)))))))) (dRet (dC (.bl false))) (dNext))
  (dSeq (dIfS (dTst (dOp (eqP true) (dCallP lenP (dCons (dVar 5) (dNil))) (dDGet [(.inr "0", .int 1), (.inr "1", .int 1), (.inr "not", .int 2), (.inr "and", .int 3), (.inr "or", .int 3)] (.int 0) (dOp ixP (dVar 5) (dC (.int 0)))))) (dRet (dC (.bl false))) (dNext))
  (dIfS (dTst (dOp (eqP true) (dLc (dIt (dSl slP (dVar 5) (dOSome (dC (.int 1))) dONo)) (dgName 6) (dNot (dTst (dCall ((sp__law_is_number K)) (dCons (dFz (dVar 6)) (dCons (dC (.int 0)) (dCons (dFz (dOp subP (dOp addP (dVar 1) (dVar 4)) (dC (.int 1)))) (dNil))))))) (dC (.int 1)) [6]) (dLst (dNil)))) (dRet (dC (.bl false))) (dNext))) E
    ⟨[s0, some (.pu (DI' i)), s2, s3, some (.pu (DI' (k : Int))), some (.pu x), none, none], an⟩ := by
  by_cases ht : ∃ xs, x = .tup xs
  · obtain ⟨xs, rfl⟩ := ht
    obtain ⟨xl, xok⟩ := okB_tup xo
    refine seq_o fun N hN => ?_
    walk_at "d-run"
    refine cS_i (a := true) (by rfl) ?_
    walk_at "d-run"
    refine cB_n (by rfl) ?_
    walk_at "d-run"
    refine ⟨Nat.zero_le _, ?_⟩
    cases xs with
    | nil =>
      refine cB_y rfl ?_
      walk_at "d-run"
      exact no (gateB_no fun z r e => by cases e)
    | cons y xs =>
    refine cB_n rfl ?_
    walk_at "d-run"
    refine cS_i (at0 _ _) ?_
    walk_at "d-run"
    have yo := xok y (by simp)
    by_cases hs : ∃ z, y = DS' z
    · obtain ⟨z, rfl⟩ := hs
      walk_at "d-run"
      refine cS_i (a := true) (by rfl) ?_
      walk_at "d-run"
      refine cB_n rfl ?_
      walk_at "d-run"
      show N _; rw [hN]; clear hN N
      refine seq_o fun N hN => ?_
      walk_at "d-run"
      refine cS_i (at0 _ _) ?_
      walk_at "d-run"
      rw [get_places]
      walk_at "d-run"
      refine ⟨rfl, ?_⟩
      cases hp : places z with
      | none =>
        have z0 : gateB (.tup (DS' z :: xs)) (i + (k : Int)) = false := by simp only [gateB, hp]
        refine cB_y (by simp; omega) ?_
        walk_at "d-run"
        exact no z0
      | some n =>
      have hg : gateB (.tup (DS' z :: xs)) (i + (k : Int)) = (decide ((xs.length : Int) = n) && xs.all fun x => isNum x 0 (i + (k : Int) - 1)) := by simp only [gateB, hp]
      by_cases hl : (xs.length : Int) = n
      · rw [decide_eq_true hl, Bool.true_and] at hg
        refine cB_n (by simp [← hl]) ?_
        walk_at "d-run"
        show N _; rw [hN]; clear hN N
        walk_at "d-run"
        rw [cutL_tail]
        refine comp_f (fun x => !isNum x 0 (i + (k : Int) - 1)) (fun _ => DI' 1) xs [] _ (fun x hx K2 a => ?_) (by rw [List.length_nil, Nat.zero_add]; rw [List.length_cons] at xl; exact small_sl (by omega)) ?_
        · walk_at "d-run"
          refine c_isnum (xok x (List.mem_cons_of_mem _ hx)) ?_
          walk_at "d-run"
          refine a _ rfl fun _ K5 k5 => ?_
          walk_at "d-run"
          exact k5 _ rfl
        · walk_at "d-run"
          refine ⟨Nat.zero_le _, ?_⟩
          refine cS_i (pd_ones _) ?_
          walk_at "d-run"
          refine cS_i (a := PyData.list []) rfl ?_
          walk_at "d-run"
          refine ⟨⟨sp_ones _, rfl⟩, ?_⟩
          rw [eqv_ones, not_all]
          cases ha : xs.all fun x => isNum x 0 (i + (k : Int) - 1) with
          | true =>
            refine cB_n rfl ?_
            walk_at "d-run"
            exact yes (by rw [hg, ha])
          | false =>
            refine cB_y rfl ?_
            walk_at "d-run"
            exact no (by rw [hg, ha])
      · rw [decide_eq_false hl, Bool.false_and] at hg
        refine cB_y (by simp; omega) ?_
        walk_at "d-run"
        exact no hg
    · obtain ⟨t, e1, e2⟩ := kit_str_no yo fun z e => hs ⟨z, e⟩
      refine cS_i e1 ?_
      walk_at "d-run"
      refine cS_i e2 ?_
      walk_at "d-run"
      refine cB_y rfl ?_
      walk_at "d-run"
      exact no (gateB_no fun z r e => by cases e; exact hs ⟨z, rfl⟩)
  · have nt : ∀ xs, x ≠ .tup xs := fun xs e => ht ⟨xs, e⟩
    obtain ⟨t, e1, e2⟩ := kit_tup_no xo nt
    refine seq_o fun N hN => ?_
    walk_at "d-run"
    refine cS_i e1 ?_
    walk_at "d-run"
    refine cS_i e2 ?_
    walk_at "d-run"
    refine cB_y rfl ?_
    walk_at "d-run"
    exact no (gateB_no fun z r => nt _)
theorem r__law_is_net (h : sp__law_is_net K ws Q Y) : t__law_is_net K (dEnds Q Y) (start0 N__law_is_net ws) := by
  obtain ⟨ds, e, hl, hp, q⟩ := h
  obtain ⟨d, rfl⟩ := len1 hl
  have ok := hp d (by simp)
  have := pures_len e; subst this
  have q := q.2
  simp only [List.map_cons, List.map_nil, t__law_is_net, N__law_is_net, List.headD_cons] at q ⊢
  by_cases ht : ∃ xs, d = .tup xs
  · obtain ⟨xs, rfl⟩ := ht
    obtain ⟨xl, xok⟩ := okB_tup ok
    refine seq_o fun N hN => ?_
    walk_at "d-run"
    refine cS_i (a := true) (by rfl) ?_
    walk_at "d-run"
    refine cB_n (by rfl) ?_
    walk_at "d-run"
    refine ⟨rfl, ?_⟩
    by_cases l3 : xs.length = 3
    · obtain ⟨a, b, c, rfl⟩ := len3 l3
      have ao := xok a (by simp)
      have bo := xok b (by simp)
      have co := xok c (by simp)
      refine cB_n (by simp) ?_
      walk_at "d-run"
      refine cS_i (at0 _ _) ?_
      walk_at "d-run"
      refine c_isnum ao ?_
      walk_at "d-run"
      cases ha : isNum a 1 32 with
      | false =>
        have z : netB (.tup [a, b, c]) = false := by
          by_cases hb : ∃ gs, b = .tup gs
          · obtain ⟨gs, rfl⟩ := hb
            rw [netB_3, ha]
            rfl
          · exact netB_no2 fun gs e => hb ⟨gs, e⟩
        rw [z] at q
        refine cB_y rfl ?_
        walk_at "d-run"
        exact q
      | true =>
      obtain ⟨i, rfl, i1, i2⟩ := isNum_int ha
      refine cB_n rfl ?_
      walk_at "d-run"
      show N _; rw [hN]; clear hN N
      refine seq_o fun N hN => ?_
      walk_at "d-run"
      show N _; rw [hN]; clear hN N
      refine seq_o fun N hN => ?_
      walk_at "d-run"
      by_cases hb : ∃ gs, b = .tup gs
      · obtain ⟨gs, rfl⟩ := hb
        obtain ⟨gl, gok⟩ := okB_tup bo
        rw [netB_3, ha, decide_eq_true gl, Bool.true_and, Bool.true_and] at q
        walk_at "d-run"
        refine cS_i (a := true) (by rfl) ?_
        walk_at "d-run"
        refine cB_n rfl ?_
        walk_at "d-run"
        by_cases hc : ∃ os, c = .tup os
        · obtain ⟨os, rfl⟩ := hc
          obtain ⟨ol, ook⟩ := okB_tup co
          have ho : outsB (.tup os) (numOf (DI' i) + gs.length) = (decide (1 ≤ os.length) && decide (os.length ≤ 32) && os.all fun x => isNum x 0 (i + gs.length - 1)) := rfl
          rw [ho] at q
          walk_at "d-run"
          refine cS_i (a := true) (by rfl) ?_
          walk_at "d-run"
          refine cB_n rfl ?_
          walk_at "d-run"
          by_cases h1 : 1 ≤ os.length
          · refine cB_y (decide_eq_true (by omega)) ?_
            walk_at "d-run"
            by_cases h2 : os.length ≤ 32
            · rw [decide_eq_true h1, decide_eq_true h2, Bool.true_and, Bool.true_and] at q
              refine cB_n (by simp; omega) ?_
              walk_at "d-run"
              show N _; rw [hN]; clear hN N
              refine seq_o fun N hN => ?_
              refine for_a fun T hT => ?_
              walk_at "d-run"
              rw [en_ds]
              have fp := for_pre (gt := dgTup (dgCons (dgName 4) (dgCons (dgName 5) dgNil))) (tb := T) (g := fun k : Nat => .tup [DI' (k : Int), gs.getD k DN']) (xs := List.range gs.length) (E := { nx := N, rt := fun w δ => isRes w ∧ Q w δ.an, ex := fun c δ => Y c δ.an })
                (fun p δ => ∃ s4 s5, δ = ⟨[some (.pu (.tup [DI' i, .tup gs, .tup os])), some (.pu (DI' i)), some (.pu (.tup gs)), some (.pu (.tup os)), s4, s5, none, none], [.pu (.tup [DI' i, .tup gs, .tup os])]⟩ ∧ ∀ k ∈ p, gateB (gs.getD k DN') (i + (k : Int)) = true)
                (δ := ⟨[some (.pu (.tup [DI' i, .tup gs, .tup os])), some (.pu (DI' i)), some (.pu (.tup gs)), some (.pu (.tup os)), none, none, none, none], [.pu (.tup [DI' i, .tup gs, .tup os])]⟩) ⟨none, none, rfl, fun k hk => by cases hk⟩
              refine fp (fun p k r δ K1 hk hI next => ?_) fun δ hI => ?_
              · obtain ⟨s4, s5, rfl, hI⟩ := hI
                have kl : k < gs.length := List.mem_range.mp (by rw [hk]; simp)
                walk_at "d-run"
                rw [hT]
                refine gi_body (gok _ (getD_mem kl)) (fun hg => next _ ⟨_, _, rfl, fun m hm => ?_⟩) fun hg => ⟨trivial, ?_⟩
                · rcases List.mem_append.mp hm with hm | hm
                  · exact hI m hm
                  · rw [List.mem_singleton.mp hm]; exact hg
                · have z : gatesB gs (numOf (DI' i)) = false := by
                    cases e : gatesB gs (numOf (DI' i)) with
                    | false => rfl
                    | true =>
                      have h2 : gateB (gs.getD k DN') (i + (k : Int)) = true := List.all_eq_true.mp e k (List.mem_range.mpr kl)
                      rw [h2] at hg
                      cases hg
                  rw [z, Bool.false_and] at q
                  exact q
              · obtain ⟨s4, s5, rfl, hI⟩ := hI
                have z : gatesB gs (numOf (DI' i)) = true := List.all_eq_true.mpr hI
                rw [z, Bool.true_and] at q
                clear fp
                show N _; rw [hN]; clear hN N
                walk_at "d-run"
                refine comp_f (fun x => !isNum x 0 (i + (gs.length : Int) - 1)) (fun _ => DI' 1) os [] _ (fun x hx K2 a => ?_) (by rw [List.length_nil, Nat.zero_add]; exact small_sl ol) ?_
                · walk_at "d-run"
                  refine c_isnum (ook x hx) ?_
                  walk_at "d-run"
                  refine a _ rfl fun _ K5 k5 => ?_
                  walk_at "d-run"
                  exact k5 _ rfl
                · walk_at "d-run"
                  refine ⟨Nat.zero_le _, ?_⟩
                  refine cS_i (pd_ones _) ?_
                  walk_at "d-run"
                  refine cS_i (a := PyData.list []) rfl ?_
                  walk_at "d-run"
                  refine ⟨⟨sp_ones _, rfl⟩, ?_⟩
                  rw [eqv_ones, not_all, Bool.false_xor]
                  exact q
            · rw [decide_eq_false h2, Bool.and_false, Bool.false_and, Bool.and_false] at q
              refine cB_y (by simp; omega) ?_
              walk_at "d-run"
              exact q
          · rw [decide_eq_false h1, Bool.false_and, Bool.false_and, Bool.and_false] at q
            refine cB_n (decide_eq_false (by omega)) ?_
            walk_at "d-run"
            refine cB_y rfl ?_
            walk_at "d-run"
            exact q
        · obtain ⟨t, e1, e2⟩ := kit_tup_no co fun os e => hc ⟨os, e⟩
          rw [outsB_no fun os e => hc ⟨os, e⟩, Bool.and_false] at q
          refine cS_i e1 ?_
          walk_at "d-run"
          refine cS_i e2 ?_
          walk_at "d-run"
          refine cB_y rfl ?_
          walk_at "d-run"
          exact q
      · obtain ⟨t, e1, e2⟩ := kit_tup_no bo fun gs e => hb ⟨gs, e⟩
        rw [netB_no2 fun gs e => hb ⟨gs, e⟩] at q
        refine cS_i e1 ?_
        walk_at "d-run"
        refine cS_i e2 ?_
        walk_at "d-run"
        refine cB_y rfl ?_
        walk_at "d-run"
        exact q
    · rw [netB_no fun a b c e => by cases e; exact l3 rfl] at q
      refine cB_y (by simp; omega) ?_
      walk_at "d-run"
      exact q
  · have nt : ∀ xs, d ≠ .tup xs := fun xs e => ht ⟨xs, e⟩
    obtain ⟨t, e1, e2⟩ := kit_tup_no ok nt
    rw [netB_no fun a b c => nt _] at q
    refine seq_o fun N hN => ?_
    walk_at "d-run"
    refine cS_i e1 ?_
    walk_at "d-run"
    refine cS_i e2 ?_
    walk_at "d-run"
    refine cB_y rfl ?_
    walk_at "d-run"
    exact q
end
end Lw

/-! text Q32e -/
set_option Elab.async false
set_option linter.all false
set_option maxRecDepth 100000
set_option maxHeartbeats 4000000
namespace Lw
open PySem PySem.Spec PyProof.Rows L2 DL
section
variable {P : Program} {w : World} {base : Heap} {K : PySem.W.Frag} {ws : List Wv} {Q : Wv → List Wv → Prop} {Y : Value → List Wv → Prop} {mg : Str → Option Value}
local macro_rules | `(tactic| walk_at "d-run") => `(tactic| try simp only [↓y_dSeq, ↓y_dC, ↓y_dG, ↓y_dOp, ↓y_dUn, ↓y_dNil, ↓y_dCons, ↓y_dCallP, ↓y_dTst, ↓y_dAnd, ↓y_dOr, ↓y_dNot, ↓y_dAndV, ↓y_dOrV, ↓y_dNotV, ↓y_dIf, ↓y_dFz, ↓y_dTup, ↓y_dLst, ↓y_dCall, ↓y_dLam, ↓y_dNext, ↓y_dBrk, ↓y_dCnt, ↓y_dDrop, ↓y_dRet, ↓y_dRetN, ↓y_dIfS, ↓y_dSet, ↓y_dgName, ↓y_dgNil, ↓y_dgCons, ↓y_dgTup, ↓y_dgLst, ↓y_dgTxt, ↓y_dAsg, ↓y_dIt, ↓y_dRng1, ↓y_dRng2, ↓y_dEnum, ↓y_dZip, ↓y_dFor, ↓y_dRaise, ↓y_dLc, ↓y_dLc2, ↓y_dYes, ↓y_dNewD, ↓y_dMi, ↓y_dMs, ↓y_dMl, ↓y_dgSet, ↓y_dPar, ↓y_dONo, ↓y_dOSome, ↓y_dSl, ↓y_dChain, ↓y_subP, ↓y_divP, ↓y_modP, ↓y_powP, ↓y_ltP, ↓y_leP, ↓y_gtP, ↓y_geP, ↓y_addP_i, ↓y_addP_s, ↓y_addP_l, ↓y_addP_t, ↓y_mulP_i, ↓y_mulP_s, ↓y_mulP_l, ↓y_mulP_t, ↓y_eqP_s, ↓y_eqP_ll, ↓y_eqP_lt, ↓y_eqP_ls, ↓y_eqP_ld, ↓y_eqP_tl, ↓y_eqP_tt, ↓y_eqP_ts, ↓y_eqP_td, ↓y_eqP_sl, ↓y_eqP_st, ↓y_eqP_sd, ↓y_eqP_dl, ↓y_eqP_dt, ↓y_eqP_ds, ↓y_eqP_dd, ↓y_inP_s, ↓y_inP_t, ↓y_inP_l, ↓y_isNP_s, ↓y_isNP_t, ↓y_isNP_l, ↓y_isNP_d, ↓y_isBP, ↓y_ixP_l, ↓y_ixP_t, ↓y_ixP_s, ↓y_lenP, ↓y_isiP, ↓y_allP, ↓y_anyP, ↓y_intP_i, ↓y_intP_b, ↓y_listP_l, ↓y_listP_t, ↓y_tupleP_l, ↓y_tupleP_t, ↓y_sortedSP, ↓y_reprP, ↓y_negP, ↓y_revP_s, ↓y_revP_l, ↓y_slP_l, ↓y_slP_t, ↓y_slP_r, ↓y_slP_s, ↓y_findP, ↓y_countP, ↓y_joinP, ↓y_lcountP_s, ↓y_lcountP_i, ↓y_appP, ↓y_insP, ↓kc_q, ↓kc_y, ↓k1_k, ↓k2_k, ↓k0_k, ↓kb_a, ↓kb_b, ↓cS_some, ↓cB_t, ↓cB_f, ↓cBl_i, ↓cInt_i, ↓cSD_i, ↓cLD_i, ↓cLM_i, ↓dLM_i, ↓cBw_i, ↓cPair_i, ↓cOne_i, ↓cI1_i, ↓cI2_i, ↓cTup_i, ↓cLst_i, ↓cTxt_i, ↓cCons_i, ↓cNil_i, ↓dVar, DS.put, DS.wipe, DS.rest, wipeL, restL, val, slD, vals, frz1, put1, out1, pures, dargs, dback, getM, setM, M.frz, start0, par, dEnds, isRes, itemsD, tyD, lenD, dLSet, dLRg, ↓y_inTabP, ↓y_ixTabP, ↓y_eqEP, ↓y_strP, ↓y_revP_t, ↓y_list2P_l, ↓y_list2P_t, ↓y_list2P_s, ↓y_reprP2, ↓y_dDGet, ↓y_dUpper, ↓y_dIsiT, ↓y_dCallB, strO, tyO, scO, List.getElem?_cons_zero, List.getElem?_cons_succ, List.set_cons_zero, List.set_cons_succ, List.cons_append, List.nil_append, List.replicate_succ, List.replicate_zero, List.length_cons, List.length_nil, Option.some.injEq, exists_eq_left', exists_eq_left, Wv.pu.injEq, D.sc.injEq, V.bl.injEq, V.int.injEq, V.str.injEq, Nat.reduceSub, Nat.reduceAdd, List.cons.injEq, and_true, true_and, exists_and_left, Option.map_some, if_true, if_false, Bool.false_eq_true, exists_eq_right, ex2a, ex2b, ex2c, D.tup.injEq, D.lst.injEq, M.lst.injEq, eq_self])
def someL : List D := [DN', DB' true, DB' false, DI' 0, DI' 1, DI' (-1), DI' 2, DI' 7, DS' "a", DS' "", DS' "?", DS' "01", .tup [], .lst [], .dic [], .tup [DI' 0], .tup [DS' "0"], .tup [DN'], .lst [DI' 0], DS' "and"]
theorem some_bent : ∀ e ∈ someL, ∀ d, Bent e d := by
  have h : ∀ e ∈ someL, lfB e = true ∧ (noD e || noL e) = true ∧ szD e ≤ 102 ∧ dpD e ≤ 2 := by
    have : (someL.all fun e => lfB e && (noD e || noL e) && decide (szD e ≤ 102) && decide (dpD e ≤ 2)) = true := by decide +kernel
    intro e he
    have := List.all_eq_true.mp this e he
    simp only [Bool.and_eq_true, decide_eq_true_eq] at this
    exact ⟨this.1.1.1, this.1.1.2, this.1.2, this.2⟩
  intro e he d
  obtain ⟨h1, h2, h3, h4⟩ := h e he
  exact bent_small h1 h2 h3 h4
theorem r__law_bent {n : Nat} (h : sp__law_bentN (n + 1) K ws Q Y) : t__law_bent (sp__law_bentN n K) K (dEnds Q Y) (start0 N__law_bent ws) := by
  obtain ⟨b, pen, d, rfl, hp, hb, hd, dp, sz, q⟩ := h
  have sl9 : 200000 < sizeLine := by decide
  simp only [t__law_bent, N__law_bent]
  refine seq_o fun N hN => ?_
  walk_at "d-run"
  refine ⟨by omega, by omega, by omega, by omega, by omega, by omega, by omega, ?_⟩
  show N _; rw [hN]; clear hN N
  refine seq_o fun N hN => ?_
  have hsome : ∀ (s3 s4 : Option Wv) (bb : Nat) (pen2 : List D) (d : D) {E : DEnds}, PenOk bb pen2 → bb < 100000000 → (∀ e pen', Bent e d → PenOk (bb + 1) pen' → E.rt (.pu e) ⟨[some (.io 0), some (.pu d), some (.pu (.lst someL)), s3, s4], [.ow (.lst pen'), .pu d]⟩) →
      dRet (dCall ((sp__law_one_of K)) (dCons (dVar 0) (dCons (dFz (dVar 2)) (dNil)))) E ⟨[some (.io 0), some (.pu d), some (.ow (.lst someL)), s3, s4], [.ow (.lst pen2), .pu d]⟩ := by
    intro s3 s4 bb pen2 d E hp hb q
    walk_at "d-run"
    refine one_of_call hp (by omega) (.inl rfl) (by simp [someL]) (by decide) fun e pen3 he hp3 => ?_
    walk_at "d-run"
    exact q _ _ (some_bent e he d) hp3
  cases d with
  | lst xs => cases hd
  | dic xs => cases hd
  | scr ns => cases hd
  | sc v =>
    cases v with
    | non => cases hd
    | bl _ => cases hd
    | ty _ => cases hd
    | int i =>
      obtain ⟨i0, i6⟩ : 0 ≤ i ∧ i < 1000000 := by simpa only [ptB, Bool.and_eq_true, decide_eq_true_eq] using hd
      walk_at "d-run"
      refine cS_i (a := false) (by rfl) ?_
      walk_at "d-run"
      refine cS_i (a := true) (by rfl) ?_
      walk_at "d-run"
      refine cB_n rfl ?_
      walk_at "d-run"
      refine take_call hp (by omega) (by omega) (by omega) fun t pen1 t0 t1 hp1 => ?_
      walk_at "d-run"
      refine ⟨rfl, ?_⟩
      by_cases ht : t = 0
      · refine cB_y (by simp [ht]) ?_
        refine hsome _ _ _ _ _ hp1 (by omega) fun e pen' he hp' => ⟨trivial, q _ _ he (hp'.mono (by omega))⟩
      · refine cB_n (by simp [ht]) ?_
        walk_at "d-run"
        show N _; rw [hN]; clear hN N
        refine seq_o fun N hN => ?_
        walk_at "d-run"
        refine cS_i (a := true) (by rfl) ?_
        walk_at "d-run"
        refine cB_y (decide_eq_true i0) ?_
        walk_at "d-run"
        have lg : i.natAbs.log2 < 1920 := by
          by_cases z : i.natAbs = 0
          · rw [z]; decide
          · exact Nat.lt_trans ((Nat.log2_lt z).mpr (show i.natAbs < 2 ^ 20 by omega)) (by decide)
        have hfin : ∀ (x3 : D) (e : D) (pen' : List D), Bent x3 (DI' i) → e ∈ [DI' (i + 1), DI' (-1), x3, .sc (.str (toString i : String)), DI' (i + 9)] → PenOk (b + 1 + 1) pen' → isRes (.pu e) ∧ Q (.pu e) [.ow (.lst pen'), .pu (DI' i)] := fun x3 e pen' h3 he hp' => by
          refine ⟨trivial, q _ _ ?_ (hp'.mono (by omega))⟩
          have hi : ∀ j : Int, j.natAbs < 1000000000 → Bent (DI' j) (DI' i) := fun j hj => bent_small (by simp only [lfB, decide_eq_true_eq]; exact hj) rfl (by simp only [szD]; omega) (by simp only [dpD]; omega)
          simp only [List.mem_cons, List.not_mem_nil, or_false] at he
          rcases he with rfl | rfl | rfl | rfl | rfl
          · exact hi _ (by omega)
          · exact hi _ (by omega)
          · exact h3
          · obtain ⟨m, rfl⟩ := Int.eq_ofNat_of_zero_le i0
            exact tx_lf (tx_num (by omega)) _
          · exact hi _ (by omega)
        by_cases i2 : i < 2
        · refine cB_y (decide_eq_true i2) ?_
          walk_at "d-run"
          refine ⟨rfl, lg, by omega, one_of_call hp1 (by omega) (.inl rfl) (by simp) (by simp) fun e pen3 he hp3 => ?_⟩
          walk_at "d-run"
          exact And.right <| hfin _ e pen3 (bent_small rfl rfl (by simp only [szD]; omega) (by simp only [dpD]; omega)) he hp3
        · refine cB_n (decide_eq_false i2) ?_
          walk_at "d-run"
          refine ⟨lg, by omega, one_of_call hp1 (by omega) (.inl rfl) (by simp) (by simp) fun e pen3 he hp3 => ?_⟩
          walk_at "d-run"
          exact And.right <| hfin _ e pen3 (bent_small rfl rfl (by simp only [szD]; omega) (by simp only [dpD]; omega)) he hp3
    | str z =>
      walk_at "d-run"
      refine cS_i (a := false) (by rfl) ?_
      walk_at "d-run"
      refine cS_i (a := true) (by rfl) ?_
      walk_at "d-run"
      refine cB_n rfl ?_
      walk_at "d-run"
      refine take_call hp (by omega) (by omega) (by omega) fun t pen1 t0 t1 hp1 => ?_
      walk_at "d-run"
      refine ⟨rfl, ?_⟩
      by_cases ht : t = 0
      · refine cB_y (by simp [ht]) ?_
        refine hsome _ _ _ _ _ hp1 (by omega) fun e pen' he hp' => ⟨trivial, q _ _ he (hp'.mono (by omega))⟩
      · refine cB_n (by simp [ht]) ?_
        walk_at "d-run"
        show N _; rw [hN]; clear hN N
        refine seq_o fun N hN => ?_
        walk_at "d-run"
        refine cS_i (a := false) (by rfl) ?_
        walk_at "d-run"
        show N _; rw [hN]; clear hN N
        refine seq_o fun N hN => ?_
        walk_at "d-run"
        have hx := tx_of hd
        have zl : z.length ≤ 32 := hx.1
        rw [if_pos (Nat.le_trans hx.1 (by omega))]
        walk_at "d-run"
        refine ⟨rfl, ?_⟩
        by_cases hz : z.length = 0
        · refine cB_y (by simp [hz]) ?_
          refine hsome _ _ _ _ _ hp1 (by omega) fun e pen' he hp' => ⟨trivial, q _ _ he (hp'.mono (by omega))⟩
        · refine cB_n (by simp [hz]) ?_
          walk_at "d-run"
          show N _; rw [hN]; clear hN N
          refine seq_o fun N hN => ?_
          walk_at "d-run"
          rw [if_pos (Nat.le_trans hx.1 (by omega))]
          walk_at "d-run"
          refine take_call hp1 (by omega) (by omega) (by omega) fun k pen2 k0 k1 hp2 => ?_
          walk_at "d-run"
          refine take_call hp2 (by omega) (by omega) (by omega) fun y pen3 y0 y1 hp3 => ?_
          walk_at "d-run"
          show N _; rw [hN]; clear hN N
          refine seq_o fun N hN => ?_
          walk_at "d-run"
          refine cS_i (a := true) (by rfl) ?_
          walk_at "d-run"
          have cl : ∀ lo hi, (cutS z lo hi).length ≤ 32 := fun lo hi => (tx_cut hx lo hi).1
          have c1 := cl none (some k)
          have c2 := cl (some (k + 1)) none
          refine ⟨by omega, by omega, by omega, by omega, ?_⟩
          obtain ⟨c, ec, hc⟩ := at_of (xs := z.cps.toList) k0 (by rw [Array.length_toList]; exact k1)
          refine cS_i ec ?_
          walk_at "d-run"
          have hc1 := tx_sign (hx.2 c hc)
          refine ⟨by have := hc1.1; omega, ?_⟩
          refine ⟨by omega, by omega, by omega, by omega, one_of_call hp3 (by omega) (.inl rfl) (by simp) (by simp) fun e pen4 he hp4 => ?_⟩
          walk_at "d-run"
          refine q _ _ ?_ (hp4.mono (by omega))
          simp only [List.mem_cons, List.not_mem_nil, or_false] at he
          rcases he with rfl | rfl | rfl | rfl | rfl
          · exact tx_lf (tx_app (tx_cut hx _ _) (tx_cut hx _ _)) _
          · exact tx_lf (tx_le (tx_app hx hc1) (by omega)) _
          · exact tx_lf (tx_le (tx_rev hx) (by omega)) _
          · exact tx_lf (tx_le (tx_upper hx) (by omega)) _
          · exact tx_list hx _
    | _ => cases hd
  | tup xs =>
    walk_at "d-run"
    refine cS_i (a := false) (by rfl) ?_
    walk_at "d-run"
    refine cS_i (a := true) (by rfl) ?_
    walk_at "d-run"
    refine cB_n rfl ?_
    walk_at "d-run"
    refine take_call hp (by omega) (by omega) (by omega) fun t pen1 t0 t1 hp1 => ?_
    walk_at "d-run"
    refine ⟨rfl, ?_⟩
    by_cases ht : t = 0
    · refine cB_y (by simp [ht]) ?_
      refine hsome _ _ _ _ _ hp1 (by omega) fun e pen' he hp' => ⟨trivial, q _ _ he (hp'.mono (by omega))⟩
    · refine cB_n (by simp [ht]) ?_
      walk_at "d-run"
      show N _; rw [hN]; clear hN N
      refine seq_o fun N hN => ?_
      walk_at "d-run"
      refine cS_i (a := false) (by rfl) ?_
      walk_at "d-run"
      show N _; rw [hN]; clear hN N
      refine seq_o fun N hN => ?_
      walk_at "d-run"
      refine ⟨rfl, ?_⟩
      by_cases hz : xs.length = 0
      · refine cB_y (by simp [hz]) ?_
        refine hsome _ _ _ _ _ hp1 (by omega) fun e pen' he hp' => ⟨trivial, q _ _ he (hp'.mono (by omega))⟩
      · refine cB_n (by simp [hz]) ?_
        have xl : xs.length ≤ 2000 := by
          have := szs_len xs
          simp only [szD] at sz
          omega
        walk_at "d-run"
        show N _; rw [hN]; clear hN N
        refine seq_o fun N hN => ?_
        walk_at "d-run"
        refine take_call hp1 (by omega) (by omega) (by omega) fun k pen2 k0 k1 hp2 => ?_
        walk_at "d-run"
        refine take_call hp2 (by omega) (by omega) (by omega) fun y pen3 y0 y1 hp3 => ?_
        walk_at "d-run"
        show N _; rw [hN]; clear hN N
        refine seq_o fun N hN => ?_
        walk_at "d-run"
        refine cS_i (a := false) (by rfl) ?_
        walk_at "d-run"
        show N _; rw [hN]; clear hN N
        refine seq_o fun N hN => ?_
        walk_at "d-run"
        obtain ⟨j, rfl⟩ := Int.eq_ofNat_of_zero_le k0
        obtain ⟨l, x, r, rfl, rfl⟩ := split_at (xs := xs) (k := j) (by omega)
        by_cases y3 : 3 < y
        · refine cB_y (decide_eq_true y3) ?_
          walk_at "d-run"
          refine cS_i (atI_nat (by simp)) ?_
          rw [show (l ++ x :: r)[l.length] = x by simp]
          walk_at "d-run"
          have hx : ptB x = true := by
            simp only [ptB, ptBs_all, List.all_append, List.all_cons, Bool.and_eq_true] at hd
            exact hd.2.1
          have hs := hd
          simp only [ptB] at hs
          have sz1 : szD x ≤ 2000 := by simp only [szD, szDs_app, szDs] at sz; omega
          have dp1 : dpD x + 1 ≤ n := by simp only [dpD, dpDs_app, dpDs] at dp; omega
          refine ⟨_, pen3, x, rfl, hp3, by omega, hx, dp1, sz1, fun e pen' he hp' => ?_⟩
          walk_at "d-run"
          rw [cut_l, cut_r]
          have hsz : l.length + r.length ≤ 2000 := by rw [List.length_append, List.length_cons] at xl; omega
          refine ⟨by omega, by omega, by rw [List.length_append, List.length_singleton]; omega, ?_⟩
          rw [List.append_assoc, List.singleton_append]
          exact q _ _ (bent_mid hs he) (hp'.mono (by omega))
        · refine cB_n (decide_eq_false y3) ?_
          walk_at "d-run"
          show N _; rw [hN]; clear hN N
          walk_at "d-run"
          rw [cut_l, cut_r, cut_mid, cut_xr]
          have hsz : l.length + r.length + 1 ≤ 2000 := by rw [List.length_append, List.length_cons] at xl; omega
          refine ⟨by omega, by rw [List.length_singleton]; omega, by rw [List.length_append, List.length_singleton, List.length_cons]; omega, by omega, ?_⟩
          simp only [ptB] at hd
          have p1 := (bent_parts (ys := l ++ r) hd (fun y hy => by
            simp only [List.mem_append, List.mem_cons] at hy ⊢
            rcases hy with h | h
            · exact .inl h
            · exact .inr (.inr h)) (by simp only [szDs_app, szDs]; omega)).1
          have p2 := (bent_parts (ys := l ++ [x] ++ x :: r) hd (fun y hy => by
            simp only [List.mem_append, List.mem_cons, List.not_mem_nil, or_false] at hy ⊢
            rcases hy with (h | h) | h | h
            · exact .inl h
            · exact .inr (.inl h)
            · exact .inr (.inl h)
            · exact .inr (.inr h)) (by simp only [szDs_app, szDs]; omega)).1
          have p3 := (bent_parts (ys := l ++ x :: r) hd (fun y hy => hy) (by omega)).2
          have p4 := (bent_parts (ys := (l ++ x :: r).reverse) hd (fun y hy => List.mem_reverse.mp hy) (by rw [szDs_rev]; omega)).1
          obtain ⟨e, ee, he⟩ := at_of (xs := [D.tup (l ++ r), D.tup (l ++ [x] ++ x :: r), D.lst (l ++ x :: r), D.tup (l ++ x :: r).reverse]) (i := y) y0 (by simp; omega)
          refine cS_i ee ?_
          walk_at "d-run"
          refine q _ _ ?_ (hp3.mono (by omega))
          simp only [List.mem_cons, List.not_mem_nil, or_false] at he
          rcases he with rfl | rfl | rfl | rfl
          · exact p1
          · exact p2
          · exact p3
          · exact p4
end
end Lw

/-! text Q32f -/
set_option Elab.async false
set_option linter.all false
set_option maxRecDepth 100000
set_option maxHeartbeats 4000000
namespace Lw
open PySem PySem.Spec PyProof.Rows L2 DL
section
variable {P : Program} {w : World} {base : Heap} {K : PySem.W.Frag} {ws : List Wv} {Q : Wv → List Wv → Prop} {Y : Value → List Wv → Prop} {mg : Str → Option Value}
/-- a part of a net, small -/
structure Sm (xs : List D) (n d : Nat) : Prop where
  lf : lfBs xs = true
  no : noDs xs = true
  nl : noLs xs = true
  sz : szDs xs ≤ n
  dp : dpDs xs ≤ d
theorem sm_app {xs ys : List D} {n m d : Nat} (a : Sm xs n d) (b : Sm ys m d) : Sm (xs ++ ys) (n + m) d := by
  refine ⟨?_, ?_, ?_, ?_, ?_⟩
  · rw [lfBs_all, List.all_append, ← lfBs_all, ← lfBs_all, a.lf, b.lf]; rfl
  · rw [noDs_all, List.all_append, ← noDs_all, ← noDs_all, a.no, b.no]; rfl
  · rw [noLs_all, List.all_append, ← noLs_all, ← noLs_all, a.nl, b.nl]; rfl
  · rw [szDs_app]; have := a.sz; have := b.sz; omega
  · rw [dpDs_app]; have := a.dp; have := b.dp; omega
theorem sm_cons {x : D} {ys : List D} {n m d : Nat} (h1 : ptB x = true) (h2 : szD x ≤ n) (h3 : dpD x ≤ d) (b : Sm ys m d) : Sm (x :: ys) (n + m) d := by
  obtain ⟨a1, a2, a3⟩ := pt_plain x h1
  refine ⟨?_, ?_, ?_, ?_, ?_⟩
  · simp only [lfBs, a1, b.lf]; rfl
  · simp only [noDs, a2, b.no]; rfl
  · simp only [noLs, a3, b.nl]; rfl
  · simp only [szDs]; have := b.sz; omega
  · simp only [dpDs]; have := b.dp; omega
theorem sm_nil (n d : Nat) : Sm [] n d := ⟨rfl, rfl, rfl, Nat.zero_le _, Nat.zero_le _⟩
theorem pt_int {i : Int} (h0 : 0 ≤ i) (h1 : i < 1000000) : ptB (DI' i) = true := by
  simp only [ptB, Bool.and_eq_true, decide_eq_true_eq]
  exact ⟨h0, h1⟩
theorem pt_tup {xs : List D} (h : ∀ x ∈ xs, ptB x = true) : ptB (.tup xs) = true := by
  simp only [ptB, ptBs_all]
  exact List.all_eq_true.mpr h
/-- a gate is a short tuple -/
theorem gate_pt {g : D} {b : Int} (h : gateB g b = true) (hb : b ≤ 1000) : ptB g = true ∧ szD g ≤ 4 ∧ dpD g ≤ 1 := by
  rcases gate_cases h with ⟨z, hz, rfl⟩ | ⟨i, rfl, i1, i2⟩ | ⟨z, i, j, hz, rfl, ⟨i1, i2⟩, j1, j2⟩
  · rcases hz with rfl | rfl
    · exact ⟨by decide +kernel, by decide +kernel, by decide +kernel⟩
    · exact ⟨by decide +kernel, by decide +kernel, by decide +kernel⟩
  · refine ⟨?_, ?_, ?_⟩
    · refine pt_tup fun x hx => ?_
      simp only [List.mem_cons, List.not_mem_nil, or_false] at hx
      rcases hx with rfl | rfl
      · decide +kernel
      · exact pt_int (by omega) (by omega)
    · simp only [szD, szDs]; omega
    · simp only [dpD, dpDs]; omega
  · refine ⟨?_, ?_, ?_⟩
    · refine pt_tup fun x hx => ?_
      simp only [List.mem_cons, List.not_mem_nil, or_false] at hx
      rcases hx with rfl | rfl | rfl
      · rcases hz with rfl | rfl <;> decide +kernel
      · exact pt_int (by omega) (by omega)
      · exact pt_int (by omega) (by omega)
    · simp only [szD, szDs]; omega
    · simp only [dpD, dpDs]; omega
theorem ptBs_get {gs : List D} (h : ∀ k, k < gs.length → ptB (gs.getD k DN') = true) : ∀ x ∈ gs, ptB x = true := fun x hx => by
  obtain ⟨k, hk, e⟩ := List.getElem_of_mem hx
  have := h k hk
  rw [List.getD_eq_getElem?_getD, List.getElem?_eq_getElem hk, Option.getD_some, e] at this
  exact this
theorem sz_le {gs : List D} {n : Nat} (h : ∀ x ∈ gs, szD x ≤ n) : szDs gs ≤ n * gs.length := by
  induction gs with
  | nil => simp only [szDs]; omega
  | cons x xs ih =>
    have := h x (by simp)
    have := ih fun y hy => h y (List.mem_cons_of_mem _ hy)
    simp only [szDs, List.length_cons, Nat.mul_add]
    omega
theorem Net.pt {d : D} {n : Nat} {gs os : List D} (t : Net d n gs os) (hg : gs.length ≤ 900) : (∀ x ∈ gs, ptB x = true ∧ szD x ≤ 4 ∧ dpD x ≤ 1) ∧ (∀ x ∈ os, ptB x = true ∧ szD x ≤ 1 ∧ dpD x ≤ 0) := by
  have n32 := t.n32
  refine ⟨fun x hx => ?_, fun x hx => ?_⟩
  · obtain ⟨k, hk, e⟩ := List.getElem_of_mem hx
    have := t.gate k hk
    rw [List.getD_eq_getElem?_getD, List.getElem?_eq_getElem hk, Option.getD_some, e] at this
    exact gate_pt this (by omega)
  · obtain ⟨i, rfl, i0, i1⟩ := t.out x hx
    exact ⟨pt_int i0 (by omega), by simp only [szD]; omega, by simp only [dpD]; omega⟩
theorem Net.smG {d : D} {n : Nat} {gs os : List D} (t : Net d n gs os) (hg : gs.length ≤ 900) : Sm gs (4 * gs.length) 1 := by
  have h := (t.pt hg).1
  obtain ⟨a, b, c⟩ := pts_plain gs (by rw [ptBs_all]; exact List.all_eq_true.mpr fun x hx => (h x hx).1)
  exact ⟨a, b, c, sz_le fun x hx => (h x hx).2.1, dpDs_le fun x hx => (h x hx).2.2⟩
theorem Net.smO {d : D} {n : Nat} {gs os : List D} (t : Net d n gs os) (hg : gs.length ≤ 900) : Sm os os.length 0 := by
  have h := (t.pt hg).2
  obtain ⟨a, b, c⟩ := pts_plain os (by rw [ptBs_all]; exact List.all_eq_true.mpr fun x hx => (h x hx).1)
  exact ⟨a, b, c, by have := sz_le fun x hx => (h x hx).2.1; omega, dpDs_le fun x hx => (h x hx).2.2⟩
theorem Net.ptB {d : D} {n : Nat} {gs os : List D} (t : Net d n gs os) (hg : gs.length ≤ 900) : DL.ptB d = true ∧ szD d ≤ 3 + 4 * gs.length + os.length + 1 ∧ dpD d ≤ 3 := by
  obtain ⟨h1, h2⟩ := t.pt hg
  have a := t.smG hg
  have b := t.smO hg
  have n32 := t.n32
  rw [t.eq]
  refine ⟨pt_tup fun x hx => ?_, ?_, ?_⟩
  · simp only [List.mem_cons, List.not_mem_nil, or_false] at hx
    rcases hx with rfl | rfl | rfl
    · exact pt_int (by omega) (by omega)
    · exact pt_tup fun x hx => (h1 x hx).1
    · exact pt_tup fun x hx => (h2 x hx).1
  · have := a.sz
    have := b.sz
    simp only [szD, szDs]
    omega
  · have := a.dp
    have := b.dp
    simp only [dpD, dpDs]
    omega
theorem rep_sm {os : List D} (h : Sm os os.length 0) (hl : os.length ≤ 3) : Sm (List.replicate 33 os).flatten 99 0 := by
  have : ∀ k, Sm (List.replicate k os).flatten (3 * k) 0 := fun k => by
    induction k with
    | zero => exact sm_nil _ _
    | succ k ih =>
      rw [List.replicate_succ, List.flatten_cons]
      have := sm_app h ih
      exact ⟨this.lf, this.no, this.nl, by have := this.sz; omega, this.dp⟩
  exact this 33
theorem Sm.good3 {a : D} {gs os : List D} {n m d e : Nat} (ha : ptB a = true) (hz : szD a ≤ 200) (hd : dpD a ≤ 5) (g : Sm gs n d) (o : Sm os m e) (hn : n ≤ 2000) (hm : m ≤ 2000) (h1 : d ≤ 5) (h2 : e ≤ 5) :
    goodB (.tup [a, .tup gs, .tup os]) = true ∧ goodB (.tup [a, .lst gs, .tup os]) = true ∧ goodB (.tup [a, .tup gs, .lst os]) = true ∧ goodB (.lst [a, .tup gs, .tup os]) = true ∧ goodB (.tup [a, .tup gs]) = true ∧ goodB (.tup [a, .tup gs, .tup os, DI' 0]) = true := by
  obtain ⟨a1, a2, a3⟩ := pt_plain a ha
  have s1 := g.sz
  have s2 := o.sz
  have p1 := g.dp
  have p2 := o.dp
  have z0 : lfB (DI' 0) = true := by decide
  have z1 : noD (DI' 0) = true := by decide
  have z2 : noL (DI' 0) = true := by decide
  refine ⟨?_, ?_, ?_, ?_, ?_, ?_⟩ <;>
  · simp only [goodB, lfB, lfBs, noD, noDs, noL, noLs, szD, szDs, dpD, dpDs, g.lf, g.no, g.nl, o.lf, o.no, o.nl, a1, a2, a3, Bool.and_true, Bool.true_and, Bool.true_or, Bool.or_true, Bool.and_eq_true, decide_eq_true_eq]
    first | exact ⟨decide_eq_true (by omega), decide_eq_true (by omega)⟩ | exact ⟨⟨by decide, decide_eq_true (by omega)⟩, decide_eq_true (by omega)⟩
end
end Lw

/-! text Q32g -/
set_option Elab.async false
set_option linter.all false
set_option maxRecDepth 100000
set_option maxHeartbeats 4000000
namespace Lw
open PySem PySem.Spec PyProof.Rows L2 DL
section
variable {P : Program} {w : World} {base : Heap} {K : PySem.W.Frag} {ws : List Wv} {Q : Wv → List Wv → Prop} {Y : Value → List Wv → Prop} {mg : Str → Option Value}
local macro_rules | `(tactic| walk_at "d-run") => `(tactic| try simp only [↓y_dSeq, ↓y_dC, ↓y_dG, ↓y_dOp, ↓y_dUn, ↓y_dNil, ↓y_dCons, ↓y_dCallP, ↓y_dTst, ↓y_dAnd, ↓y_dOr, ↓y_dNot, ↓y_dAndV, ↓y_dOrV, ↓y_dNotV, ↓y_dIf, ↓y_dFz, ↓y_dTup, ↓y_dLst, ↓y_dCall, ↓y_dLam, ↓y_dNext, ↓y_dBrk, ↓y_dCnt, ↓y_dDrop, ↓y_dRet, ↓y_dRetN, ↓y_dIfS, ↓y_dSet, ↓y_dgName, ↓y_dgNil, ↓y_dgCons, ↓y_dgTup, ↓y_dgLst, ↓y_dgTxt, ↓y_dAsg, ↓y_dIt, ↓y_dRng1, ↓y_dRng2, ↓y_dEnum, ↓y_dZip, ↓y_dFor, ↓y_dRaise, ↓y_dLc, ↓y_dLc2, ↓y_dYes, ↓y_dNewD, ↓y_dMi, ↓y_dMs, ↓y_dMl, ↓y_dgSet, ↓y_dPar, ↓y_dONo, ↓y_dOSome, ↓y_dSl, ↓y_dChain, ↓y_subP, ↓y_divP, ↓y_modP, ↓y_powP, ↓y_ltP, ↓y_leP, ↓y_gtP, ↓y_geP, ↓y_addP_i, ↓y_addP_s, ↓y_addP_l, ↓y_addP_t, ↓y_mulP_i, ↓y_mulP_s, ↓y_mulP_l, ↓y_mulP_t, ↓y_eqP_s, ↓y_eqP_ll, ↓y_eqP_lt, ↓y_eqP_ls, ↓y_eqP_ld, ↓y_eqP_tl, ↓y_eqP_tt, ↓y_eqP_ts, ↓y_eqP_td, ↓y_eqP_sl, ↓y_eqP_st, ↓y_eqP_sd, ↓y_eqP_dl, ↓y_eqP_dt, ↓y_eqP_ds, ↓y_eqP_dd, ↓y_inP_s, ↓y_inP_t, ↓y_inP_l, ↓y_isNP_s, ↓y_isNP_t, ↓y_isNP_l, ↓y_isNP_d, ↓y_isBP, ↓y_ixP_l, ↓y_ixP_t, ↓y_ixP_s, ↓y_lenP, ↓y_isiP, ↓y_allP, ↓y_anyP, ↓y_intP_i, ↓y_intP_b, ↓y_listP_l, ↓y_listP_t, ↓y_tupleP_l, ↓y_tupleP_t, ↓y_sortedSP, ↓y_reprP, ↓y_negP, ↓y_revP_s, ↓y_revP_l, ↓y_slP_l, ↓y_slP_t, ↓y_slP_r, ↓y_slP_s, ↓y_findP, ↓y_countP, ↓y_joinP, ↓y_lcountP_s, ↓y_lcountP_i, ↓y_appP, ↓y_insP, ↓kc_q, ↓kc_y, ↓k1_k, ↓k2_k, ↓k0_k, ↓kb_a, ↓kb_b, ↓cS_some, ↓cB_t, ↓cB_f, ↓cBl_i, ↓cInt_i, ↓cSD_i, ↓cLD_i, ↓cLM_i, ↓dLM_i, ↓cBw_i, ↓cPair_i, ↓cOne_i, ↓cI1_i, ↓cI2_i, ↓cTup_i, ↓cLst_i, ↓cTxt_i, ↓cCons_i, ↓cNil_i, ↓dVar, DS.put, DS.wipe, DS.rest, wipeL, restL, val, slD, vals, frz1, put1, out1, pures, dargs, dback, getM, setM, M.frz, start0, par, dEnds, isRes, itemsD, tyD, lenD, dLSet, dLRg, ↓y_inTabP, ↓y_ixTabP, ↓y_eqEP, ↓y_strP, ↓y_revP_t, ↓y_list2P_l, ↓y_list2P_t, ↓y_list2P_s, ↓y_reprP2, ↓y_dDGet, ↓y_dUpper, ↓y_dIsiT, ↓y_dCallB, strO, tyO, scO, List.getElem?_cons_zero, List.getElem?_cons_succ, List.set_cons_zero, List.set_cons_succ, List.cons_append, List.nil_append, List.replicate_succ, List.replicate_zero, List.length_cons, List.length_nil, Option.some.injEq, exists_eq_left', exists_eq_left, Wv.pu.injEq, D.sc.injEq, V.bl.injEq, V.int.injEq, V.str.injEq, Nat.reduceSub, Nat.reduceAdd, List.cons.injEq, and_true, true_and, exists_and_left, Option.map_some, if_true, if_false, Bool.false_eq_true, exists_eq_right, ex2a, ex2b, ex2c, D.tup.injEq, D.lst.injEq, M.lst.injEq, eq_self])
structure Sn (xs : List D) (n d : Nat) : Prop where
  lf : lfBs xs = true
  no : noDs xs = true
  sz : szDs xs ≤ n
  dp : dpDs xs ≤ d
theorem Sm.sn {xs : List D} {n d : Nat} (a : Sm xs n d) : Sn xs n d := ⟨a.lf, a.no, a.sz, a.dp⟩
theorem sn_app {xs ys : List D} {n m d e : Nat} (a : Sn xs n d) (b : Sn ys m e) : Sn (xs ++ ys) (n + m) (d + e) := by
  refine ⟨?_, ?_, ?_, ?_⟩
  · rw [lfBs_all, List.all_append, ← lfBs_all, ← lfBs_all, a.lf, b.lf]; rfl
  · rw [noDs_all, List.all_append, ← noDs_all, ← noDs_all, a.no, b.no]; rfl
  · rw [szDs_app]; have := a.sz; have := b.sz; omega
  · rw [dpDs_app]; have := a.dp; have := b.dp; omega
theorem sn_one {x : D} {n d : Nat} (h : (lfB x && noD x) = true) (h2 : szD x ≤ n) (h3 : dpD x ≤ d) : Sn [x] n d := by
  rw [Bool.and_eq_true] at h
  exact ⟨by simp only [lfBs, h.1]; rfl, by simp only [noDs, h.2]; rfl, by simp only [szDs]; omega, by simp only [dpDs]; omega⟩
theorem sn_good {i : Nat} {G O : List D} {n m d e : Nat} (hi : i ≤ 1000) (g : Sn G n d) (o : Sn O m e) (h1 : n ≤ 2000) (h2 : m ≤ 2000) (h3 : d ≤ 10) (h4 : e ≤ 10) : goodB (.tup [DI' (i : Int), .tup G, .tup O]) = true := by
  have s1 := g.sz
  have s2 := o.sz
  have p1 := g.dp
  have p2 := o.dp
  have z0 : lfB (DI' (i : Int)) = true := by simp only [lfB, decide_eq_true_eq]; omega
  simp only [goodB, z0, lfB, lfBs, noD, noDs, szD, szDs, dpD, dpDs, g.lf, g.no, o.lf, o.no, Bool.and_true, Bool.true_and, Bool.true_or, Bool.or_true, Bool.and_eq_true]
  first | exact ⟨decide_eq_true (by omega), decide_eq_true (by omega)⟩ | exact ⟨⟨decide_eq_true (by omega), decide_eq_true (by omega)⟩, decide_eq_true (by omega)⟩
def oddL (n : Nat) (gs os : List D) : List D := [DN', .tup [], .tup [DI' (n : Int), .tup gs], .lst [DI' (n : Int), .tup gs, .tup os], .tup [DI' (n : Int), .tup gs, .tup os, DI' 0], .tup [DI' (n : Int), .lst gs, .tup os], .tup [DI' (n : Int), .tup gs, .lst os],
  .tup [DI' 0, .tup [], .tup [DI' 0]], .tup [DI' 33, .tup [], .tup [DI' 0]], .tup [DB' true, .tup [], .tup [DI' 0]], .tup [DI' (n : Int), .tup gs, .tup (os ++ [DI' ((n : Int) + (gs.length : Int))])], DI' 7, .dic [], .tup [DI' (n : Int), .tup gs, .tup [DI' (-1)]], .tup [DI' (n : Int), .tup gs, .tup []],
  .tup [DI' (n : Int), .tup (gs ++ [.tup [DS' "and", DI' ((n : Int) + (gs.length : Int)), DI' 0]]), .tup os], .tup [DI' (n : Int), .tup (gs ++ [.tup [DS' "xor", DI' 0, DI' 0]]), .tup os], DS' "net",
  .tup [DI' (n : Int), .tup (gs ++ [.tup [DS' "not", DI' 0, DI' 0]]), .tup os], .tup [DI' (n : Int), .tup (gs ++ [.tup [DS' "and", DI' 0]]), .tup os], .tup [DI' (n : Int), .tup (gs ++ [.tup [DS' "0", DI' 0]]), .tup os],
  .tup [DI' (n : Int), .tup (gs ++ [.lst [DS' "not", DI' 0]]), .tup os], .tup [DI' (n : Int), .tup (gs ++ [.tup [DS' "or", DI' 0, DB' true]]), .tup os], .tup [DI' (n : Int), .tup (gs ++ [.tup []]), .tup os],
  .tup [DI' (n : Int), .tup (gs ++ [.tup [DN', DI' 0]]), .tup os], .tup [DI' (n : Int), .tup (gs ++ [DS' "not"]), .tup os], .tup [DI' (n : Int), .tup gs, .tup (List.replicate (Int.toNat 33) os).flatten], .tup [DI' (n : Int), .tup gs, .tup [DN']]]
theorem odd_good {n : Nat} {gs os : List D} {d : D} (t : Net d n gs os) (g9 : gs.length ≤ 9) (o3 : os.length ≤ 3) : ∀ x ∈ oddL n gs os, goodB x = true := by
  have g := t.smG (by omega)
  have o := t.smO (by omega)
  have n32 := t.n32
  have hn : ptB (DI' (n : Int)) = true := pt_int (by omega) (by omega)
  obtain ⟨k1, k2, k3, k4, k5, k6⟩ := g.good3 (a := DI' (n : Int)) hn (by simp only [szD]; omega) (by simp only [dpD]; omega) o (by omega) (by omega) (by omega) (by omega)
  have go : ∀ X : D, (lfB X && noD X) = true → szD X ≤ 9 → dpD X ≤ 2 → goodB (.tup [DI' (n : Int), .tup (gs ++ [X]), .tup os]) = true := fun X h1 h2 h3 => sn_good (by omega) (sn_app g.sn (sn_one h1 h2 h3)) o.sn (by omega) (by omega) (by omega) (by omega)
  have gn : ∀ (O : List D) (m e : Nat), Sn O m e → m ≤ 200 → e ≤ 3 → goodB (.tup [DI' (n : Int), .tup gs, .tup O]) = true := fun O m e h h1 h2 => sn_good (by omega) g.sn h (by omega) (by omega) (by omega) (by omega)
  have li : lfB (DI' ((n : Int) + (gs.length : Int))) = true := by simp only [lfB, decide_eq_true_eq]; omega
  intro x hx
  simp only [oddL, List.mem_cons, List.not_mem_nil, or_false] at hx
  rcases hx with rfl | rfl | rfl | rfl | rfl | rfl | rfl | rfl | rfl | rfl | rfl | rfl | rfl | rfl | rfl | rfl | rfl | rfl | rfl | rfl | rfl | rfl | rfl | rfl | rfl | rfl | rfl | rfl
  · decide +kernel
  · decide +kernel
  · exact k5
  · exact k4
  · exact k6
  · exact k2
  · exact k3
  · decide +kernel
  · decide +kernel
  · decide +kernel
  · exact gn _ _ _ (sn_app o.sn (sn_one (n := 1) (d := 0) (by rw [li]; rfl) (by simp only [szD]; omega) (by simp only [dpD]; omega))) (by omega) (by omega)
  · decide +kernel
  · decide +kernel
  · exact gn _ _ _ (sn_one (n := 1) (d := 0) (by decide +kernel) (by decide +kernel) (by decide +kernel)) (by omega) (by omega)
  · exact gn _ _ _ (sm_nil 0 0).sn (by omega) (by omega)
  · refine go _ ?_ (by simp only [szD, szDs]; omega) (by simp only [dpD, dpDs]; omega)
    simp only [lfB, lfBs, noD, noDs, Bool.and_true, Bool.true_and, Bool.and_eq_true] at li ⊢
    exact ⟨by decide +kernel, li, by decide +kernel⟩
  · exact go _ (by decide +kernel) (by decide +kernel) (by decide +kernel)
  · decide +kernel
  · exact go _ (by decide +kernel) (by decide +kernel) (by decide +kernel)
  · exact go _ (by decide +kernel) (by decide +kernel) (by decide +kernel)
  · exact go _ (by decide +kernel) (by decide +kernel) (by decide +kernel)
  · exact go _ (by decide +kernel) (by decide +kernel) (by decide +kernel)
  · exact go _ (by decide +kernel) (by decide +kernel) (by decide +kernel)
  · exact go _ (by decide +kernel) (by decide +kernel) (by decide +kernel)
  · exact go _ (by decide +kernel) (by decide +kernel) (by decide +kernel)
  · exact go _ (by decide +kernel) (by decide +kernel) (by decide +kernel)
  · exact gn _ _ _ (rep_sm o o3).sn (by omega) (by omega)
  · exact gn _ _ _ (sn_one (n := 1) (d := 0) (by decide +kernel) (by decide +kernel) (by decide +kernel)) (by omega) (by omega)
theorem r__law_odd_nets (h : sp__law_odd_nets K ws Q Y) : t__law_odd_nets K (dEnds Q Y) (start0 N__law_odd_nets ws) := by
  obtain ⟨d, rfl, hn, g9, o3, q⟩ := h
  obtain ⟨n, gs, os, t⟩ := net_of hn
  have te := t.eq
  subst te
  have g9 : gs.length ≤ 9 := g9
  have o3 : os.length ≤ 3 := o3
  have n32 := t.n32
  have o1 := t.o1
  have sl9 : 200000 < sizeLine := by decide
  simp only [t__law_odd_nets, N__law_odd_nets]
  refine seq_o fun N hN => ?_
  walk_at "d-run"
  show N _; rw [hN]; clear hN N
  refine seq_o fun N hN => ?_
  walk_at "d-run"
  repeat (refine ⟨by omega, ?_⟩)
  show N _; rw [hN]; clear hN N
  refine seq_o fun N hN => ?_
  walk_at "d-run"
  repeat (refine ⟨by omega, ?_⟩)
  show N _; rw [hN]; clear hN N
  refine seq_o fun N hN => ?_
  walk_at "d-run"
  repeat (refine ⟨by omega, ?_⟩)
  show N _; rw [hN]; clear hN N
  refine seq_o fun N hN => ?_
  walk_at "d-run"
  repeat (refine ⟨by omega, ?_⟩)
  show N _; rw [hN]; clear hN N
  refine seq_o fun N hN => ?_
  walk_at "d-run"
  repeat (refine ⟨by omega, ?_⟩)
  show N _; rw [hN]; clear hN N
  refine seq_o fun N hN => ?_
  walk_at "d-run"
  repeat (refine ⟨by omega, ?_⟩)
  show N _; rw [hN]; clear hN N
  refine seq_o fun N hN => ?_
  walk_at "d-run"
  repeat (refine ⟨by omega, ?_⟩)
  refine ⟨⟨by intro e; rw [e] at o1; exact absurd o1 (by decide), by omega, by omega, by omega⟩, ?_⟩
  repeat (refine ⟨by omega, ?_⟩)
  show N _; rw [hN]; clear hN N
  walk_at "d-run"
  repeat (refine ⟨by omega, ?_⟩)
  refine q _ (odd_good t g9 o3) ?_
  exact (by decide : 28 ≤ 40)
end
end Lw

/-! text Q32h -/
set_option Elab.async false
set_option linter.all false
set_option maxRecDepth 100000
set_option maxHeartbeats 4000000
namespace Lw
open PySem PySem.Spec PyProof.Rows L2 DL
section
variable {P : Program} {w : World} {base : Heap} {K : PySem.W.Frag} {ws : List Wv} {Q : Wv → List Wv → Prop} {Y : Value → List Wv → Prop} {mg : Str → Option Value}
def wi (a b : Nat) : Prop := b = 63 ∨ b = a
structure WL (as bs : List Nat) : Prop where
  len : as.length = bs.length
  at_ : ∀ k, wi (as.getD k 0) (bs.getD k 0)
theorem wl_snoc {as bs : List Nat} {a b : Nat} (h : WL as bs) (h2 : wi a b) : WL (as ++ [a]) (bs ++ [b]) := by
  refine ⟨by rw [List.length_append, List.length_append, h.len]; rfl, fun k => ?_⟩
  rcases Nat.lt_trichotomy k as.length with hk | hk | hk
  · have := h.at_ k
    rw [List.getD_eq_getElem?_getD, List.getD_eq_getElem?_getD] at this ⊢
    rw [List.getElem?_append_left hk, List.getElem?_append_left (by rw [← h.len]; exact hk)]
    exact this
  · subst hk
    rw [List.getD_eq_getElem?_getD, List.getD_eq_getElem?_getD, List.getElem?_append_right (Nat.le_refl _), h.len, List.getElem?_append_right (Nat.le_refl _), Nat.sub_self]
    exact h2
  · rw [List.getD_eq_getElem?_getD, List.getD_eq_getElem?_getD, List.getElem?_eq_none (by rw [List.length_append]; simp; omega), List.getElem?_eq_none (by rw [List.length_append, ← h.len]; simp; omega)]
    exact .inr rfl
theorem not_wi : ∀ a ∈ [48, 49, 63], ∀ b ∈ [48, 49, 63], (b = 63 ∨ b = a) → ((if b = 48 then 49 else if b = 49 then 48 else 63) = 63 ∨ (if b = 48 then 49 else if b = 49 then 48 else 63) = (if a = 48 then 49 else if a = 49 then 48 else 63)) := by decide
theorem two_wi : ∀ s ∈ [48, 49], ∀ a ∈ [48, 49, 63], ∀ b ∈ [48, 49, 63], (b = 63 ∨ b = a) → ∀ c ∈ [48, 49, 63], ∀ d ∈ [48, 49, 63], (d = 63 ∨ d = c) →
    ((if b = s ∨ d = s then s else if b = d then b else 63) = 63 ∨ (if b = s ∨ d = s then s else if b = d then b else 63) = (if a = s ∨ c = s then s else if a = c then a else 63)) := by decide
theorem told_wi {g : D} {as bs : List Nat} (hg : gateB g as.length = true) (ha : bitsL as) (hb : bitsL bs) (h : WL as bs) : wi (toldB g as) (toldB g bs) := by
  rcases gate_cases hg with ⟨z, hz, rfl⟩ | ⟨i, rfl, i1, i2⟩ | ⟨z, i, j, hz, rfl, ⟨i1, i2⟩, j1, j2⟩
  · exact .inr rfl
  · have l := h.len
    exact not_wi _ (bit_mem (getD_bit ha (show i.toNat < as.length by omega))) _ (bit_mem (getD_bit hb (show i.toNat < bs.length by omega))) (h.at_ i.toNat)
  · have l := h.len
    have hs : (if z = "and" then 48 else 49) ∈ [48, 49] := by split <;> decide
    exact two_wi _ hs _ (bit_mem (getD_bit ha (show i.toNat < as.length by omega))) _ (bit_mem (getD_bit hb (show i.toNat < bs.length by omega))) (h.at_ i.toNat) _ (bit_mem (getD_bit ha (show j.toNat < as.length by omega))) _ (bit_mem (getD_bit hb (show j.toNat < bs.length by omega))) (h.at_ j.toNat)
theorem Net.wl {d : D} {n : Nat} {gs os : List D} (t : Net d n gs os) {v w : Str} (vl : v.length = n) (wl : w.length = n) (vb : bitsS v) (wb : bitsS w) (h : WL v.cps.toList w.cps.toList) : ∀ p r, gs = p ++ r → WL (runB p v.cps.toList) (runB p w.cps.toList) := by
  intro p
  induction p using snoc_ind with
  | h0 => exact fun r _ => h
  | h1 p x ih =>
    intro r e
    have e2 : gs = p ++ (x :: r) := by rw [e, List.append_assoc]; rfl
    have hw := ih (x :: r) e2
    obtain ⟨h1, h2⟩ := t.run vl vb p (x :: r) e2
    obtain ⟨h3, h4⟩ := t.run wl wb p (x :: r) e2
    have hg := t.gate p.length (by rw [e2, List.length_append]; simp)
    rw [e2, getD_mid] at hg
    rw [show ((n : Int) + (p.length : Int)) = (((runB p v.cps.toList).length : Nat) : Int) by rw [h1]; omega] at hg
    rw [runB_snoc, runB_snoc]
    exact wl_snoc hw (told_wi hg h2 h4 hw)
theorem within_map {α : Type} {f g : α → Nat} : ∀ {xs : List α}, (∀ x ∈ xs, wi (f x) (g x)) → within (xs.map f) (xs.map g) = true
  | [], _ => rfl
  | x :: xs, h => by
    have ih := within_map fun y hy => h y (List.mem_cons_of_mem _ hy)
    unfold within at ih ⊢
    rw [List.map_cons, List.map_cons, List.zip_cons_cons, List.all_cons, ih, Bool.and_true]
    rcases h x (by simp) with e | e
    · simp [e]
    · simp [e]
theorem Net.mono {d : D} {n : Nat} {gs os : List D} (t : Net d n gs os) {v w : Str} (vl : v.length = n) (wl : w.length = n) (vb : bitsS v) (wb : bitsS w) (h : WL v.cps.toList w.cps.toList) : within (netRun d v).cps.toList (netRun d w).cps.toList = true := by
  have te := t.eq
  subst te
  have := t.wl vl wl vb wb h gs [] (by simp)
  exact within_map fun o _ => this.at_ _
theorem settle_wl {cs : List Nat} {s : Str} (h : s ∈ settle cs) : WL s.cps.toList cs := by
  have l := settle_mem h
  refine ⟨by rw [len_cps, l], fun k => ?_⟩
  by_cases hk : k < cs.length
  · have := settle_at cs s k h hk
    unfold opts at this
    by_cases c : cs.getD k 0 = 63
    · exact .inl c
    · rw [if_neg c] at this
      have e := List.mem_singleton.mp this
      right
      have : (sign (at_ s k)).cps.toList = (sign (cs.getD k 0)).cps.toList := by rw [e]
      have e2 : ([at_ s k] : List Nat) = [cs.getD k 0] := this
      injection e2 with e2
      exact e2.symm
  · rw [List.getD_eq_getElem?_getD, List.getD_eq_getElem?_getD, List.getElem?_eq_none (by rw [len_cps, l]; omega), List.getElem?_eq_none (by omega)]
    exact .inr rfl
theorem settle_bits {cs : List Nat} {s : Str} (hc : bitsL cs) (h : s ∈ settle cs) : bitsS s := by
  intro c hcm
  obtain ⟨k, hk, e⟩ := List.getElem_of_mem hcm
  have l := settle_mem h
  rw [len_cps] at hk
  have := settle_at cs s k h (by omega)
  have ek : at_ s k = c := by
    unfold Lw.at_
    rw [List.getD_eq_getElem?_getD, List.getElem?_eq_getElem (by rw [len_cps]; exact hk), Option.getD_some, e]
  rw [ek] at this
  unfold opts at this
  by_cases q : cs.getD k 0 = 63
  · rw [if_pos q] at this
    simp only [List.mem_cons, List.not_mem_nil, or_false] at this
    rcases this with e | e
    · rw [e]; decide
    · rw [e]; decide
  · rw [if_neg q] at this
    rw [List.mem_singleton.mp this]
    exact getD_bit hc (by omega)
theorem ok_word {w : Str} (h : w.length ≤ 100) : okB (DS' w) = true := by
  simp only [okB, decide_eq_true_eq]
  omega
theorem c_run {d : D} {w : Str} {Q : Wv → List Wv → Prop} {Y : Value → List Wv → Prop} (od : okB d = true) (hn : netB d = true) (hb : bitsS w) (l : w.length = inOf d) (q : Q (.pu (DS' (netRun d w))) [.pu d, .pu (DS' w)]) : sp_run K [.pu d, .pu (DS' w)] Q Y := by
  obtain ⟨n, gs, os, t⟩ := net_of hn
  have hi : inOf d = n := by rw [t.eq]; show ((n : Int)).toNat = n; omega
  have n1 := t.n1
  have n32 := t.n32
  have ww : isWD (DS' w) = true := bits_W hb (by omega) (by omega)
  refine call_ok (ds := [d, DS' w]) rfl rfl (fun x hx => ?_) ?_
  · simp only [List.mem_cons, List.not_mem_nil, or_false] at hx
    rcases hx with rfl | rfl
    · exact od
    · exact ok_word (by omega)
  · simp only [List.getD_cons_zero, List.getD_cons_succ, hn, ww, if_true, show (str (DS' w)).length = inOf d from l]
    exact ⟨trivial, q⟩
theorem c_run_net {d x : D} {Q : Wv → List Wv → Prop} {Y : Value → List Wv → Prop} (od : okB d = true) (ox : okB x = true) (hn : netB d = false) (y : Y (.ref (He.ga K "NoNet")) [.pu d, .pu x]) : sp_run K [.pu d, .pu x] Q Y := by
  refine call_ok (ds := [d, x]) rfl rfl (fun z hz => ?_) ?_
  · simp only [List.mem_cons, List.not_mem_nil, or_false] at hz
    rcases hz with rfl | rfl
    · exact od
    · exact ox
  · simp only [List.getD_cons_zero, List.getD_cons_succ, hn, Bool.false_eq_true, if_false]
    exact y
theorem c_run_word {d x : D} {Q : Wv → List Wv → Prop} {Y : Value → List Wv → Prop} (od : okB d = true) (ox : okB x = true) (hn : netB d = true) (hx : isWD x = false) (y : Y (.ref (He.ga K "NoWord")) [.pu d, .pu x]) : sp_run K [.pu d, .pu x] Q Y := by
  refine call_ok (ds := [d, x]) rfl rfl (fun z hz => ?_) ?_
  · simp only [List.mem_cons, List.not_mem_nil, or_false] at hz
    rcases hz with rfl | rfl
    · exact od
    · exact ox
  · simp only [List.getD_cons_zero, List.getD_cons_succ, hn, hx, Bool.false_eq_true, if_false, if_true]
    exact y
theorem c_run_match {d : D} {w : Str} {Q : Wv → List Wv → Prop} {Y : Value → List Wv → Prop} (od : okB d = true) (hn : netB d = true) (hw : isW w = true) (l : w.length ≠ inOf d) (y : Y (.ref (He.ga K "NoMatch")) [.pu d, .pu (DS' w)]) : sp_run K [.pu d, .pu (DS' w)] Q Y := by
  refine call_ok (ds := [d, DS' w]) rfl rfl (fun z hz => ?_) ?_
  · simp only [List.mem_cons, List.not_mem_nil, or_false] at hz
    rcases hz with rfl | rfl
    · exact od
    · exact ok_word (by have := isW_bits hw; omega)
  · simp only [List.getD_cons_zero, List.getD_cons_succ, hn, show isWD (DS' w) = true from hw, show (str (DS' w)).length = w.length from rfl, if_true, l, if_false]
    exact y
theorem c_lrun {d : D} {w : Str} {Q : Wv → List Wv → Prop} {Y : Value → List Wv → Prop} (hn : netB d = true) (hb : bitsS w) (l : w.length = inOf d) (q : Q (.pu (DS' (netRun d w))) [.pu d, .pu (DS' w)]) : sp__law_run K [.pu d, .pu (DS' w)] Q Y :=
  call_ok (ds := [d, DS' w]) rfl rfl ⟨d, w, rfl, hn, hb, l⟩ ⟨trivial, q⟩
theorem c_lnet {d : D} {Q : Wv → List Wv → Prop} {Y : Value → List Wv → Prop} (od : okB d = true) (q : Q (.pu (DB' (netB d))) [.pu d]) : sp__law_is_net K [.pu d] Q Y :=
  call_ok (ds := [d]) rfl rfl (fun x hx => by rw [List.mem_singleton.mp hx]; exact od) ⟨trivial, q⟩
theorem c_isnet {d : D} {Q : Wv → List Wv → Prop} {Y : Value → List Wv → Prop} (od : okB d = true) (q : Q (.pu (DB' (netB d))) [.pu d]) : sp_is_net K [.pu d] Q Y :=
  call_ok (ds := [d]) rfl rfl (fun x hx => by rw [List.mem_singleton.mp hx]; exact od) ⟨trivial, q⟩
theorem netRun_len (d : D) (w : Str) : (netRun d w).length = (outsOf d).length := by
  unfold netRun
  rw [strOf_len, List.length_map]
theorem Net.bits {d : D} {n : Nat} {gs os : List D} (t : Net d n gs os) {w : Str} (wl : w.length = n) (wb : bitsS w) : bitsS (netRun d w) := by
  have te := t.eq
  subst te
  obtain ⟨h1, h2⟩ := t.run wl wb gs [] (by simp)
  intro c hc
  have hc : c ∈ os.map fun o => (runB gs w.cps.toList).getD (numOf o).toNat 0 := hc
  obtain ⟨o, ho, rfl⟩ := List.mem_map.mp hc
  obtain ⟨i, rfl, i0, i1⟩ := t.out o ho
  exact getD_bit h2 (by show i.toNat < _; rw [h1]; omega)
theorem good_bits {z : Str} (h : bitsS z) (l : z.length ≤ 32) : goodB (DS' z) = true := by
  have : lfB (DS' z) = true := by
    simp only [lfB, Bool.and_eq_true, decide_eq_true_eq, List.all_eq_true]
    refine ⟨by omega, fun c hc => ?_⟩
    rcases bit_cases (h c hc) with rfl | rfl | rfl <;> decide
  simp only [goodB, this, noD, szD, dpD]
  rfl
theorem bent_good {e d : D} (h : Bent e d) (hs : szD d ≤ 2000) (hd : dpD d ≤ 10) : goodB e = true := by
  have h1 := h.sz
  have h2 := h.dp
  have h3 : (noD e || noL e) = true := by
    rcases h.no with z | z <;> simp [z]
  simp only [goodB, h.lf, h3, Bool.true_and, Bool.and_eq_true, decide_eq_true_eq]
  omega
theorem pt_good {d : D} (h : ptB d = true) (hs : szD d ≤ 5000) (hd : dpD d ≤ 10) : goodB d = true := by
  obtain ⟨h1, h2, h3⟩ := pt_plain d h
  simp only [goodB, h1, h2, Bool.true_and, Bool.true_or, Bool.and_eq_true, decide_eq_true_eq]
  omega
end
end Lw

/-! text Q32i -/
set_option Elab.async false
set_option linter.all false
set_option maxRecDepth 100000
set_option maxHeartbeats 4000000
namespace Lw
open PySem PySem.Spec PyProof.Rows L2 DL
section
variable {P : Program} {w : World} {base : Heap} {K : PySem.W.Frag} {ws : List Wv} {Q : Wv → List Wv → Prop} {Y : Value → List Wv → Prop} {mg : Str → Option Value}
local macro_rules | `(tactic| walk_at "d-run") => `(tactic| try simp only [↓y_dSeq, ↓y_dC, ↓y_dG, ↓y_dOp, ↓y_dUn, ↓y_dNil, ↓y_dCons, ↓y_dCallP, ↓y_dTst, ↓y_dAnd, ↓y_dOr, ↓y_dNot, ↓y_dAndV, ↓y_dOrV, ↓y_dNotV, ↓y_dIf, ↓y_dFz, ↓y_dTup, ↓y_dLst, ↓y_dCall, ↓y_dLam, ↓y_dNext, ↓y_dBrk, ↓y_dCnt, ↓y_dDrop, ↓y_dRet, ↓y_dRetN, ↓y_dIfS, ↓y_dSet, ↓y_dgName, ↓y_dgNil, ↓y_dgCons, ↓y_dgTup, ↓y_dgLst, ↓y_dgTxt, ↓y_dAsg, ↓y_dIt, ↓y_dRng1, ↓y_dRng2, ↓y_dEnum, ↓y_dZip, ↓y_dFor, ↓y_dRaise, ↓y_dLc, ↓y_dLc2, ↓y_dYes, ↓y_dNewD, ↓y_dMi, ↓y_dMs, ↓y_dMl, ↓y_dgSet, ↓y_dPar, ↓y_dONo, ↓y_dOSome, ↓y_dSl, ↓y_dChain, ↓y_subP, ↓y_divP, ↓y_modP, ↓y_powP, ↓y_ltP, ↓y_leP, ↓y_gtP, ↓y_geP, ↓y_addP_i, ↓y_addP_s, ↓y_addP_l, ↓y_addP_t, ↓y_mulP_i, ↓y_mulP_s, ↓y_mulP_l, ↓y_mulP_t, ↓y_eqP_s, ↓y_eqP_ll, ↓y_eqP_lt, ↓y_eqP_ls, ↓y_eqP_ld, ↓y_eqP_tl, ↓y_eqP_tt, ↓y_eqP_ts, ↓y_eqP_td, ↓y_eqP_sl, ↓y_eqP_st, ↓y_eqP_sd, ↓y_eqP_dl, ↓y_eqP_dt, ↓y_eqP_ds, ↓y_eqP_dd, ↓y_inP_s, ↓y_inP_t, ↓y_inP_l, ↓y_isNP_s, ↓y_isNP_t, ↓y_isNP_l, ↓y_isNP_d, ↓y_isBP, ↓y_ixP_l, ↓y_ixP_t, ↓y_ixP_s, ↓y_lenP, ↓y_isiP, ↓y_allP, ↓y_anyP, ↓y_intP_i, ↓y_intP_b, ↓y_listP_l, ↓y_listP_t, ↓y_tupleP_l, ↓y_tupleP_t, ↓y_sortedSP, ↓y_reprP, ↓y_negP, ↓y_revP_s, ↓y_revP_l, ↓y_slP_l, ↓y_slP_t, ↓y_slP_r, ↓y_slP_s, ↓y_findP, ↓y_countP, ↓y_joinP, ↓y_lcountP_s, ↓y_lcountP_i, ↓y_appP, ↓y_insP, ↓kc_q, ↓kc_y, ↓k1_k, ↓k2_k, ↓k0_k, ↓kb_a, ↓kb_b, ↓cS_some, ↓cB_t, ↓cB_f, ↓cBl_i, ↓cInt_i, ↓cSD_i, ↓cLD_i, ↓cLM_i, ↓dLM_i, ↓cBw_i, ↓cPair_i, ↓cOne_i, ↓cI1_i, ↓cI2_i, ↓cTup_i, ↓cLst_i, ↓cTxt_i, ↓cCons_i, ↓cNil_i, ↓dVar, DS.put, DS.wipe, DS.rest, wipeL, restL, val, slD, vals, frz1, put1, out1, pures, dargs, dback, getM, setM, M.frz, start0, par, dEnds, isRes, itemsD, tyD, lenD, dLSet, dLRg, ↓y_inTabP, ↓y_ixTabP, ↓y_eqEP, ↓y_strP, ↓y_revP_t, ↓y_list2P_l, ↓y_list2P_t, ↓y_list2P_s, ↓y_reprP2, ↓y_dDGet, ↓y_dUpper, ↓y_dIsiT, ↓y_dCallB, strO, tyO, scO, List.getElem?_cons_zero, List.getElem?_cons_succ, List.set_cons_zero, List.set_cons_succ, List.cons_append, List.nil_append, List.replicate_succ, List.replicate_zero, List.length_cons, List.length_nil, Option.some.injEq, exists_eq_left', exists_eq_left, Wv.pu.injEq, D.sc.injEq, V.bl.injEq, V.int.injEq, V.str.injEq, Nat.reduceSub, Nat.reduceAdd, List.cons.injEq, and_true, true_and, exists_and_left, Option.map_some, if_true, if_false, Bool.false_eq_true, exists_eq_right, ex2a, ex2b, ex2c, D.tup.injEq, D.lst.injEq, M.lst.injEq, eq_self])
theorem c_lwithin {a b : Str} {Q : Wv → List Wv → Prop} {Y : Value → List Wv → Prop} (h : a.length = b.length) (h32 : a.length ≤ 32) (q : Q (.pu (DB' (within a.cps.toList b.cps.toList))) [.pu (DS' a), .pu (DS' b)]) : sp__law_is_within K [.pu (DS' a), .pu (DS' b)] Q Y :=
  call_ok (ds := [DS' a, DS' b]) rfl rfl ⟨a, b, rfl, h, h32⟩ ⟨trivial, q⟩
theorem w_body {b n : Nat} {pen : List D} {d : D} {gs os : List D} {s0 s2 s5 s6 s7 s8 s9 s10 s11 s12 s13 s14 s15 s16 s17 : Option Wv} {an : List Wv} {E : DEnds} (t : Net d n gs os) (hn : netB d = true) (hg : gs.length ≤ 9) (hp : PenOk b pen) (hb : b ≤ 1000000) (n6 : n ≤ 6)
    (g : ∀ pen' s7 s8 s9 s10, PenOk (b + 10) pen' → E.nx ⟨[s0, some (.ow (.lst pen')), s2, some (.pu (DI' (n : Int))), some (.pu d), s5, s6, s7, s8, s9, s10, s11, s12, s13, s14, s15, s16, s17], an⟩) :
    dSeq (dSet 7 (dCall ((sp__law_any_word K)) (dCons (dVar 1) (dCons (dFz (dVar 3)) (dNil)))))
  (dSeq (dPar 8 9 (dCons (dFz (dCall ((sp_run K)) (dCons (dFz (dVar 4)) (dCons (dFz (dVar 7)) (dNil))))) (dCons (dFz (dCall ((sp__law_run K)) (dCons (dFz (dVar 4)) (dCons (dFz (dVar 7)) (dNil))))) (dNil))))
  (dSeq (dIfS (dOr (dTst (dOp (eqP true) (dCallP reprP2 (dCons (dVar 8) (dNil))) (dCallP reprP2 (dCons (dVar 9) (dNil))))) (dTst (dOp (eqP true) (dCallP reprP2 (dCons (dCall ((sp_run K)) (dCons (dFz (dVar 4)) (dCons (dFz (dVar 7)) (dNil)))) (dNil))) (dCallP reprP2 (dCons (dVar 9) (dNil)))))) (dRet (dC (.bl false))) (dNext))
  (dFor (dIt (dSl slP (dCall ((sp__law_settled K)) (dCons (dFz (dVar 7)) (dNil))) dONo (dOSome (dC (.int 5))))) (dgName 10) (dIfS (dNot (dTst (dCall ((sp__law_is_within K)) (dCons (dFz (dCall ((sp_run K)) (dCons (dFz (dVar 4)) (dCons (dFz (dVar 10)) (dNil))))) (dCons (dFz (dVar 8)) (dNil)))))) (dRet (dC (.bl false))) (dNext))))) E
    ⟨[s0, some (.ow (.lst pen)), s2, some (.pu (DI' (n : Int))), some (.pu d), s5, s6, s7, s8, s9, s10, s11, s12, s13, s14, s15, s16, s17], an⟩ := by
  have hi : inOf d = n := by rw [t.eq]; show ((n : Int)).toNat = n; omega
  have od : okB d = true := by
    obtain ⟨h1, h2, h3⟩ := t.ptB (by omega)
    have o32 := t.o32
    exact good_ok (pt_good h1 (by omega) (by omega))
  have n32 := t.n32
  have o32 := t.o32
  have ho : (outsOf d).length ≤ 32 := by rw [t.eq]; exact o32
  refine seq_o fun N hN => ?_
  walk_at "d-run"
  refine ⟨b, pen, n, rfl, hp, by omega, by omega, fun w pen2 wl wb hp2 => ?_⟩
  walk_at "d-run"
  have wb : bitsS w := wb
  have tb := t.bits wl wb
  have tl := netRun_len d w
  have gd := good_bits tb (by omega)
  obtain ⟨p, ep, sp⟩ := good_shows gd
  have wi := wl.trans hi.symm
  show N _; rw [hN]; clear hN N
  refine seq_o fun N hN => ?_
  walk_at "d-run"
  refine c_run od hn wb wi ?_
  walk_at "d-run"
  refine c_lrun hn wb wi ?_
  walk_at "d-run"
  show N _; rw [hN]; clear hN N
  refine seq_o fun N hN => ?_
  walk_at "d-run"
  refine cS_i ep ?_
  walk_at "d-run"
  refine ⟨sp, ?_⟩
  refine cS_i ep ?_
  walk_at "d-run"
  refine ⟨sp, rfl, cB_n (by simp) ?_⟩
  walk_at "d-run"
  refine c_run od hn wb wi ?_
  walk_at "d-run"
  refine cS_i ep ?_
  walk_at "d-run"
  refine ⟨sp, ?_⟩
  refine cS_i ep ?_
  walk_at "d-run"
  refine ⟨sp, rfl, cB_n (by simp) ?_⟩
  walk_at "d-run"
  show N _; rw [hN]; clear hN N
  refine for_a fun T hT => ?_
  walk_at "d-run"
  have l8 := qs_le w
  refine c_settled wb (by omega) (by omega) ?_
  rw [strsL]
  walk_at "d-run"
  refine for_i (fun j δ => ∃ s10, δ = ⟨[s0, some (.ow (.lst pen2)), s2, some (.pu (DI' (n : Int))), some (.pu d), s5, s6, some (.pu (DS' w)), some (.pu (DS' (netRun d w))), some (.pu (DS' (netRun d w))), s10, s11, s12, s13, s14, s15, s16, s17], an⟩) ⟨_, rfl⟩ (fun j x δ K1 hx hI next => ?_) fun δ hI => ?_
  · obtain ⟨s10, rfl⟩ := hI
    obtain ⟨z, hz, rfl⟩ := List.mem_map.mp ((cutL_sublist _ _ _).subset (List.mem_of_getElem? hx))
    have zl := settle_mem hz
    rw [len_cps] at zl
    have zb := settle_bits wb hz
    have zi : z.length = inOf d := by omega
    have mo := t.mono (by omega) wl zb wb (settle_wl hz)
    rw [hT]
    walk_at "d-run"
    refine c_run od hn zb zi ?_
    walk_at "d-run"
    refine c_lwithin (by rw [netRun_len, netRun_len]) (by rw [netRun_len]; exact ho) ?_
    rw [mo]
    walk_at "d-run"
    refine cB_n rfl ?_
    walk_at "d-run"
    exact next _ ⟨_, rfl⟩
  · obtain ⟨s10, rfl⟩ := hI
    exact g _ _ _ _ _ (hp2.mono (by omega))
/-- one value, as the law asks of it -/
theorem th_body (Z : Fx K mg) {x : D} {s0 s1 s2 s3 s4 s5 s6 s7 s8 s9 s10 s12 s13 s14 s15 s16 s17 : Option Wv} {an : List Wv} {E : DEnds} (gx : goodB x = true)
    (g : ∀ s12 s13, E.nx ⟨[s0, s1, s2, s3, s4, s5, s6, s7, s8, s9, s10, some (.pu x), s12, s13, s14, s15, s16, s17], an⟩) :
    dSeq (dPar 12 13 (dCons (dFz (dCallP reprP2 (dCons (dVar 11) (dNil)))) (dCons (dFz (dCall ((sp__law_is_net K)) (dCons (dFz (dVar 11)) (dNil)))) (dNil))))
  (dSeq (dIfS (dOr (dTst (dOp (eqP true) (dCallP reprP2 (dCons (dCall ((sp_is_net K)) (dCons (dFz (dVar 11)) (dNil))) (dNil))) (dCallP reprP2 (dCons (dVar 13) (dNil))))) (dTst (dOp (eqP true) (dCallP reprP2 (dCons (dVar 11) (dNil))) (dVar 12)))) (dRet (dC (.bl false))) (dNext))
  (dIfS (dAnd (dNot (dTst (dVar 13))) (dTst (dOp (eqP true) (dLam K (clw__law_word K) "none" (dCall ((sp_run K)) (dCons (dFz (dVar 11)) (dCons (dC .non) (dNil))))) (dC (.str "net"))))) (dRet (dC (.bl false))) (dNext))) E
    ⟨[s0, s1, s2, s3, s4, s5, s6, s7, s8, s9, s10, some (.pu x), s12, s13, s14, s15, s16, s17], an⟩ := by
  obtain ⟨p, ep, sp⟩ := good_shows gx
  have ox := good_ok gx
  have gb : ∀ b : Bool, goodB (DB' b) = true := by decide +kernel
  obtain ⟨pb, eb, sb⟩ := good_shows (gb (netB x))
  refine seq_o fun N hN => ?_
  walk_at "d-run"
  refine cS_i ep ?_
  walk_at "d-run"
  refine ⟨sp, ?_⟩
  refine c_lnet ox ?_
  walk_at "d-run"
  show N _; rw [hN]; clear hN N
  refine seq_o fun N hN => ?_
  walk_at "d-run"
  refine c_isnet ox ?_
  walk_at "d-run"
  refine cS_i eb ?_
  walk_at "d-run"
  refine ⟨sb, ?_⟩
  refine cS_i eb ?_
  walk_at "d-run"
  refine ⟨sb, rfl, cB_n (by simp) ?_⟩
  walk_at "d-run"
  refine cS_i ep ?_
  walk_at "d-run"
  refine ⟨sp, rfl, cB_n (by simp) ?_⟩
  walk_at "d-run"
  show N _; rw [hN]; clear hN N
  walk_at "d-run"
  cases hx : netB x with
  | true =>
    refine cB_n rfl ?_
    walk_at "d-run"
    exact g _ _
  | false =>
    refine cB_y rfl ?_
    walk_at "d-run"
    refine c_run_net ox rfl hx ?_
    walk_at "d-run"
    refine pick_NoNet Z ?_
    walk_at "d-run"
    refine ⟨rfl, cB_n (by simp) ?_⟩
    walk_at "d-run"
    exact g _ _
theorem odd_words : ([D.sc V.non, .sc (.str ""), .sc (.str "2"), .lst [.sc (.str "0")], .sc (.int 0), .sc (.str (repS "0" 33))] : List D).all (fun x => okB x && !isWD x) = true := by decide +kernel
def mtB (n : Nat) (x : D) : Bool := match x with
  | .sc (.str z) => decide (z = "") || (isW z && decide (z.length ≠ n))
  | _ => false
theorem mt_words : ∀ n : Nat, n < 7 → 1 ≤ n → ([D.sc (.str (repS "0" ((n : Int) + 1))), .sc (.str (repS "?" 32)), .sc (.str (repS "1" ((n : Int) - 1)))] : List D).all (mtB n) = true := by decide +kernel
theorem mt_word {n : Nat} {x : D} (h6 : n ≤ 6) (h1 : 1 ≤ n) (h : x ∈ ([D.sc (.str (repS "0" ((n : Int) + 1))), .sc (.str (repS "?" 32)), .sc (.str (repS "1" ((n : Int) - 1)))] : List D)) : ∃ z, x = DS' z ∧ (z ≠ "" → isW z = true ∧ z.length ≠ n) := by
  have := List.all_eq_true.mp (mt_words n (by omega) h1) x h
  unfold mtB at this
  split at this
  · rename_i z
    refine ⟨z, rfl, fun z0 => ?_⟩
    simpa only [z0, decide_false, Bool.false_or, Bool.and_eq_true, decide_eq_true_eq] using this
  · cases this
/-- what is no word -/
theorem od_body (Z : Fx K mg) {n : Nat} {d : D} {gs os : List D} {s0 s1 s2 s3 s5 s6 s7 s8 s9 s10 s11 s12 s13 s14 s15 s16 s17 : Option Wv} {an : List Wv} {E : DEnds} (t : Net d n gs os) (hn : netB d = true) (od : okB d = true)
    (g : ∀ s14, E.nx ⟨[s0, s1, s2, s3, some (.pu d), s5, s6, s7, s8, s9, s10, s11, s12, s13, s14, s15, s16, s17], an⟩) :
    dFor (dIt (dLst (dCons (dC .non) (dCons (dC (.str "")) (dCons (dC (.str "2")) (dCons (dFz (dLst (dCons (dC (.str "0")) (dNil)))) (dCons (dC (.int 0)) (dCons (dFz (dOp mulP (dC (.str "0")) (dC (.int 33)))) (dNil))))))))) (dgName 14) (dIfS (dTst (dOp (eqP true) (dLam K (clw__law_word K) "none" (dCall ((sp_run K)) (dCons (dFz (dVar 4)) (dCons (dFz (dVar 14)) (dNil))))) (dC (.str "word")))) (dRet (dC (.bl false))) (dNext)) E
    ⟨[s0, s1, s2, s3, some (.pu d), s5, s6, s7, s8, s9, s10, s11, s12, s13, s14, s15, s16, s17], an⟩ := by
  have sl9 : 200000 < sizeLine := by decide
  refine for_a fun T hT => ?_
  walk_at "d-run"
  refine ⟨by omega, ⟨by omega, by omega, by decide⟩, by omega, ?_⟩
  refine for_i (fun j δ => ∃ s14, δ = ⟨[s0, s1, s2, s3, some (.pu d), s5, s6, s7, s8, s9, s10, s11, s12, s13, s14, s15, s16, s17], an⟩) ⟨_, rfl⟩ (fun j x δ K1 hx hI next => ?_) fun δ hI => ?_
  · obtain ⟨s14, rfl⟩ := hI
    have hb : okB x = true ∧ isWD x = false := by
      have := List.all_eq_true.mp odd_words x (List.mem_of_getElem? hx)
      simpa only [Bool.and_eq_true, Bool.not_eq_true'] using this
    rw [hT]
    walk_at "d-run"
    refine c_run_word od hb.1 hn hb.2 ?_
    walk_at "d-run"
    refine pick_NoWord Z ?_
    walk_at "d-run"
    refine ⟨rfl, cB_n (by simp) ?_⟩
    walk_at "d-run"
    exact next _ ⟨_, rfl⟩
  · obtain ⟨s14, rfl⟩ := hI
    exact g _
/-- words of another length -/
theorem mt_body (Z : Fx K mg) {n : Nat} {d : D} {gs os : List D} {s0 s1 s2 s5 s6 s7 s8 s9 s10 s11 s12 s13 s14 s15 s16 s17 : Option Wv} {an : List Wv} {E : DEnds} (t : Net d n gs os) (hn : netB d = true) (od : okB d = true) (n6 : n ≤ 6)
    (g : ∀ s14, E.nx ⟨[s0, s1, s2, some (.pu (DI' (n : Int))), some (.pu d), s5, s6, s7, s8, s9, s10, s11, s12, s13, s14, s15, s16, s17], an⟩) :
    dFor (dIt (dLst (dCons (dFz (dOp mulP (dC (.str "0")) (dOp addP (dVar 3) (dC (.int 1))))) (dCons (dFz (dOp mulP (dC (.str "?")) (dC (.int 32)))) (dCons (dFz (dOp mulP (dC (.str "1")) (dOp subP (dVar 3) (dC (.int 1))))) (dNil)))))) (dgName 14) (dIfS (dAnd (dTst (dOp (eqP true) (dVar 14) (dC (.str "")))) (dTst (dOp (eqP true) (dLam K (clw__law_word K) "none" (dCall ((sp_run K)) (dCons (dFz (dVar 4)) (dCons (dFz (dVar 14)) (dNil))))) (dC (.str "match"))))) (dRet (dC (.bl false))) (dNext)) E
    ⟨[s0, s1, s2, some (.pu (DI' (n : Int))), some (.pu d), s5, s6, s7, s8, s9, s10, s11, s12, s13, s14, s15, s16, s17], an⟩ := by
  have sl9 : 200000 < sizeLine := by decide
  have n1 := t.n1
  refine for_a fun T hT => ?_
  walk_at "d-run"
  refine ⟨⟨by omega, by omega, ?_⟩, ⟨by omega, by omega, by decide⟩, ⟨by omega, by omega, ?_⟩, by omega, ?_⟩
  · show 1 * _ ≤ _
    omega
  · show 1 * _ ≤ _
    omega
  have hi : inOf d = n := by rw [t.eq]; show ((n : Int)).toNat = n; omega
  refine for_i (fun j δ => ∃ s14, δ = ⟨[s0, s1, s2, some (.pu (DI' (n : Int))), some (.pu d), s5, s6, s7, s8, s9, s10, s11, s12, s13, s14, s15, s16, s17], an⟩) ⟨_, rfl⟩ (fun j x δ K1 hx hI next => ?_) fun δ hI => ?_
  · obtain ⟨s14, rfl⟩ := hI
    obtain ⟨z, rfl, hz⟩ := mt_word n6 n1 (List.mem_of_getElem? hx)
    rw [hT]
    walk_at "d-run"
    refine ⟨rfl, ?_⟩
    by_cases z0 : z = ""
    · refine cB_n (by simp [z0]) ?_
      walk_at "d-run"
      exact next _ ⟨_, rfl⟩
    · obtain ⟨h1, h2⟩ := hz z0
      refine cB_y (by simp [z0]) ?_
      walk_at "d-run"
      refine c_run_match od hn h1 (by rw [hi]; exact h2) ?_
      walk_at "d-run"
      refine pick_NoMatch Z ?_
      walk_at "d-run"
      refine ⟨rfl, cB_n (by simp) ?_⟩
      walk_at "d-run"
      exact next _ ⟨_, rfl⟩
  · obtain ⟨s14, rfl⟩ := hI
    exact g _
end
end Lw

/-! text Q32j -/
set_option Elab.async false
set_option linter.all false
set_option maxRecDepth 100000
set_option maxHeartbeats 4000000
namespace Lw
open PySem PySem.Spec PyProof.Rows L2 DL
section
variable {P : Program} {w : World} {base : Heap} {K : PySem.W.Frag} {ws : List Wv} {Q : Wv → List Wv → Prop} {Y : Value → List Wv → Prop} {mg : Str → Option Value}
local macro_rules | `(tactic| walk_at "d-run") => `(tactic| try simp only [↓y_dSeq, ↓y_dC, ↓y_dG, ↓y_dOp, ↓y_dUn, ↓y_dNil, ↓y_dCons, ↓y_dCallP, ↓y_dTst, ↓y_dAnd, ↓y_dOr, ↓y_dNot, ↓y_dAndV, ↓y_dOrV, ↓y_dNotV, ↓y_dIf, ↓y_dFz, ↓y_dTup, ↓y_dLst, ↓y_dCall, ↓y_dLam, ↓y_dNext, ↓y_dBrk, ↓y_dCnt, ↓y_dDrop, ↓y_dRet, ↓y_dRetN, ↓y_dIfS, ↓y_dSet, ↓y_dgName, ↓y_dgNil, ↓y_dgCons, ↓y_dgTup, ↓y_dgLst, ↓y_dgTxt, ↓y_dAsg, ↓y_dIt, ↓y_dRng1, ↓y_dRng2, ↓y_dEnum, ↓y_dZip, ↓y_dFor, ↓y_dRaise, ↓y_dLc, ↓y_dLc2, ↓y_dYes, ↓y_dNewD, ↓y_dMi, ↓y_dMs, ↓y_dMl, ↓y_dgSet, ↓y_dPar, ↓y_dONo, ↓y_dOSome, ↓y_dSl, ↓y_dChain, ↓y_subP, ↓y_divP, ↓y_modP, ↓y_powP, ↓y_ltP, ↓y_leP, ↓y_gtP, ↓y_geP, ↓y_addP_i, ↓y_addP_s, ↓y_addP_l, ↓y_addP_t, ↓y_mulP_i, ↓y_mulP_s, ↓y_mulP_l, ↓y_mulP_t, ↓y_eqP_s, ↓y_eqP_ll, ↓y_eqP_lt, ↓y_eqP_ls, ↓y_eqP_ld, ↓y_eqP_tl, ↓y_eqP_tt, ↓y_eqP_ts, ↓y_eqP_td, ↓y_eqP_sl, ↓y_eqP_st, ↓y_eqP_sd, ↓y_eqP_dl, ↓y_eqP_dt, ↓y_eqP_ds, ↓y_eqP_dd, ↓y_inP_s, ↓y_inP_t, ↓y_inP_l, ↓y_isNP_s, ↓y_isNP_t, ↓y_isNP_l, ↓y_isNP_d, ↓y_isBP, ↓y_ixP_l, ↓y_ixP_t, ↓y_ixP_s, ↓y_lenP, ↓y_isiP, ↓y_allP, ↓y_anyP, ↓y_intP_i, ↓y_intP_b, ↓y_listP_l, ↓y_listP_t, ↓y_tupleP_l, ↓y_tupleP_t, ↓y_sortedSP, ↓y_reprP, ↓y_negP, ↓y_revP_s, ↓y_revP_l, ↓y_slP_l, ↓y_slP_t, ↓y_slP_r, ↓y_slP_s, ↓y_findP, ↓y_countP, ↓y_joinP, ↓y_lcountP_s, ↓y_lcountP_i, ↓y_appP, ↓y_insP, ↓kc_q, ↓kc_y, ↓k1_k, ↓k2_k, ↓k0_k, ↓kb_a, ↓kb_b, ↓cS_some, ↓cB_t, ↓cB_f, ↓cBl_i, ↓cInt_i, ↓cSD_i, ↓cLD_i, ↓cLM_i, ↓dLM_i, ↓cBw_i, ↓cPair_i, ↓cOne_i, ↓cI1_i, ↓cI2_i, ↓cTup_i, ↓cLst_i, ↓cTxt_i, ↓cCons_i, ↓cNil_i, ↓dVar, DS.put, DS.wipe, DS.rest, wipeL, restL, val, slD, vals, frz1, put1, out1, pures, dargs, dback, getM, setM, M.frz, start0, par, dEnds, isRes, itemsD, tyD, lenD, dLSet, dLRg, ↓y_inTabP, ↓y_ixTabP, ↓y_eqEP, ↓y_strP, ↓y_revP_t, ↓y_list2P_l, ↓y_list2P_t, ↓y_list2P_s, ↓y_reprP2, ↓y_dDGet, ↓y_dUpper, ↓y_dIsiT, ↓y_dCallB, strO, tyO, scO, List.getElem?_cons_zero, List.getElem?_cons_succ, List.set_cons_zero, List.set_cons_succ, List.cons_append, List.nil_append, List.replicate_succ, List.replicate_zero, List.length_cons, List.length_nil, Option.some.injEq, exists_eq_left', exists_eq_left, Wv.pu.injEq, D.sc.injEq, V.bl.injEq, V.int.injEq, V.str.injEq, Nat.reduceSub, Nat.reduceAdd, List.cons.injEq, and_true, true_and, exists_and_left, Option.map_some, if_true, if_false, Bool.false_eq_true, exists_eq_right, ex2a, ex2b, ex2c, D.tup.injEq, D.lst.injEq, M.lst.injEq, eq_self])
theorem u_body (Z : Fx K mg) {ns : List Int} {b : Nat} {pen : List D} {s2 s3 s4 s5 s6 s7 s8 s9 s10 s11 s12 s13 s14 s15 s16 : Option Wv} {an : List Wv} {E : DEnds} (hp : PenOk b pen) (hb : b ≤ 10000)
    (g : ∀ pen' s3 s4 s5 s6 s7 s8 s9 s10 s11 s12 s13 s14, PenOk (b + 2000) pen' → E.nx ⟨[some (.pu (.scr ns)), some (.ow (.lst pen')), s2, s3, s4, s5, s6, s7, s8, s9, s10, s11, s12, s13, s14, s15, s16, none], an⟩) :
    dSeq (dSet 3 (dOp addP (dC (.int 1)) (dCall ((sp__law_take K)) (dCons (dVar 1) (dCons (dC (.int 6)) (dNil))))))
  (dSeq (dSet 4 (dCall ((sp__law_any_net K)) (dCons (dVar 1) (dCons (dFz (dVar 3)) (dCons (dC (.int 9)) (dCons (dFz (dOp addP (dC (.int 1)) (dCall ((sp__law_take K)) (dCons (dVar 1) (dCons (dC (.int 3)) (dNil)))))) (dNil)))))))
  (dSeq (dSet 5 (dCallP reprP2 (dCons (dVar 4) (dNil))))
  (dSeq (dFor (dRng1 (dCons (dC (.int 6)) (dNil))) (dgName 6) (dSeq (dSet 7 (dCall ((sp__law_any_word K)) (dCons (dVar 1) (dCons (dFz (dVar 3)) (dNil)))))
  (dSeq (dPar 8 9 (dCons (dFz (dCall ((sp_run K)) (dCons (dFz (dVar 4)) (dCons (dFz (dVar 7)) (dNil))))) (dCons (dFz (dCall ((sp__law_run K)) (dCons (dFz (dVar 4)) (dCons (dFz (dVar 7)) (dNil))))) (dNil))))
  (dSeq (dIfS (dOr (dTst (dOp (eqP true) (dCallP reprP2 (dCons (dVar 8) (dNil))) (dCallP reprP2 (dCons (dVar 9) (dNil))))) (dTst (dOp (eqP true) (dCallP reprP2 (dCons (dCall ((sp_run K)) (dCons (dFz (dVar 4)) (dCons (dFz (dVar 7)) (dNil)))) (dNil))) (dCallP reprP2 (dCons (dVar 9) (dNil)))))) (dRet (dC (.bl false))) (dNext))
  (dFor (dIt (dSl slP (dCall ((sp__law_settled K)) (dCons (dFz (dVar 7)) (dNil))) dONo (dOSome (dC (.int 5))))) (dgName 10) (dIfS (dNot (dTst (dCall ((sp__law_is_within K)) (dCons (dFz (dCall ((sp_run K)) (dCons (dFz (dVar 4)) (dCons (dFz (dVar 10)) (dNil))))) (dCons (dFz (dVar 8)) (dNil)))))) (dRet (dC (.bl false))) (dNext)))))))
  (dSeq (dFor (dIt (dOp addP (dOp addP (dCall ((sp__law_odd_nets K)) (dCons (dFz (dVar 4)) (dNil))) (dLst (dCons (dFz (dVar 4)) (dNil)))) (dLc (dRng1 (dCons (dC (.int 6)) (dNil))) (dgName 6) (dYes) (dFz (dCall ((sp__law_bent K)) (dCons (dVar 1) (dCons (dFz (dVar 4)) (dNil))))) [6]))) (dgName 11) (dSeq (dPar 12 13 (dCons (dFz (dCallP reprP2 (dCons (dVar 11) (dNil)))) (dCons (dFz (dCall ((sp__law_is_net K)) (dCons (dFz (dVar 11)) (dNil)))) (dNil))))
  (dSeq (dIfS (dOr (dTst (dOp (eqP true) (dCallP reprP2 (dCons (dCall ((sp_is_net K)) (dCons (dFz (dVar 11)) (dNil))) (dNil))) (dCallP reprP2 (dCons (dVar 13) (dNil))))) (dTst (dOp (eqP true) (dCallP reprP2 (dCons (dVar 11) (dNil))) (dVar 12)))) (dRet (dC (.bl false))) (dNext))
  (dIfS (dAnd (dNot (dTst (dVar 13))) (dTst (dOp (eqP true) (dLam K (clw__law_word K) "none" (dCall ((sp_run K)) (dCons (dFz (dVar 11)) (dCons (dC .non) (dNil))))) (dC (.str "net"))))) (dRet (dC (.bl false))) (dNext)))))
  (dSeq (dFor (dIt (dLst (dCons (dC .non) (dCons (dC (.str "")) (dCons (dC (.str "2")) (dCons (dFz (dLst (dCons (dC (.str "0")) (dNil)))) (dCons (dC (.int 0)) (dCons (dFz (dOp mulP (dC (.str "0")) (dC (.int 33)))) (dNil))))))))) (dgName 14) (dIfS (dTst (dOp (eqP true) (dLam K (clw__law_word K) "none" (dCall ((sp_run K)) (dCons (dFz (dVar 4)) (dCons (dFz (dVar 14)) (dNil))))) (dC (.str "word")))) (dRet (dC (.bl false))) (dNext)))
  (dSeq (dFor (dIt (dLst (dCons (dFz (dOp mulP (dC (.str "0")) (dOp addP (dVar 3) (dC (.int 1))))) (dCons (dFz (dOp mulP (dC (.str "?")) (dC (.int 32)))) (dCons (dFz (dOp mulP (dC (.str "1")) (dOp subP (dVar 3) (dC (.int 1))))) (dNil)))))) (dgName 14) (dIfS (dAnd (dTst (dOp (eqP true) (dVar 14) (dC (.str "")))) (dTst (dOp (eqP true) (dLam K (clw__law_word K) "none" (dCall ((sp_run K)) (dCons (dFz (dVar 4)) (dCons (dFz (dVar 14)) (dNil))))) (dC (.str "match"))))) (dRet (dC (.bl false))) (dNext)))
  (dIfS (dTst (dOp (eqP true) (dCallP reprP2 (dCons (dVar 4) (dNil))) (dVar 5))) (dRet (dC (.bl false))) (dNext)))))))) E
    ⟨[some (.pu (.scr ns)), some (.ow (.lst pen)), s2, s3, s4, s5, s6, s7, s8, s9, s10, s11, s12, s13, s14, s15, s16, none], an⟩ := by
  have sl9 : 200000 < sizeLine := by decide
  refine seq_o fun N hN => ?_
  walk_at "d-run"
  refine take_call hp (by omega) (by decide) (by decide) fun v pen1 v0 v5 hp1 => ?_
  walk_at "d-run"
  obtain ⟨n, en⟩ : ∃ n : Nat, 1 + v = (n : Int) := ⟨(1 + v).toNat, by omega⟩
  rw [en]
  show N _; rw [hN]; clear hN N
  refine seq_o fun N hN => ?_
  walk_at "d-run"
  refine take_call hp1 (by omega) (by decide) (by decide) fun u pen2 u0 u5 hp2 => ?_
  walk_at "d-run"
  obtain ⟨m, em⟩ : ∃ m : Nat, 1 + u = (m : Int) := ⟨(1 + u).toNat, by omega⟩
  rw [em]
  refine ⟨_, pen2, n, 9, m, rfl, hp2, by omega, by omega, by omega, by omega, by omega, by omega, fun d pen3 hn di dg dm hp3 => ?_⟩
  walk_at "d-run"
  obtain ⟨n', gs, os, t⟩ := net_of hn
  obtain rfl : n' = n := by rw [← di, t.eq]; show n' = ((n' : Int)).toNat; omega
  have hg : gs.length ≤ 9 := by rw [t.eq] at dg; exact dg
  have ho : os.length ≤ 3 := by rw [t.eq] at dm; have dm : os.length = m := dm; omega
  obtain ⟨pt, ps, pd⟩ := t.ptB (by omega)
  have gd := pt_good pt (by omega) (by omega)
  have od := good_ok gd
  obtain ⟨p, ep, sp⟩ := good_shows gd
  show N _; rw [hN]; clear hN N
  refine seq_o fun N hN => ?_
  walk_at "d-run"
  refine cS_i ep ?_
  walk_at "d-run"
  refine ⟨sp, ?_⟩
  show N _; rw [hN]; clear hN N
  generalize hsh : PyData.shown p = sh
  refine seq_o fun N hN => ?_
  refine for_a fun T hT => ?_
  walk_at "d-run"
  refine ⟨by decide, by decide, ?_⟩
  refine for_rng 0 6 (fun j δ => ∃ pen' s6 s7 s8 s9 s10, PenOk (b + 1 + 1 + 1000 + 10 * j) pen' ∧ δ = ⟨[some (.pu (.scr ns)), some (.ow (.lst pen')), s2, some (.pu (DI' (n' : Int))), some (.pu d), some (.pu (DS' sh)), s6, s7, s8, s9, s10, s11, s12, s13, s14, s15, s16, none], an⟩) ⟨pen3, _, _, _, _, _, hp3, rfl⟩ (fun j δ K1 hj hI next => ?_) fun δ hI => ?_
  · obtain ⟨pen', s6, s7, s8, s9, s10, hp', rfl⟩ := hI
    walk_at "d-run"
    rw [hT]
    refine w_body t hn hg hp' (by omega) (by omega) fun pen'' s7 s8 s9 s10 h => ?_
    exact next _ ⟨pen'', _, _, _, _, _, h.mono (by omega), rfl⟩
  obtain ⟨pen', s6, s7, s8, s9, s10, hp', rfl⟩ := hI
  clear hT T
  show N _; rw [hN]; clear hN N
  refine seq_o fun N hN => ?_
  refine for_a fun T hT => ?_
  walk_at "d-run"
  refine ⟨d, rfl, hn, dg, by omega, fun L hL l40 => ?_⟩
  walk_at "d-run"
  refine ⟨by omega, ?_⟩
  refine ⟨by omega, by omega, by omega, ?_⟩
  refine comp_st (fun i acc δ => ∃ pen2, PenOk (b + 1 + 1 + 1000 + 10 * 6 + 40 * i) pen2 ∧ (∀ x ∈ acc, goodB x = true) ∧ acc.length = i ∧ δ = ⟨[some (.pu (.scr ns)), some (.ow (.lst pen2)), s2, some (.pu (DI' (n' : Int))), some (.pu d), some (.pu (DS' sh)), none, s7, s8, s9, s10, s11, s12, s13, s14, s15, s16, none], an⟩) _ _ 0 _ (fun i x acc δ K2 hd hJ k => ?_) (fun acc δ hJ => ?_) ⟨pen', hp', (fun x hx => by cases hx), rfl, rfl⟩
  · obtain ⟨pen2, hp2, hacc, hl, rfl⟩ := hJ
    have hi : i < 6 := by
      have := (List.getElem?_eq_some_iff.mp hd).1
      rw [rng_len] at this
      simpa using this
    rw [Nat.zero_add] at hp2 hl
    walk_at "d-run"
    refine ⟨_, pen2, d, rfl, hp2, by omega, pt, by omega, by omega, fun e pen4 he hp4 => ?_⟩
    walk_at "d-run"
    refine k _ _ ⟨by rw [hl]; omega, pen4, ?_, ?_, ?_, rfl⟩
    · rw [Nat.zero_add]; exact hp4.mono (by omega)
    · intro y hy
      rcases List.mem_append.mp hy with hy | hy
      · exact hacc y hy
      · rw [List.mem_singleton.mp hy]; exact bent_good he (by omega) (by omega)
    · rw [List.length_append, hl, Nat.zero_add]; rfl
  · obtain ⟨pen2, hp2, hacc, hl, rfl⟩ := hJ
    rw [rng_len, Nat.zero_add] at hp2 hl
    have hl : acc.length = 6 := hl
    walk_at "d-run"
    refine ⟨by rw [List.length_append, List.length_singleton]; omega, ?_⟩
    have hall : ∀ x ∈ L ++ [d] ++ acc, goodB x = true := fun x hx => by
      rcases List.mem_append.mp hx with hx | hx
      · rcases List.mem_append.mp hx with hx | hx
        · exact hL x hx
        · rw [List.mem_singleton.mp hx]; exact gd
      · exact hacc x hx
    refine for_i (fun j δ => ∃ s6 s11 s12 s13, δ = ⟨[some (.pu (.scr ns)), some (.ow (.lst pen2)), s2, some (.pu (DI' (n' : Int))), some (.pu d), some (.pu (DS' sh)), s6, s7, s8, s9, s10, s11, s12, s13, s14, s15, s16, none], an⟩) ⟨_, _, _, _, rfl⟩ (fun j x δ K1 hx hI next => ?_) fun δ hI => ?_
    · obtain ⟨s6, s11, s12, s13, rfl⟩ := hI
      walk_at "d-run"
      rw [hT]
      refine th_body Z (hall x (List.mem_of_getElem? hx)) fun s12 s13 => ?_
      exact next _ ⟨_, _, _, _, rfl⟩
    obtain ⟨s6, s11, s12, s13, rfl⟩ := hI
    clear hT T
    show N _; rw [hN]; clear hN N
    refine seq_o fun N hN => ?_
    refine od_body Z t hn od fun s14 => ?_
    show N _; rw [hN]; clear hN N
    refine seq_o fun N hN => ?_
    refine mt_body Z t hn od (by omega) fun s14 => ?_
    show N _; rw [hN]; clear hN N
    walk_at "d-run"
    refine cS_i ep ?_
    walk_at "d-run"
    refine ⟨sp, ?_⟩
    rw [hsh]
    walk_at "d-run"
    refine ⟨rfl, cB_n (by simp) ?_⟩
    walk_at "d-run"
    exact g _ _ _ _ _ _ _ _ _ _ _ _ _ (hp2.mono (by omega))
end
end Lw

/-! text Q32k -/
set_option Elab.async false
set_option linter.all false
set_option maxRecDepth 100000
set_option maxHeartbeats 4000000
namespace Lw
open PySem PySem.Spec PyProof.Rows L2 DL
section
variable {P : Program} {w : World} {base : Heap} {K : PySem.W.Frag} {ws : List Wv} {Q : Wv → List Wv → Prop} {Y : Value → List Wv → Prop} {mg : Str → Option Value}
local macro_rules | `(tactic| walk_at "d-run") => `(tactic| try simp only [↓y_dSeq, ↓y_dC, ↓y_dG, ↓y_dOp, ↓y_dUn, ↓y_dNil, ↓y_dCons, ↓y_dCallP, ↓y_dTst, ↓y_dAnd, ↓y_dOr, ↓y_dNot, ↓y_dAndV, ↓y_dOrV, ↓y_dNotV, ↓y_dIf, ↓y_dFz, ↓y_dTup, ↓y_dLst, ↓y_dCall, ↓y_dLam, ↓y_dNext, ↓y_dBrk, ↓y_dCnt, ↓y_dDrop, ↓y_dRet, ↓y_dRetN, ↓y_dIfS, ↓y_dSet, ↓y_dgName, ↓y_dgNil, ↓y_dgCons, ↓y_dgTup, ↓y_dgLst, ↓y_dgTxt, ↓y_dAsg, ↓y_dIt, ↓y_dRng1, ↓y_dRng2, ↓y_dEnum, ↓y_dZip, ↓y_dFor, ↓y_dRaise, ↓y_dLc, ↓y_dLc2, ↓y_dYes, ↓y_dNewD, ↓y_dMi, ↓y_dMs, ↓y_dMl, ↓y_dgSet, ↓y_dPar, ↓y_dONo, ↓y_dOSome, ↓y_dSl, ↓y_dChain, ↓y_subP, ↓y_divP, ↓y_modP, ↓y_powP, ↓y_ltP, ↓y_leP, ↓y_gtP, ↓y_geP, ↓y_addP_i, ↓y_addP_s, ↓y_addP_l, ↓y_addP_t, ↓y_mulP_i, ↓y_mulP_s, ↓y_mulP_l, ↓y_mulP_t, ↓y_eqP_s, ↓y_eqP_ll, ↓y_eqP_lt, ↓y_eqP_ls, ↓y_eqP_ld, ↓y_eqP_tl, ↓y_eqP_tt, ↓y_eqP_ts, ↓y_eqP_td, ↓y_eqP_sl, ↓y_eqP_st, ↓y_eqP_sd, ↓y_eqP_dl, ↓y_eqP_dt, ↓y_eqP_ds, ↓y_eqP_dd, ↓y_inP_s, ↓y_inP_t, ↓y_inP_l, ↓y_isNP_s, ↓y_isNP_t, ↓y_isNP_l, ↓y_isNP_d, ↓y_isBP, ↓y_ixP_l, ↓y_ixP_t, ↓y_ixP_s, ↓y_lenP, ↓y_isiP, ↓y_allP, ↓y_anyP, ↓y_intP_i, ↓y_intP_b, ↓y_listP_l, ↓y_listP_t, ↓y_tupleP_l, ↓y_tupleP_t, ↓y_sortedSP, ↓y_reprP, ↓y_negP, ↓y_revP_s, ↓y_revP_l, ↓y_slP_l, ↓y_slP_t, ↓y_slP_r, ↓y_slP_s, ↓y_findP, ↓y_countP, ↓y_joinP, ↓y_lcountP_s, ↓y_lcountP_i, ↓y_appP, ↓y_insP, ↓kc_q, ↓kc_y, ↓k1_k, ↓k2_k, ↓k0_k, ↓kb_a, ↓kb_b, ↓cS_some, ↓cB_t, ↓cB_f, ↓cBl_i, ↓cInt_i, ↓cSD_i, ↓cLD_i, ↓cLM_i, ↓dLM_i, ↓cBw_i, ↓cPair_i, ↓cOne_i, ↓cI1_i, ↓cI2_i, ↓cTup_i, ↓cLst_i, ↓cTxt_i, ↓cCons_i, ↓cNil_i, ↓dVar, DS.put, DS.wipe, DS.rest, wipeL, restL, val, slD, vals, frz1, put1, out1, pures, dargs, dback, getM, setM, M.frz, start0, par, dEnds, isRes, itemsD, tyD, lenD, dLSet, dLRg, ↓y_inTabP, ↓y_ixTabP, ↓y_eqEP, ↓y_strP, ↓y_revP_t, ↓y_list2P_l, ↓y_list2P_t, ↓y_list2P_s, ↓y_reprP2, ↓y_dDGet, ↓y_dUpper, ↓y_dIsiT, ↓y_dCallB, strO, tyO, scO, List.getElem?_cons_zero, List.getElem?_cons_succ, List.set_cons_zero, List.set_cons_succ, List.cons_append, List.nil_append, List.replicate_succ, List.replicate_zero, List.length_cons, List.length_nil, Option.some.injEq, exists_eq_left', exists_eq_left, Wv.pu.injEq, D.sc.injEq, V.bl.injEq, V.int.injEq, V.str.injEq, Nat.reduceSub, Nat.reduceAdd, List.cons.injEq, and_true, true_and, exists_and_left, Option.map_some, if_true, if_false, Bool.false_eq_true, exists_eq_right, ex2a, ex2b, ex2c, D.tup.injEq, D.lst.injEq, M.lst.injEq, eq_self])
def fl (a : Nat) : Nat := if a = 48 then 49 else if a = 49 then 48 else 63
def chG (k : Nat) : D := .tup [DS' "not", DI' ((0 : Int) + (k : Int))]
def chainD : D := .tup [DI' 1, .tup ((List.range 2000).map chG), .tup [DI' 2000, DI' 1999]]
theorem fl_fl : ∀ c ∈ [48, 49, 63], fl (fl c) = c := by decide
theorem chain_run {c : Nat} (hc : c ∈ [48, 49, 63]) : ∀ j, runB ((List.range j).map chG) [c] = (List.range (j + 1)).map fun k => if k % 2 = 0 then c else fl c
  | 0 => rfl
  | j + 1 => by
    rw [List.range_succ, List.map_append, show ([j].map chG : List D) = [chG j] from rfl, runB_snoc, chain_run hc j, List.range_succ (n := j + 1), List.map_append]
    congr 1
    have tq : toldB (chG j) ((List.range (j + 1)).map fun k => if k % 2 = 0 then c else fl c) = fl (((List.range (j + 1)).map fun k => if k % 2 = 0 then c else fl c).getD ((0 : Int) + (j : Int)).toNat 0) := rfl
    rw [tq, show ((0 : Int) + (j : Int)).toNat = j by omega, List.getD_eq_getElem?_getD, List.getElem?_map, List.getElem?_range (by omega)]
    show [fl (if j % 2 = 0 then c else fl c)] = [if (j + 1) % 2 = 0 then c else fl c]
    by_cases h : j % 2 = 0
    · rw [if_pos h, if_neg (by omega)]
    · rw [if_neg h, if_pos (by omega), fl_fl c hc]
theorem chain_net : netB chainD = true := by
  show netB (.tup [DI' 1, .tup ((List.range 2000).map chG), .tup [DI' 2000, DI' 1999]]) = true
  rw [netB_3]
  have h2 : gatesB ((List.range 2000).map chG) (numOf (DI' 1)) = true := by
    refine List.all_eq_true.mpr fun k hk => ?_
    have hk := List.mem_range.mp hk
    rw [List.length_map, List.length_range] at hk
    rw [List.getD_eq_getElem?_getD, List.getElem?_map, List.getElem?_range hk]
    show gateB (chG k) _ = true
    have hp : places "not" = some 1 := by decide +kernel
    unfold chG
    simp only [gateB, hp, List.length_singleton, List.all_cons, List.all_nil, Bool.and_true, isNum, Bool.and_eq_true, decide_eq_true_eq]
    show (((1 : Nat) : Int) = 1) ∧ 0 ≤ (0 : Int) + (k : Int) ∧ (0 : Int) + (k : Int) ≤ (1 : Int) + (k : Int) - 1
    omega
  rw [h2]
  simp only [List.length_map, List.length_range]
  decide +kernel
theorem chain_ok : okB chainD = true := by
  have hg : okBs ((List.range 2000).map chG) = true := by
    have : ∀ l : List Nat, okBs (l.map chG) = true := fun l => by
      induction l with
      | nil => rfl
      | cons k l ih =>
        rw [List.map_cons]
        simp only [okBs, ih, Bool.and_true]
        rfl
    exact this _
  unfold chainD
  simp only [okB, okBs, hg, List.length_map, List.length_range]
  decide +kernel
theorem chain_at {c : Nat} (hc : c ∈ [48, 49, 63]) : netRun chainD (sign c) = strOf [c, fl c] := by
  unfold netRun
  show strOf ([DI' 2000, DI' 1999].map fun o => (runB ((List.range 2000).map chG) [c]).getD (numOf o).toNat 0) = _
  rw [chain_run hc]
  have at_ : ∀ k, k < 2001 → ((List.range (2000 + 1)).map fun k => if k % 2 = 0 then c else fl c).getD k 0 = if k % 2 = 0 then c else fl c := fun k hk => by
    rw [List.getD_eq_getElem?_getD, List.getElem?_map, List.getElem?_range hk]
    rfl
  show strOf [((List.range (2000 + 1)).map fun k => if k % 2 = 0 then c else fl c).getD 2000 0, ((List.range (2000 + 1)).map fun k => if k % 2 = 0 then c else fl c).getD 1999 0] = _
  rw [at_ 2000 (by decide), at_ 1999 (by decide)]
  rfl
theorem chain0 : netRun chainD "0" = "01" := by
  rw [show ("0" : Str) = sign 48 by decide +kernel, chain_at (by decide)]
  decide +kernel
theorem chainq : netRun chainD "?" = "??" := by
  rw [show ("?" : Str) = sign 63 by decide +kernel, chain_at (by decide)]
  decide +kernel
def xorD : D := .tup [DI' 1, .tup ((List.replicate (Int.toNat 40) [.tup [DS' "not", DI' 0]]).flatten ++ [.tup [DS' "xor", DI' 0, DI' 0]]), .tup [DI' 0]]
theorem xor_no : netB xorD = false ∧ okB xorD = true := by decide +kernel
theorem r_law (Z : Fx K mg) (h : sp_law K ws Q Y) : t_law K (dEnds Q Y) (start0 N_law ws) := by
  obtain ⟨ns, rfl, hn, q⟩ := h
  have sl9 : 200000 < sizeLine := by decide
  simp only [t_law, N_law]
  refine seq_o fun N hN => ?_
  walk_at "d-run"
  refine ⟨ns, rfl, hn, fun pen hp => ?_⟩
  walk_at "d-run"
  show N _; rw [hN]; clear hN N
  refine seq_o fun N hN => ?_
  refine for_a fun T hT => ?_
  walk_at "d-run"
  refine ⟨by decide, by decide, ?_⟩
  refine for_rng 0 2 (fun j δ => ∃ pen' s2 s3 s4 s5 s6 s7 s8 s9 s10 s11 s12 s13 s14, PenOk (2000 * j) pen' ∧ δ = ⟨[some (.pu (.scr ns)), some (.ow (.lst pen')), s2, s3, s4, s5, s6, s7, s8, s9, s10, s11, s12, s13, s14, none, none, none], [.pu (.scr ns)]⟩) ⟨pen, none, none, none, none, none, none, none, none, none, none, none, none, none, hp, rfl⟩ (fun j δ K1 hj hI next => ?_) fun δ hI => ?_
  · obtain ⟨pen', s2, s3, s4, s5, s6, s7, s8, s9, s10, s11, s12, s13, s14, hp', rfl⟩ := hI
    walk_at "d-run"
    rw [hT]
    refine u_body Z hp' (by omega) fun pen'' s3 s4 s5 s6 s7 s8 s9 s10 s11 s12 s13 s14 h => ?_
    exact next _ ⟨pen'', _, _, _, _, _, _, _, _, _, _, _, _, _, h.mono (by omega), rfl⟩
  obtain ⟨pen', s2, s3, s4, s5, s6, s7, s8, s9, s10, s11, s12, s13, s14, hp', rfl⟩ := hI
  clear hT T
  show N _; rw [hN]; clear hN N
  refine seq_o fun N hN => ?_
  walk_at "d-run"
  refine ⟨by decide, by decide, ?_⟩
  refine comp_map (fun o : D => .tup [DS' "not", o]) (rngL 0 (Int.toNat 2000)) [] _ (fun o ho K2 k => ?_) (by rw [List.length_nil, rng_len]; exact (by decide : 0 + 2000 ≤ sizeLine)) ?_
  · walk_at "d-run"
    refine ⟨by decide, ?_⟩
    exact k _ rfl
  have ec : (rngL 0 (Int.toNat 2000)).map (fun o : D => D.tup [DS' "not", o]) = (List.range 2000).map chG := by
    unfold rngL
    rw [List.map_map]
    rfl
  rw [ec]
  walk_at "d-run"
  refine ⟨by decide, by decide, ?_⟩
  show N _; rw [hN]; clear hN N
  refine seq_o fun N hN => ?_
  walk_at "d-run"
  refine c_run (d := chainD) (w := "0") chain_ok chain_net (by unfold bitsS; decide +kernel) rfl ?_
  rw [chain0]
  walk_at "d-run"
  refine ⟨rfl, cB_n (by simp) ?_⟩
  walk_at "d-run"
  refine c_run (d := chainD) (w := "?") chain_ok chain_net (by unfold bitsS; decide +kernel) rfl ?_
  rw [chainq]
  walk_at "d-run"
  refine ⟨rfl, cB_n (by simp) ?_⟩
  walk_at "d-run"
  show N _; rw [hN]; clear hN N
  refine seq_o fun N hN => ?_
  walk_at "d-run"
  refine ⟨by omega, by omega, ⟨by simp, by omega, by omega, by omega⟩, by omega, by omega, by decide, by omega, by omega, ?_⟩
  refine c_isnet (d := xorD) xor_no.2 ?_
  rw [xor_no.1]
  walk_at "d-run"
  refine cB_n (by simp) ?_
  walk_at "d-run"
  show N _; rw [hN]; clear hN N
  refine seq_o fun N hN => ?_
  walk_at "d-run"
  refine ⟨_, pen', 32, 40, 32, rfl, hp', by omega, by omega, by omega, by omega, by omega, by omega, fun d pen3 hn di dg dm hp3 => ?_⟩
  walk_at "d-run"
  obtain ⟨n', gs, os, t⟩ := net_of hn
  obtain rfl : n' = 32 := by rw [← di, t.eq]; show n' = ((n' : Int)).toNat; omega
  have hg : gs.length ≤ 40 := by rw [t.eq] at dg; exact dg
  have o32 := t.o32
  obtain ⟨pt, ps, pd⟩ := t.ptB (by omega)
  have gd := pt_good pt (by omega) (by omega)
  have od := good_ok gd
  show N _; rw [hN]; clear hN N
  refine seq_o fun N hN => ?_
  walk_at "d-run"
  refine ⟨_, pen3, 32, rfl, hp3, by omega, by omega, fun w pen4 wl wb hp4 => ?_⟩
  walk_at "d-run"
  have wi : w.length = inOf d := by omega
  show N _; rw [hN]; clear hN N
  walk_at "d-run"
  refine c_isnet od ?_
  rw [hn]
  walk_at "d-run"
  refine cB_y (by simp) ?_
  walk_at "d-run"
  refine c_run od hn wb wi ?_
  walk_at "d-run"
  refine c_lrun hn wb wi ?_
  walk_at "d-run"
  refine ⟨rfl, ?_⟩
  have e : (false ^^ decide True) = true := rfl
  rw [e]
  exact q
end
end Lw

/-! text J -/
set_option Elab.async false
set_option linter.all false
set_option maxRecDepth 100000
set_option maxHeartbeats 4000000
namespace Lw
open PySem PySem.Spec PyProof.Rows L2 DL

section
variable {P : Program} {w : World} {base : Heap} {K : PySem.W.Frag} {ws : List Wv} {Q : Wv → List Wv → Prop} {Y : Value → List Wv → Prop} {mg : Str → Option Value}

theorem mono__law_open : MonoP (sp__law_open K) := fun ws Q Q' Y Y' hQ hY ⟨ns, e, h, q⟩ => ⟨ns, e, h, fun pen hp => hQ _ _ (q pen hp)⟩
theorem len__law_open {ws : List Wv} {Q : Wv → List Wv → Prop} {Y : Value → List Wv → Prop} (h : sp__law_open K ws Q Y) : ws.length = 1 := by
  obtain ⟨ns, rfl, _⟩ := h
  rfl
theorem mono__law_spread : MonoP (sp__law_spread K) := fun ws Q Q' Y Y' hQ hY ⟨c, k, e, h1, h2, q⟩ => ⟨c, k, e, h1, h2, fun v hv => hQ _ _ (q v hv)⟩
theorem len__law_spread {ws : List Wv} {Q : Wv → List Wv → Prop} {Y : Value → List Wv → Prop} (h : sp__law_spread K ws Q Y) : ws.length = 2 := by
  obtain ⟨c, k, rfl, _⟩ := h
  rfl
theorem mono__law_take : MonoP (sp__law_take K) := fun ws Q Q' Y Y' hQ hY ⟨b, pen, many, e, h1, h2, h3, h4, q⟩ => ⟨b, pen, many, e, h1, h2, h3, h4, fun v pen' x y z => hQ _ _ (q v pen' x y z)⟩
theorem len__law_take {ws : List Wv} {Q : Wv → List Wv → Prop} {Y : Value → List Wv → Prop} (h : sp__law_take K ws Q Y) : ws.length = 2 := by
  obtain ⟨b, pen, many, rfl, _⟩ := h
  rfl
theorem mono__law_one_of : MonoP (sp__law_one_of K) := fun ws Q Q' Y Y' hQ hY ⟨b, pen, d, ds, e, h1, h2, h3, h4, h5, q⟩ => ⟨b, pen, d, ds, e, h1, h2, h3, h4, h5, fun v pen' x y => hQ _ _ (q v pen' x y)⟩
theorem len__law_one_of {ws : List Wv} {Q : Wv → List Wv → Prop} {Y : Value → List Wv → Prop} (h : sp__law_one_of K ws Q Y) : ws.length = 2 := by
  obtain ⟨b, pen, d, ds, rfl, _⟩ := h
  rfl
theorem mono__law_any_word : MonoP (sp__law_any_word K) := fun ws Q Q' Y Y' hQ hY ⟨b, pen, n, e, h1, h2, h3, q⟩ => ⟨b, pen, n, e, h1, h2, h3, fun v pen' x y z => hQ _ _ (q v pen' x y z)⟩
theorem len__law_any_word {ws : List Wv} {Q : Wv → List Wv → Prop} {Y : Value → List Wv → Prop} (h : sp__law_any_word K ws Q Y) : ws.length = 2 := by
  obtain ⟨b, pen, n, rfl, _⟩ := h
  rfl
theorem mono_law : MonoP (sp_law K) := fun ws Q Q' Y Y' hQ hY ⟨ns, e, h, q⟩ => ⟨ns, e, h, hQ _ _ q⟩
theorem len_law {ws : List Wv} {Q : Wv → List Wv → Prop} {Y : Value → List Wv → Prop} (h : sp_law K ws Q Y) : ws.length = 1 := by
  obtain ⟨ns, rfl, _⟩ := h
  rfl
theorem mono__law_any_net : MonoP (sp__law_any_net K) := fun ws Q Q' Y Y' hQ hY ⟨b, pen, n, most, m, e, h1, h2, h3, h4, h5, h6, h7, q⟩ => ⟨b, pen, n, most, m, e, h1, h2, h3, h4, h5, h6, h7, fun d pen' x y z t u => hQ _ _ (q d pen' x y z t u)⟩
theorem len__law_any_net {ws : List Wv} {Q : Wv → List Wv → Prop} {Y : Value → List Wv → Prop} (h : sp__law_any_net K ws Q Y) : ws.length = 4 := by
  obtain ⟨b, pen, n, most, m, rfl, _⟩ := h
  rfl
theorem mono__law_odd_nets : MonoP (sp__law_odd_nets K) := fun ws Q Q' Y Y' hQ hY ⟨d, e, h1, h2, h3, q⟩ => ⟨d, e, h1, h2, h3, fun L x y => hQ _ _ (q L x y)⟩
theorem len__law_odd_nets {ws : List Wv} {Q : Wv → List Wv → Prop} {Y : Value → List Wv → Prop} (h : sp__law_odd_nets K ws Q Y) : ws.length = 1 := by
  obtain ⟨d, rfl, _⟩ := h
  rfl
theorem mono__law_bent {n : Nat} : MonoP (sp__law_bentN n K) := fun ws Q Q' Y Y' hQ hY ⟨b, pen, d, e, h1, h2, h3, h4, h5, q⟩ => ⟨b, pen, d, e, h1, h2, h3, h4, h5, fun d' pen' x y => hQ _ _ (q d' pen' x y)⟩
theorem len__law_bent {n : Nat} {ws : List Wv} {Q : Wv → List Wv → Prop} {Y : Value → List Wv → Prop} (h : sp__law_bentN n K ws Q Y) : ws.length = 2 := by
  obtain ⟨b, pen, d, rfl, _⟩ := h
  rfl
theorem none__law_bent {ws : List Wv} {Q : Wv → List Wv → Prop} {Y : Value → List Wv → Prop} (h : sp__law_bentN 0 K ws Q Y) : False := by
  obtain ⟨b, pen, d, _, _, _, _, h, _⟩ := h
  omega
/-- the first level: no value is so shallow -/
theorem ok0__law_bent {P : Program} {w : World} {base : Heap} (Z : Fx K mg) : CallOk P w K mg base (TT K) 4 "_law_bent" ["pen", "value"] (sp__law_bentN 0 K) := by
  obtain ⟨fd, F⟩ := Z.f__law_bent
  refine ⟨mono__law_bent, Z.g__law_bent, F.kp, fd, ?_, F.bindsN fun _ _ _ _ _ _ us hl => match us, hl with | [_, _], _ => rfl⟩
  refine (funOf F).okX (k := 3) sc__law_bent (fun vs H Q E h => ?_) (fun cdv A outer s H vs Q E hr h => ?_)
  · obtain ⟨_, _, _, _, _, h⟩ := h
    exact (none__law_bent h).elim
  · obtain ⟨_, _, _, _, _, h⟩ := h
    exact (none__law_bent h).elim
theorem okS__law_bent {P : Program} {w : World} {base : Heap} (Z : Fx K mg) (C__law_one_of : CallOk P w K mg base (TT K) 3 "_law_one_of" ["pen", "some"] (sp__law_one_of K)) (C__law_take : CallOk P w K mg base (TT K) 2 "_law_take" ["pen", "many"] (sp__law_take K)) {n : Nat}
    (C__law_bent : CallOk P w K mg base (TT K) (4 + n) "_law_bent" ["pen", "value"] (sp__law_bentN n K)) : CallOk P w K mg base (TT K) (4 + n + 1) "_law_bent" ["pen", "value"] (sp__law_bentN (n + 1) K) := by
  obtain ⟨fd, F⟩ := Z.f__law_bent
  exact ⟨mono__law_bent, Z.g__law_bent, F.kp, fd, dfn (funOf F) sc__law_bent (fun ws Q Y h => len__law_bent h) (fun cdv A outer s H vs E hr hl => ⟨_, w__law_bent Z C__law_bent C__law_one_of C__law_take (Nat.le_refl _) (by omega) hr, fun ws Q Y h => r__law_bent h⟩), F.bindsN fun _ _ _ _ _ _ us hl => match us, hl with | [_, _], _ => rfl⟩
theorem ok__law_bent {P : Program} {w : World} {base : Heap} (Z : Fx K mg) (C__law_one_of : CallOk P w K mg base (TT K) 3 "_law_one_of" ["pen", "some"] (sp__law_one_of K)) (C__law_take : CallOk P w K mg base (TT K) 2 "_law_take" ["pen", "many"] (sp__law_take K)) : CallOk P w K mg base (TT K) 8 "_law_bent" ["pen", "value"] (sp__law_bent K) :=
  okS__law_bent (n := 3) Z C__law_one_of C__law_take (okS__law_bent (n := 2) Z C__law_one_of C__law_take (okS__law_bent (n := 1) Z C__law_one_of C__law_take (okS__law_bent (n := 0) Z C__law_one_of C__law_take (ok0__law_bent Z))))
end
section
variable {P : Program} {w : World} {K : PySem.W.Frag} {mg : Str → Option Value} {base : Heap}
theorem ok_is_within_bounds (Z : Fx K mg)  : CallOk P w K mg base (TT K) 1 "is_within_bounds" ["thing", "least", "most"] (sp_is_within_bounds K) := by
  obtain ⟨fd, F⟩ := Z.f_is_within_bounds
  exact ⟨spX_mono, Z.g_is_within_bounds, F.kp, fd, dfn (funOf F) sc_is_within_bounds (fun ws Q Y h => spX_len h) (fun cdv A outer s H vs E hr hl => ⟨_, w_is_within_bounds Z  hr, fun ws Q Y h => r_is_within_bounds h⟩), F.bindsN fun _ _ _ _ _ _ us hl => match us, hl with | [_, _, _], _ => rfl⟩
theorem ok_is_word (Z : Fx K mg)  : CallOk P w K mg base (TT K) 1 "is_word" ["thing"] (sp_is_word K) := by
  obtain ⟨fd, F⟩ := Z.f_is_word
  exact ⟨spX_mono, Z.g_is_word, F.kp, fd, dfn (funOf F) sc_is_word (fun ws Q Y h => spX_len h) (fun cdv A outer s H vs E hr hl => ⟨_, w_is_word Z  hr, fun ws Q Y h => r_is_word h⟩), F.bindsN fun _ _ _ _ _ _ us hl => match us, hl with | [_], _ => rfl⟩
theorem ok_need_word (Z : Fx K mg) (C_is_word : CallOk P w K mg base (TT K) 1 "is_word" ["thing"] (sp_is_word K)) : CallOk P w K mg base (TT K) 2 "need_word" ["thing"] (sp_need_word K) := by
  obtain ⟨fd, F⟩ := Z.f_need_word
  exact ⟨spX_mono, Z.g_need_word, F.kp, fd, dfn (funOf F) sc_need_word (fun ws Q Y h => spX_len h) (fun cdv A outer s H vs E hr hl => ⟨_, w_need_word Z C_is_word hr, fun ws Q Y h => r_need_word h⟩), F.bindsN fun _ _ _ _ _ _ us hl => match us, hl with | [_], _ => rfl⟩
theorem ok_is_gate (Z : Fx K mg) (C_is_within_bounds : CallOk P w K mg base (TT K) 1 "is_within_bounds" ["thing", "least", "most"] (sp_is_within_bounds K)) (TB_PLACES : TabOk w K (He.ga K "PLACES") tab_PLACES) : CallOk P w K mg base (TT K) 2 "is_gate" ["thing", "below"] (sp_is_gate K) := by
  obtain ⟨fd, F⟩ := Z.f_is_gate
  exact ⟨spX_mono, Z.g_is_gate, F.kp, fd, dfn (funOf F) sc_is_gate (fun ws Q Y h => spX_len h) (fun cdv A outer s H vs E hr hl => ⟨_, w_is_gate Z C_is_within_bounds TB_PLACES hr, fun ws Q Y h => r_is_gate h⟩), F.bindsN fun _ _ _ _ _ _ us hl => match us, hl with | [_, _], _ => rfl⟩
theorem ok_are_outs (Z : Fx K mg) (C_is_within_bounds : CallOk P w K mg base (TT K) 1 "is_within_bounds" ["thing", "least", "most"] (sp_is_within_bounds K)) : CallOk P w K mg base (TT K) 2 "are_outs" ["thing", "below"] (sp_are_outs K) := by
  obtain ⟨fd, F⟩ := Z.f_are_outs
  exact ⟨spX_mono, Z.g_are_outs, F.kp, fd, dfn (funOf F) sc_are_outs (fun ws Q Y h => spX_len h) (fun cdv A outer s H vs E hr hl => ⟨_, w_are_outs Z C_is_within_bounds hr, fun ws Q Y h => r_are_outs h⟩), F.bindsN fun _ _ _ _ _ _ us hl => match us, hl with | [_, _], _ => rfl⟩
theorem ok_is_net (Z : Fx K mg) (C_are_outs : CallOk P w K mg base (TT K) 2 "are_outs" ["thing", "below"] (sp_are_outs K)) (C_is_gate : CallOk P w K mg base (TT K) 2 "is_gate" ["thing", "below"] (sp_is_gate K)) (C_is_within_bounds : CallOk P w K mg base (TT K) 1 "is_within_bounds" ["thing", "least", "most"] (sp_is_within_bounds K)) : CallOk P w K mg base (TT K) 3 "is_net" ["thing"] (sp_is_net K) := by
  obtain ⟨fd, F⟩ := Z.f_is_net
  exact ⟨spX_mono, Z.g_is_net, F.kp, fd, dfn (funOf F) sc_is_net (fun ws Q Y h => spX_len h) (fun cdv A outer s H vs E hr hl => ⟨_, w_is_net Z C_are_outs C_is_gate C_is_within_bounds hr, fun ws Q Y h => r_is_net h⟩), F.bindsN fun _ _ _ _ _ _ us hl => match us, hl with | [_], _ => rfl⟩
theorem ok_need_net (Z : Fx K mg) (C_is_net : CallOk P w K mg base (TT K) 3 "is_net" ["thing"] (sp_is_net K)) : CallOk P w K mg base (TT K) 4 "need_net" ["thing"] (sp_need_net K) := by
  obtain ⟨fd, F⟩ := Z.f_need_net
  exact ⟨spX_mono, Z.g_need_net, F.kp, fd, dfn (funOf F) sc_need_net (fun ws Q Y h => spX_len h) (fun cdv A outer s H vs E hr hl => ⟨_, w_need_net Z C_is_net hr, fun ws Q Y h => r_need_net h⟩), F.bindsN fun _ _ _ _ _ _ us hl => match us, hl with | [_], _ => rfl⟩
theorem ok_told_by (Z : Fx K mg)  : CallOk P w K mg base (TT K) 1 "told_by" ["gate", "bits"] (sp_told_by K) := by
  obtain ⟨fd, F⟩ := Z.f_told_by
  exact ⟨spX_mono, Z.g_told_by, F.kp, fd, dfn (funOf F) sc_told_by (fun ws Q Y h => spX_len h) (fun cdv A outer s H vs E hr hl => ⟨_, w_told_by Z  hr, fun ws Q Y h => r_told_by h⟩), F.bindsN fun _ _ _ _ _ _ us hl => match us, hl with | [_, _], _ => rfl⟩
theorem ok_raw_run (Z : Fx K mg) (C_told_by : CallOk P w K mg base (TT K) 1 "told_by" ["gate", "bits"] (sp_told_by K)) : CallOk P w K mg base (TT K) 2 "raw_run" ["net", "word"] (sp_raw_run K) := by
  obtain ⟨fd, F⟩ := Z.f_raw_run
  exact ⟨spX_mono, Z.g_raw_run, F.kp, fd, dfn (funOf F) sc_raw_run (fun ws Q Y h => spX_len h) (fun cdv A outer s H vs E hr hl => ⟨_, w_raw_run Z C_told_by hr, fun ws Q Y h => r_raw_run h⟩), F.bindsN fun _ _ _ _ _ _ us hl => match us, hl with | [_, _], _ => rfl⟩
theorem ok_run (Z : Fx K mg) (C_need_net : CallOk P w K mg base (TT K) 4 "need_net" ["thing"] (sp_need_net K)) (C_need_word : CallOk P w K mg base (TT K) 2 "need_word" ["thing"] (sp_need_word K)) (C_raw_run : CallOk P w K mg base (TT K) 2 "raw_run" ["net", "word"] (sp_raw_run K)) : CallOk P w K mg base (TT K) 5 "run" ["net", "word"] (sp_run K) := by
  obtain ⟨fd, F⟩ := Z.f_run
  exact ⟨spX_mono, Z.g_run, F.kp, fd, dfn (funOf F) sc_run (fun ws Q Y h => spX_len h) (fun cdv A outer s H vs E hr hl => ⟨_, w_run Z C_need_net C_need_word C_raw_run hr, fun ws Q Y h => r_run h⟩), F.bindsN fun _ _ _ _ _ _ us hl => match us, hl with | [_, _], _ => rfl⟩
theorem ok__law_open (Z : Fx K mg)  : CallOk P w K mg base (TT K) 1 "_law_open" ["script"] (sp__law_open K) := by
  obtain ⟨fd, F⟩ := Z.f__law_open
  exact ⟨mono__law_open, Z.g__law_open, F.kp, fd, dfn (funOf F) sc__law_open (fun ws Q Y h => len__law_open h) (fun cdv A outer s H vs E hr hl => ⟨_, w__law_open Z  hr, fun ws Q Y h => r__law_open h⟩), F.bindsN fun _ _ _ _ _ _ us hl => match us, hl with | [_], _ => rfl⟩
theorem ok__law_spread (Z : Fx K mg)  : CallOk P w K mg base (TT K) 1 "_law_spread" ["cell", "k"] (sp__law_spread K) := by
  obtain ⟨fd, F⟩ := Z.f__law_spread
  exact ⟨mono__law_spread, Z.g__law_spread, F.kp, fd, dfn (funOf F) sc__law_spread (fun ws Q Y h => len__law_spread h) (fun cdv A outer s H vs E hr hl => ⟨_, w__law_spread Z  hr, fun ws Q Y h => r__law_spread h⟩), F.bindsN fun _ _ _ _ _ _ us hl => match us, hl with | [_, _], _ => rfl⟩
theorem ok__law_take (Z : Fx K mg) (C__law_spread : CallOk P w K mg base (TT K) 1 "_law_spread" ["cell", "k"] (sp__law_spread K)) : CallOk P w K mg base (TT K) 2 "_law_take" ["pen", "many"] (sp__law_take K) := by
  obtain ⟨fd, F⟩ := Z.f__law_take
  exact ⟨mono__law_take, Z.g__law_take, F.kp, fd, dfn (funOf F) sc__law_take (fun ws Q Y h => len__law_take h) (fun cdv A outer s H vs E hr hl => ⟨_, w__law_take Z C__law_spread hr, fun ws Q Y h => r__law_take h⟩), F.bindsN fun _ _ _ _ _ _ us hl => match us, hl with | [_, _], _ => rfl⟩
theorem ok__law_one_of (Z : Fx K mg) (C__law_take : CallOk P w K mg base (TT K) 2 "_law_take" ["pen", "many"] (sp__law_take K)) : CallOk P w K mg base (TT K) 3 "_law_one_of" ["pen", "some"] (sp__law_one_of K) := by
  obtain ⟨fd, F⟩ := Z.f__law_one_of
  exact ⟨mono__law_one_of, Z.g__law_one_of, F.kp, fd, dfn (funOf F) sc__law_one_of (fun ws Q Y h => len__law_one_of h) (fun cdv A outer s H vs E hr hl => ⟨_, w__law_one_of Z C__law_take hr, fun ws Q Y h => r__law_one_of h⟩), F.bindsN fun _ _ _ _ _ _ us hl => match us, hl with | [_, _], _ => rfl⟩
theorem ok__law_settled (Z : Fx K mg)  : CallOk P w K mg base (TT K) 1 "_law_settled" ["word"] (sp__law_settled K) := by
  obtain ⟨fd, F⟩ := Z.f__law_settled
  exact ⟨spX_mono, Z.g__law_settled, F.kp, fd, dfn (funOf F) sc__law_settled (fun ws Q Y h => spX_len h) (fun cdv A outer s H vs E hr hl => ⟨_, w__law_settled Z  hr, fun ws Q Y h => r__law_settled h⟩), F.bindsN fun _ _ _ _ _ _ us hl => match us, hl with | [_], _ => rfl⟩
theorem ok__law_joined (Z : Fx K mg)  : CallOk P w K mg base (TT K) 1 "_law_joined" ["words"] (sp__law_joined K) := by
  obtain ⟨fd, F⟩ := Z.f__law_joined
  exact ⟨spX_mono, Z.g__law_joined, F.kp, fd, dfn (funOf F) sc__law_joined (fun ws Q Y h => spX_len h) (fun cdv A outer s H vs E hr hl => ⟨_, w__law_joined Z  hr, fun ws Q Y h => r__law_joined h⟩), F.bindsN fun _ _ _ _ _ _ us hl => match us, hl with | [_], _ => rfl⟩
theorem ok__law_is_within (Z : Fx K mg)  : CallOk P w K mg base (TT K) 1 "_law_is_within" ["word", "other"] (sp__law_is_within K) := by
  obtain ⟨fd, F⟩ := Z.f__law_is_within
  exact ⟨spX_mono, Z.g__law_is_within, F.kp, fd, dfn (funOf F) sc__law_is_within (fun ws Q Y h => spX_len h) (fun cdv A outer s H vs E hr hl => ⟨_, w__law_is_within Z  hr, fun ws Q Y h => r__law_is_within h⟩), F.bindsN fun _ _ _ _ _ _ us hl => match us, hl with | [_, _], _ => rfl⟩
theorem ok__law_any_word (Z : Fx K mg) (C__law_one_of : CallOk P w K mg base (TT K) 3 "_law_one_of" ["pen", "some"] (sp__law_one_of K)) : CallOk P w K mg base (TT K) 4 "_law_any_word" ["pen", "n"] (sp__law_any_word K) := by
  obtain ⟨fd, F⟩ := Z.f__law_any_word
  exact ⟨mono__law_any_word, Z.g__law_any_word, F.kp, fd, dfn (funOf F) sc__law_any_word (fun ws Q Y h => len__law_any_word h) (fun cdv A outer s H vs E hr hl => ⟨_, w__law_any_word Z C__law_one_of hr, fun ws Q Y h => r__law_any_word h⟩), F.bindsN fun _ _ _ _ _ _ us hl => match us, hl with | [_, _], _ => rfl⟩
theorem ok__law_told (Z : Fx K mg)  : CallOk P w K mg base (TT K) 1 "_law_told" ["word", "bits"] (sp__law_told K) := by
  obtain ⟨fd, F⟩ := Z.f__law_told
  exact ⟨spX_mono, Z.g__law_told, F.kp, fd, dfn (funOf F) sc__law_told (fun ws Q Y h => spX_len h) (fun cdv A outer s H vs E hr hl => ⟨_, w__law_told Z  hr, fun ws Q Y h => r__law_told h⟩), F.bindsN fun _ _ _ _ _ _ us hl => match us, hl with | [_, _], _ => rfl⟩
theorem ok__law_run (Z : Fx K mg) (C__law_joined : CallOk P w K mg base (TT K) 1 "_law_joined" ["words"] (sp__law_joined K)) (C__law_settled : CallOk P w K mg base (TT K) 1 "_law_settled" ["word"] (sp__law_settled K)) (C__law_told : CallOk P w K mg base (TT K) 1 "_law_told" ["word", "bits"] (sp__law_told K)) : CallOk P w K mg base (TT K) 2 "_law_run" ["net", "word"] (sp__law_run K) := by
  obtain ⟨fd, F⟩ := Z.f__law_run
  exact ⟨spX_mono, Z.g__law_run, F.kp, fd, dfn (funOf F) sc__law_run (fun ws Q Y h => spX_len h) (fun cdv A outer s H vs E hr hl => ⟨_, w__law_run Z C__law_joined C__law_settled C__law_told hr, fun ws Q Y h => r__law_run h⟩), F.bindsN fun _ _ _ _ _ _ us hl => match us, hl with | [_, _], _ => rfl⟩
theorem ok__law_any_net (Z : Fx K mg) (C__law_one_of : CallOk P w K mg base (TT K) 3 "_law_one_of" ["pen", "some"] (sp__law_one_of K)) (C__law_take : CallOk P w K mg base (TT K) 2 "_law_take" ["pen", "many"] (sp__law_take K)) : CallOk P w K mg base (TT K) 4 "_law_any_net" ["pen", "n", "most", "m"] (sp__law_any_net K) := by
  obtain ⟨fd, F⟩ := Z.f__law_any_net
  exact ⟨mono__law_any_net, Z.g__law_any_net, F.kp, fd, dfn (funOf F) sc__law_any_net (fun ws Q Y h => len__law_any_net h) (fun cdv A outer s H vs E hr hl => ⟨_, w__law_any_net Z C__law_one_of C__law_take hr, fun ws Q Y h => r__law_any_net h⟩), F.bindsN fun _ _ _ _ _ _ us hl => match us, hl with | [_, _, _, _], _ => rfl⟩
theorem ok__law_is_number (Z : Fx K mg)  : CallOk P w K mg base (TT K) 1 "_law_is_number" ["thing", "least", "most"] (sp__law_is_number K) := by
  obtain ⟨fd, F⟩ := Z.f__law_is_number
  exact ⟨spX_mono, Z.g__law_is_number, F.kp, fd, dfn (funOf F) sc__law_is_number (fun ws Q Y h => spX_len h) (fun cdv A outer s H vs E hr hl => ⟨_, w__law_is_number Z  hr, fun ws Q Y h => r__law_is_number h⟩), F.bindsN fun _ _ _ _ _ _ us hl => match us, hl with | [_, _, _], _ => rfl⟩
theorem ok__law_is_net (Z : Fx K mg) (C__law_is_number : CallOk P w K mg base (TT K) 1 "_law_is_number" ["thing", "least", "most"] (sp__law_is_number K)) : CallOk P w K mg base (TT K) 2 "_law_is_net" ["thing"] (sp__law_is_net K) := by
  obtain ⟨fd, F⟩ := Z.f__law_is_net
  exact ⟨spX_mono, Z.g__law_is_net, F.kp, fd, dfn (funOf F) sc__law_is_net (fun ws Q Y h => spX_len h) (fun cdv A outer s H vs E hr hl => ⟨_, w__law_is_net Z C__law_is_number hr, fun ws Q Y h => r__law_is_net h⟩), F.bindsN fun _ _ _ _ _ _ us hl => match us, hl with | [_], _ => rfl⟩
theorem ok__law_odd_nets (Z : Fx K mg)  : CallOk P w K mg base (TT K) 1 "_law_odd_nets" ["net"] (sp__law_odd_nets K) := by
  obtain ⟨fd, F⟩ := Z.f__law_odd_nets
  exact ⟨mono__law_odd_nets, Z.g__law_odd_nets, F.kp, fd, dfn (funOf F) sc__law_odd_nets (fun ws Q Y h => len__law_odd_nets h) (fun cdv A outer s H vs E hr hl => ⟨_, w__law_odd_nets Z  hr, fun ws Q Y h => r__law_odd_nets h⟩), F.bindsN fun _ _ _ _ _ _ us hl => match us, hl with | [_], _ => rfl⟩
theorem ok_law (Z : Fx K mg) (C__law_any_net : CallOk P w K mg base (TT K) 4 "_law_any_net" ["pen", "n", "most", "m"] (sp__law_any_net K)) (C__law_any_word : CallOk P w K mg base (TT K) 4 "_law_any_word" ["pen", "n"] (sp__law_any_word K)) (C__law_bent : CallOk P w K mg base (TT K) 8 "_law_bent" ["pen", "value"] (sp__law_bent K)) (C__law_is_net : CallOk P w K mg base (TT K) 2 "_law_is_net" ["thing"] (sp__law_is_net K)) (C__law_is_within : CallOk P w K mg base (TT K) 1 "_law_is_within" ["word", "other"] (sp__law_is_within K)) (C__law_odd_nets : CallOk P w K mg base (TT K) 1 "_law_odd_nets" ["net"] (sp__law_odd_nets K)) (C__law_open : CallOk P w K mg base (TT K) 1 "_law_open" ["script"] (sp__law_open K)) (C__law_run : CallOk P w K mg base (TT K) 2 "_law_run" ["net", "word"] (sp__law_run K)) (C__law_settled : CallOk P w K mg base (TT K) 1 "_law_settled" ["word"] (sp__law_settled K)) (C__law_take : CallOk P w K mg base (TT K) 2 "_law_take" ["pen", "many"] (sp__law_take K)) (C_is_net : CallOk P w K mg base (TT K) 3 "is_net" ["thing"] (sp_is_net K)) (C_run : CallOk P w K mg base (TT K) 5 "run" ["net", "word"] (sp_run K)) (L_me : LamAt K mg base exs.lams ("law", none)) : CallG P w K mg base (TT K) 11 "law" ["script"] (sp_law K) := by
  obtain ⟨fd, F⟩ := Z.f_law
  refine ⟨mono_law, Z.g_law, F.kp, fd, gdfn (funOf F) sc_law (fun ws Q Y h => len_law h) (fun cdv A outer s H vs E hgd hr hl hcode => ?_), F.bindsN fun _ _ _ _ _ _ us hl => match us, hl with | [_], _ => rfl⟩
  obtain ⟨c, rfl, hcd, oc, od, fd2, osl, lk, e⟩ := hcode
  have hc := codeAd_of lk e
  exact ⟨_, w_law Z C__law_any_net C__law_any_word C__law_bent C__law_is_net C__law_is_within C__law_odd_nets C__law_open C__law_run C__law_settled C__law_take C_is_net C_run hgd L_me (by rw [hc]) hr, fun ws Q Y h => r_law Z h⟩
theorem law_ok (Z : Fx K mg) (L : ∀ p ∈ exs.lams, LamAt K mg base exs.lams p) (TB_PLACES : TabOk w K (He.ga K "PLACES") tab_PLACES) {fd : FuncData} (F : FunD K "law" "law" (defArgs st_law) (defBody st_law) (defScope st_law) [] [] (He.ga K "law") fd) : GFn P w K mg base (L2.CX P w) 11 (He.ga K "law") fd ["script"] (lift K (TT K) (sp_law K)) := by
  have C__law_spread := ok__law_spread (P := P) (w := w) (base := base) Z 
  have C__law_take := ok__law_take (P := P) (w := w) (base := base) Z C__law_spread
  have C__law_one_of := ok__law_one_of (P := P) (w := w) (base := base) Z C__law_take
  have C__law_any_net := ok__law_any_net (P := P) (w := w) (base := base) Z C__law_one_of C__law_take
  have C__law_any_word := ok__law_any_word (P := P) (w := w) (base := base) Z C__law_one_of
  have C__law_bent := ok__law_bent (P := P) (w := w) (base := base) Z C__law_one_of C__law_take
  have C__law_is_number := ok__law_is_number (P := P) (w := w) (base := base) Z 
  have C__law_is_net := ok__law_is_net (P := P) (w := w) (base := base) Z C__law_is_number
  have C__law_is_within := ok__law_is_within (P := P) (w := w) (base := base) Z 
  have C__law_odd_nets := ok__law_odd_nets (P := P) (w := w) (base := base) Z 
  have C__law_open := ok__law_open (P := P) (w := w) (base := base) Z 
  have C__law_joined := ok__law_joined (P := P) (w := w) (base := base) Z 
  have C__law_settled := ok__law_settled (P := P) (w := w) (base := base) Z 
  have C__law_told := ok__law_told (P := P) (w := w) (base := base) Z 
  have C__law_run := ok__law_run (P := P) (w := w) (base := base) Z C__law_joined C__law_settled C__law_told
  have C_is_within_bounds := ok_is_within_bounds (P := P) (w := w) (base := base) Z 
  have C_are_outs := ok_are_outs (P := P) (w := w) (base := base) Z C_is_within_bounds
  have C_is_gate := ok_is_gate (P := P) (w := w) (base := base) Z C_is_within_bounds TB_PLACES
  have C_is_net := ok_is_net (P := P) (w := w) (base := base) Z C_are_outs C_is_gate C_is_within_bounds
  have C_need_net := ok_need_net (P := P) (w := w) (base := base) Z C_is_net
  have C_is_word := ok_is_word (P := P) (w := w) (base := base) Z 
  have C_need_word := ok_need_word (P := P) (w := w) (base := base) Z C_is_word
  have C_told_by := ok_told_by (P := P) (w := w) (base := base) Z 
  have C_raw_run := ok_raw_run (P := P) (w := w) (base := base) Z C_told_by
  have C_run := ok_run (P := P) (w := w) (base := base) Z C_need_net C_need_word C_raw_run
  refine gdfn (funOf F) sc_law (fun ws Q Y h => len_law h) (fun cdv A outer s H vs E hgd hr hl hcode => ?_)
  obtain ⟨c, rfl, hcd, oc, od, fd2, osl, lk, e⟩ := hcode
  have hc := codeAd_of lk e
  exact ⟨_, w_law Z C__law_any_net C__law_any_word C__law_bent C__law_is_net C__law_is_within C__law_odd_nets C__law_open C__law_run C__law_settled C__law_take C_is_net C_run hgd (L ("law", none) (by simp [exs])) (by rw [hc]) hr, fun ws Q Y h => r_law Z h⟩
end
end Lw

/-! text E -/
set_option Elab.async false
set_option linter.all false
set_option maxRecDepth 100000
set_option maxHeartbeats 0
open PySem PySem.W PySem.Calls PyProof.Rows
theorem PySem.Challenge.cw_halfbits_k32_nets_and_runs_holds : PySem.Challenge.rw_halfbits_k32_nets_and_runs.Holds := by
  w_on; o_law
  refine HandSHeadRun.head_any (r := Lw.R) (q := view Lw.R.prog [38]) (H := Lw.hk) (ob := Lw.ob) (M := 4000) (loose := Lw.names) (d := HandSHeadRun.topDef Lw.R.prog 38) (kwd := []) Lw.ob_eq
    (by kernel_rfl) (fun s => by kernel_rfl) Lw.run (by kernel_rfl) (by kernel_rfl) (by kernel_rfl) (by rfl) (by first | assumption | decide +kernel) (by decide +kernel) ⟨rfl, rfl, rfl, rfl, rfl, by decide +kernel⟩ ?hw ?hc
  case hw => w_witness2
  case hc =>
    refine DL.gend (l := PySem.Challenge.rw_halfbits_k32_nets_and_runs) (n := 63) (k := 11) (x := "script") (CX := fun w => L2.CX Lw.R.prog w) ⟨rfl, by decide, by decide⟩ rfl (by kernel_rfl) (by decide) (fun _ _ _ _ _ z => by
      obtain ⟨_, _, _, _, _, _, _, _, _, _, _, _, z⟩ := z
      exact z) ?F
    intro w mg fa h Y G hmg0
    obtain ⟨K, hK, hTab⟩ := Y
    have hmg : mg ("law" : PySem.Str) = some (.ref fa) := by
      have e : (HandSHeadRun.topDef Lw.R.prog 38).name = ("law" : PySem.Str) := by kernel_rfl
      rw [← e]
      exact hmg0
    have Z := Lw.fx hK.1 G hK.2.1 hK.2.2.1
    have e := hmg.symm.trans Z.g_law
    cases e
    obtain ⟨fd, F⟩ := Z.f_law
    have b := L2.FunD.bindsA (ps := ["script"]) F fun _ _ _ _ _ _ us hl => match us, hl with | [_], _ => rfl
    exact ⟨K, hK.1, fd, _, _, DL.glaw hK (fun s v => b s [v] rfl) (fun ns hn => ⟨ns, rfl, hn, rfl⟩) (fun base hKb hNs L => Lw.law_ok Z L (hTab ("PLACES", Lw.tab_PLACES) (by simp [Lw.exs, Lw.tab_PLACES])) F) Lw.mono_law⟩

