import PyProof.Rows.All
import Wide.All
import OpenK.AllK
import Wide.FinOn
import KE.KStateDown
import Lean
import HandS.Wide
import HandS.TupSets
import HandS.SetFor
import HandS.DictTup
import HandS.Zip
import HandS.Flow
import HandS.Head0
import HandS.Head1
import HandS.Head2
import HandS.HeadEnd
import HandS.HeadHook1
import HandS.HeadHook2
import HandS.Base
import HandS.Call
import HandS.List
import HandS.Comp
import HandS.Ends
import HandS.Dict
import HandS.Iter
import HandS.Text
import HandS.Exc
import HandS.Words
import HandS.WordsList
import HandS.Defaults
import HandS.IsInst
import HandS.Conv
import HandS.Strs
import KE.KDictWalk
import PyProof.DictMoreH
import HandS.SortRule
import HandS.Sort
import HandS.ClsMeth
import HandS.Style
import HandS.MakeKw
import PyProof.AssignAttr
import HandS.WordsDict
import KE.KEqDict
import HandS.ExcOwn
import HandS.ExcIs
import HandS.ExcValue
import HandS.TryOnly
import HandS.TryMany
import HandS.ExcInit
import HandS.ExcField
import PySem.Challenge.RW_quietnet_k12_ring_passed
set_option Elab.async false
set_option linter.all false
set_option maxRecDepth 100000
set_option maxHeartbeats 4000000
namespace Q
open PySem PySem.Spec PyProof.Rows L2

/-! ### frames -/
/-- all but F is kept, tuples are kept -/
structure Fr (F : Addr → Prop) (H H' : Hp) : Prop where
  keep : ∀ b o, H b = some o → ¬ F b → H' b = some o
  tup : ∀ b xs, H b = some (.tup xs) → H' b = some (.tup xs)
  dom : ∀ b, H' b = none → H b = none
abbrev F0 : Addr → Prop := fun _ => False
theorem Fr.refl {F : Addr → Prop} (H : Hp) : Fr F H H := ⟨fun _ _ h _ => h, fun _ _ h => h, fun _ h => h⟩
theorem Fr.mono {F G : Addr → Prop} {H H' : Hp} (h : Fr F H H') (g : ∀ b, F b → G b) : Fr G H H' := ⟨fun b o e n => h.keep b o e fun z => n (g b z), h.tup, h.dom⟩
theorem Fr.any {F : Addr → Prop} {H H' : Hp} (h : Fr F0 H H') : Fr F H H' := h.mono fun _ z => z.elim
theorem Fr.trans {F : Addr → Prop} {H H1 H2 : Hp} (a : Fr F H H1) (b : Fr F H1 H2) : Fr F H H2 := ⟨fun c o e n => b.keep c o (a.keep c o e n) n, fun c xs e => b.tup c xs (a.tup c xs e), fun c e => a.dom c (b.dom c e)⟩
/-- the second step's own objects are of F, or new -/
theorem Fr.trans' {F G : Addr → Prop} {H H1 H2 : Hp} (a : Fr F H H1) (b : Fr G H1 H2) (g : ∀ c, G c → F c ∨ H c = none) : Fr F H H2 :=
  ⟨fun c o e n => b.keep c o (a.keep c o e n) (fun z => (g c z).elim n fun q => nomatch (e.symm.trans q)), fun c xs e => b.tup c xs (a.tup c xs e), fun c e => a.dom c (b.dom c e)⟩
theorem Fr.at0 {H H' : Hp} {b : Addr} {o : HO} (h : Fr F0 H H') (e : H b = some o) : H' b = some o := h.keep b o e id
theorem upd_dom {H : Hp} {p b : Addr} {o : HO} (h : upd H p o b = none) : H b = none := by
  unfold upd at h
  split at h
  · cases h
  · exact h
theorem Fr.new {F : Addr → Prop} {H : Hp} {p : Addr} {o : HO} (hp : H p = none) : Fr F H (upd H p o) :=
  ⟨fun b u e _ => by rw [upd_ne (ne_of_none e hp)]; exact e, fun b u e => by rw [upd_ne (ne_of_none e hp)]; exact e, fun _ h => upd_dom h⟩
theorem Fr.then_new {F : Addr → Prop} {H H' : Hp} {p : Addr} {o : HO} (a : Fr F H H') (hp : H' p = none) : Fr F H (upd H' p o) := a.trans (.new hp)
def noTup : HO → Prop
  | .tup _ => False
  | _ => True
theorem Fr.put {F : Addr → Prop} {H : Hp} {p : Addr} {o u : HO} (e : H p = some u) (nt : noTup u) (hF : F p) : Fr F H (upd H p o) :=
  ⟨fun b v eb n => (upd_ne (fun z : b = p => n (by rw [z]; exact hF))).trans eb, fun b xs eb => (upd_ne (fun z : b = p => by rw [z, e] at eb; cases eb; exact nt)).trans eb, fun _ h => upd_dom h⟩
theorem Fr.then_put {F : Addr → Prop} {H H' : Hp} {p : Addr} {o u : HO} (a : Fr F H H') (e : H' p = some u) (nt : noTup u) (hF : F p) : Fr F H (upd H' p o) := a.trans (.put e nt hF)
/-- what was new ahead of the first step may be changed -/
theorem Fr.then_put_new {F : Addr → Prop} {H H' : Hp} {p : Addr} {o : HO} (a : Fr F H H') (hp : H p = none) : Fr F H (upd H' p o) :=
  ⟨fun b v eb n => by rw [upd_ne (ne_of_none eb hp)]; exact a.keep b v eb n, fun b xs eb => by rw [upd_ne (ne_of_none eb hp)]; exact a.tup b xs eb, fun b h => a.dom b (upd_dom h)⟩
theorem Fr.back {F : Addr → Prop} {H H' : Hp} {p : Addr} (a : Fr F H H') (nF : ¬ F p) (hp : H' p = none) : H p = none := a.dom p hp
theorem Fr.back0 {H H' : Hp} {p : Addr} (a : Fr F0 H H') (hp : H' p = none) : H p = none := a.back id hp
theorem upd_none {H : Hp} {p q : Addr} {o : HO} : upd H q o p = none ↔ p ≠ q ∧ H p = none := by
  unfold upd
  by_cases h : p = q
  · simp [h]
  · simp [h]
theorem upd_at {H : Hp} {p q : Addr} {o u : HO} (e : H p = some u) (h : p ≠ q) : upd H q o p = some u := by rw [upd_ne h]; exact e
theorem upd_new {H : Hp} {p q : Addr} {o u : HO} (e : H p = some u) (h : H q = none) : upd H q o p = some u := upd_at e (ne_of_none e h)
theorem SqL.fr {K : PySem.W.Frag} {F : Addr → Prop} {H H' : Hp} {a : Addr} {xs : List V} (f : Fr F H H') (n : ¬ F a) (h : SqL K H a xs) : SqL K H' a xs := by
  rcases h with (h | ⟨o, h⟩) | h
  · exact .inl (.inl (f.keep _ _ h n))
  · exact .inl (.inr ⟨o, f.keep _ _ h n⟩)
  · exact .inr h

/-! ### defs by their promises -/
/-- what surrounds: the program, the world, the written part, the module's names, the heap at the law's entry -/
structure En where
  prog : Program
  w : World
  K : PySem.W.Frag
  mg : Str → Option Value
  base : Heap
abbrev enOf (X : Cx) : En := ⟨X.prog, X.w, X.K, X.mg, X.base⟩
abbrev FnG (G : En) (CX : CXT) (k : Nat) (f : Addr) (fd : FuncData) (ps : List Str) (sp : Sp) : Prop := FnOk G.prog G.w G.K G.mg G.base CX k f fd ps sp
structure CalX (G : En) (CX : CXT) (k : Nat) (x : Str) (sp : Sp) (dvs : List V) : Prop where
  ex : ∃ (f : Addr) (fd : FuncData) (ps : List Str) (ds : List Value), FnG G CX k f fd ps sp ∧ G.mg x = some (.ref f) ∧ PySem.W.keepIn G.K (.ref f) = true ∧ Binds G.K fd ps ds ∧ Vals dvs ds
structure MetX (G : En) (CX : CXT) (k : Nat) (C : Addr) (m : Str) (sp : Sp) (dvs : List V) : Prop where
  ex : ∃ (f : Addr) (fd : FuncData) (ps : List Str) (ds : List Value), Cls G.K C ∧ Meth G.K C m f ∧ FnG G CX k f fd ps sp ∧ Binds G.K fd ps ds ∧ Vals dvs ds
structure MakX (G : En) (CX : CXT) (k : Nat) (x : Str) (C : Addr) (sp : Sp) (dvs : List V) : Prop where
  ex : ∃ (f : Addr) (fd : FuncData) (ps : List Str) (ds : List Value), Mk G.K C f ∧ FnG G CX k f fd ps sp ∧ G.mg x = some (.ref C) ∧ Binds G.K fd ps ds ∧ Vals dvs ds
abbrev CalG (G : En) (k : Nat) (x : Str) (sp : Sp) (dvs : List V) : Prop := CalX G CX0 k x sp dvs
abbrev MetG (G : En) (k : Nat) (C : Addr) (m : Str) (sp : Sp) (dvs : List V) : Prop := MetX G CX0 k C m sp dvs
abbrev MakG (G : En) (k : Nat) (x : Str) (C : Addr) (sp : Sp) (dvs : List V) : Prop := MakX G CX0 k x C sp dvs

/-! ### readings -/
abbrev Stt := L2.St
def tCallQ (G : En) (j : Nat) (x : Str) (t : TA) : TE := fun σ H Q => ∃ k sp dvs, CalG G k x sp dvs ∧ k ≤ j ∧ t σ H fun vs H1 => sp (vs ++ dvs) H1 Q E0
def MakeG (C : Addr) (sp : Sp) (dvs vs : List V) (H1 : Hp) (Q : VK) : Prop := ∀ x dx, H1 x = none → H1 dx = none → dx ≠ x →
  sp (.ref x :: (vs ++ dvs)) (upd (upd H1 dx (.own x)) x (.ins C dx [])) (fun v H2 => v = .non ∧ Q (.ref x) H2) E0
def tMakeQ (G : En) (j : Nat) (x : Str) (t : TA) : TE := fun σ H Q => ∃ k C sp dvs, MakG G k x C sp dvs ∧ k + 1 ≤ j ∧ t σ H fun vs H1 => MakeG C sp dvs vs H1 Q
def FldG (K : PySem.W.Frag) (f : Str) (x : V) (H : Hp) (Q : VK) : Prop := ∃ a C dx fs v, x = .ref a ∧ H a = some (.ins C dx fs) ∧ Cls K C ∧ NoAttr K C f ∧ fs.lookup f = some v ∧ Q v H
def tFldQ (K : PySem.W.Frag) (ta : TE) (f : Str) : TE := fun σ H Q => ta σ H fun x H1 => FldG K f x H1 Q
def PutG (K : PySem.W.Frag) (f : Str) (x y : V) (H : Hp) (N : Hp → Prop) : Prop := ∃ a C dx fs, x = .ref a ∧ H a = some (.ins C dx fs) ∧ Cls K C ∧ NoAttr K C f ∧ fs.length < 1000 ∧ N (upd H a (.ins C dx (putF f y fs)))
def sFldQ (K : PySem.W.Frag) (ta tv : TE) (f : Str) : TS := fun D σ H => tv σ H fun y H1 => ta σ H1 fun x H2 => PutG K f x y H2 (D.nx σ)
def MethG (G : En) (j : Nat) (m : Str) (t : TA) (σ : Stt) (x : V) (H1 : Hp) (Q : VK) : Prop := ∃ a C dx fs k sp dvs, x = .ref a ∧ H1 a = some (.ins C dx fs) ∧ fs.lookup m = none ∧
  MetG G k C m sp dvs ∧ k ≤ j ∧ t σ H1 fun vs H2 => sp (.ref a :: (vs ++ dvs)) H2 Q E0
def tMethQ (G : En) (j : Nat) (m : Str) (ta : TE) (t : TA) : TE := fun σ H Q => ta σ H fun x H1 => MethG G j m t σ x H1 Q
def IsB (x : V) (H : Hp) (Q : Bool → Hp → Prop) : Prop := ∃ k, x = .bl k ∧ Q k H
def tTestQ (t : TE) : TT := fun σ H Q => t σ H fun x H' => IsB x H' Q
def rLen (K : PySem.W.Frag) : List V → Hp → VK → Prop := fun xs H Q => ∃ p ys, xs = [.ref p] ∧ (SqL K H p ys ∨ SqT K H p ys) ∧ Q (.int ys.length) H
def rListOf (K : PySem.W.Frag) : List V → Hp → VK → Prop := fun xs H Q => ∃ p ys, xs = [.ref p] ∧ (SqL K H p ys ∨ SqT K H p ys) ∧ ∀ l, H l = none → Q (.ref l) (upd H l (.lst ys))
def BmG (K : PySem.W.Frag) (T : String) (r : V → List V → Hp → VK → Prop) (t : TA) (σ : Stt) (x : V) (H1 : Hp) (Q : VK) : Prop := tyV K T x H1 ∧ t σ H1 fun xs H2 => r x xs H2 Q
def tBMQ (K : PySem.W.Frag) (T : String) (r : V → List V → Hp → VK → Prop) (to : TE) (t : TA) : TE := fun σ H Q => to σ H fun x H1 => BmG K T r t σ x H1 Q
def NewG (n : Nat) (N : Addr → Prop) (H : Hp) : Prop := n ≤ sizeLine ∧ ∀ p, H p = none → N p
def tTupQ (t : TA) : TE := fun σ H Q => t σ H fun xs H1 => NewG xs.length (fun p => Q (.ref p) (upd H1 p (.tup xs))) H1
def tLstQ (t : TA) : TE := fun σ H Q => t σ H fun xs H1 => NewG xs.length (fun p => Q (.ref p) (upd H1 p (.lst xs))) H1
def rIsNq : R2 := fun x y H Q => y = .non ∧ Q (.bl (decide (x = .non))) H
def rNotNq : R2 := fun x y H Q => y = .non ∧ Q (.bl (!decide (x = .non))) H
def ChnG (r' : R2) (tc : TE) (σ : Stt) (Q : VK) (y z : V) (H3 : Hp) : Prop := ∃ k, z = .bl k ∧ (if k = true then tc σ H3 fun w' H4 => r' y w' H4 Q else Q (.bl false) H3)
def tChainQ (r r' : R2) (ta tb tc : TE) : TE := fun σ H Q => ta σ H fun x H1 => tb σ H1 fun y H2 => r x y H2 fun z H3 => ChnG r' tc σ Q y z H3
def AndG (tb : TE) (σ : Stt) (Q : VK) (x : V) (H1 : Hp) : Prop := ∃ c, x = .bl c ∧ if c = true then tb σ H1 Q else Q (.bl false) H1
def tAndVQ (ta tb : TE) : TE := fun σ H Q => ta σ H fun x H1 => AndG tb σ Q x H1
def OrG (tb : TE) (σ : Stt) (Q : VK) (x : V) (H1 : Hp) : Prop := ∃ c, x = .bl c ∧ if c = true then Q (.bl true) H1 else tb σ H1 Q
def tOrVQ (ta tb : TE) : TE := fun σ H Q => ta σ H fun x H1 => OrG tb σ Q x H1
def NotG (Q : VK) (x : V) (H1 : Hp) : Prop := ∃ c, x = .bl c ∧ Q (.bl (!c)) H1
def tNotVQ (ta : TE) : TE := fun σ H Q => ta σ H fun x H1 => NotG Q x H1
def DGetG (a : V) (y : V) (H : Hp) (Q : VK) : Prop := ∃ d v, a = .ref d ∧ DGet H d y (some v) ∧ Q v H
def tDGetQ (td ty : TE) : TE := fun σ H Q => td σ H fun x H1 => ty σ H1 fun y H2 => DGetG x y H2 Q
def Rng1G (vs : List V) (H1 : Hp) (R : It → Hp → Prop) : Prop := ∃ j : Int, vs = [.int j] ∧ -(2 ^ 62) ≤ j ∧ j < 2 ^ 62 ∧ R (Itr 0 j.toNat) H1
def Rng2G (vs : List V) (H1 : Hp) (R : It → Hp → Prop) : Prop := ∃ i j : Int, vs = [.int i, .int j] ∧ (-(2 ^ 62) ≤ i ∧ i < 2 ^ 62 ∧ -(2 ^ 62) ≤ j ∧ j < 2 ^ 62) ∧ R (Itr i (j - i).toNat) H1
def iRng1Q (ta : TA) : TI := fun σ H R => ta σ H fun vs H1 => Rng1G vs H1 R
def iRng2Q (ta : TA) : TI := fun σ H R => ta σ H fun vs H1 => Rng2G vs H1 R
def ItLG (K : PySem.W.Frag) (x : V) (H1 : Hp) (R : It → Hp → Prop) : Prop := ∃ a, x = .ref a ∧ (∃ xs, SqL K H1 a xs) ∧ R (Itl K a) H1
def iListQ (K : PySem.W.Frag) (tl : TE) : TI := fun σ H R => tl σ H fun x H1 => ItLG K x H1 R
/-- a comprehension's loop, a for's loop -/
def LcG (g : TG) (tt : TT) (te : TE) (vs : List Nat) (σ : Stt) (Q : VK) (J : It) (H1 : Hp) : Prop := ∀ D, H1 D = none → ∃ W : Nat → Nat → Hp → Prop, (∃ m, W 0 m (upd H1 D (.lst []))) ∧ ∀ i m H, W i m H →
  (J.stop i H ∧ Q (.ref D) H) ∨ (J.go i H ∧ ∃ N : Hp → Prop, (∀ H', N H' → ∃ m', m' < m ∧ W (i + 1) m' H') ∧ ∀ x H', J.yld i H x H' → g x (wipe σ vs) H' fun σ2 H2 => wipe σ2 vs = wipe σ vs ∧ tt σ2 H2 fun b H3 => if b = true then te σ2 H3 fun y H4 => ∃ acc, H4 D = some (.lst acc) ∧ acc.length < sizeLine ∧ N (upd H4 D (.lst (acc ++ [y]))) else N H3)
def tLcQ (wi : TI) (g : TG) (tt : TT) (te : TE) (vs : List Nat) : TE := fun σ H Q => wi σ H fun J H1 => LcG g tt te vs σ Q J H1
def ForG (g : TG) (tb : TS) (D : Ends) (σ : Stt) (J : It) (H1 : Hp) : Prop := ∃ W : Nat → Nat → Stt → Hp → Prop, (∃ m, W 0 m σ H1) ∧ ∀ i m σ H, W i m σ H →
  (J.stop i H ∧ D.nx σ H) ∨ (J.go i H ∧ ∃ N : Stt → Hp → Prop, (∀ σ' H', N σ' H' → ∃ m', m' < m ∧ W (i + 1) m' σ' H') ∧ ∀ x H', J.yld i H x H' → g x σ H' fun σ2 H2 => tb { D with nx := N, ct := N, bk := D.nx } σ2 H2)
def tForQ (wi : TI) (g : TG) (tb : TS) : TS := fun D σ H => wi σ H fun J H1 => ForG g tb D σ J H1


/-! ### rules -/
section
variable {X : Cx} {o e value a b c : Expr} {es rest : List Expr} {f m x : Str} {p pos pos' apos : Pos} {ta tb tc tv te : TE} {t : TA} {tA : TT} {j : Nat}
theorem e_call (hr : Room j X.A) (hg : Gl X x) (ha : PA X (e :: es) t)
    (hdb : (x == ("__debug__" : Str)) = false := by decide) (he : starEach (e :: es) X.env = (false, eval e X.env) :: starEach es X.env := by rfl) (hpl : (backTo pos (starEach es X.env)).any (·.1) = false := by rfl) :
    PE X (.Call (.Name x p) (e :: es) [] pos) (tCallQ (enOf X) j x t) := by
  refine ⟨fun pins s σ H Q I h => ?_⟩
  obtain ⟨k, sp, dvs, c, hk, h⟩ := h
  obtain ⟨f, fd, ps, ds, F, hm, kp, b, d⟩ := c.ex
  exact (pe_call F (hr.mono hk) hg hm kp b d pass0 ha hdb he hpl).run pins s σ H Q I h
theorem e_make (hr : Room j X.A) (hg : Gl X x) (ha : PA X (e :: es) t)
    (hdb : (x == ("__debug__" : Str)) = false := by decide) (he : starEach (e :: es) X.env = (false, eval e X.env) :: starEach es X.env := by rfl) (hpl : (backTo pos (starEach es X.env)).any (·.1) = false := by rfl) :
    PE X (.Call (.Name x p) (e :: es) [] pos) (tMakeQ (enOf X) j x t) := by
  refine ⟨fun pins s σ H Q I h => ?_⟩
  obtain ⟨k, C, sp, dvs, c, hk, h⟩ := h
  obtain ⟨f, fd, ps, ds, M, F, hm, b, d⟩ := c.ex
  exact (pe_make M F (hr.mono hk) hg hm b d pass0 ha hdb he hpl).run pins s σ H Q I h
theorem e_meth {pl : Sem Bool} (hr : Room j X.A) (he : PE X o ta) (ha : PA X (e :: es) t)
    (hst : starEach (e :: es) X.env = (false, eval e X.env) :: starEach es X.env := by rfl) (hpl : (backTo pos (starEach es X.env)).any (·.1) = false := by rfl)
    (ht : eval (.Call (.Attribute o m apos) (e :: es) [] pos) X.env = (do
      let ov ← eval o X.env
      standAt apos.atName
      let (f, first) ← holding [ov] (getMethod ov m pl)
      callWith pos f first (backTo pos (starEach (e :: es) X.env)) (backToKw pos (keywordEach [] X.env))) := by rfl) :
    PE X (.Call (.Attribute o m apos) (e :: es) [] pos) (tMethQ (enOf X) j m ta t) := by
  refine ⟨fun pins s σ H Q I h => ?_⟩
  refine PySem.W.methodCall_KW (pl := pl) (thn (he.run pins s σ H _ I h) fun u s1 ⟨x, H1, I1, rx, a, C, dx, fs, k, sp, dvs, ex, ea, l, c, hk, q⟩ => ?_) ht
  obtain ⟨f, fd, ps, ds, cl, hm, F, hb, hd⟩ := c.ex
  subst ex
  obtain rfl : u = Value.ref a := rx
  refine getmeth_ok I1 ea cl hm l ?_
  refine PySem.W.callWith_K (first := [.ref a]) (h₀ := X.base) I.ok.mod.kin hm.kp (thn (ha.run pos pins s1 σ H1 _ I1 q) fun us s2 ⟨vs, H2, I2, r, q2⟩ => ⟨I2.kIn, ?_⟩) hst hpl
  exact run_fn (us := .ref a :: us) (vs := .ref a :: vs) F (hr.mono hk) hb hd pass0 I2 (.cons rfl r) q2
theorem e_meth0 {pl : Sem Bool} (hr : Room j X.A) (he : PE X o ta)
    (ht : eval (.Call (.Attribute o m apos) [] [] pos) X.env = (do
      let ov ← eval o X.env
      standAt apos.atName
      let (f, first) ← holding [ov] (getMethod ov m pl)
      callWith pos f first (backTo pos (starEach [] X.env)) (backToKw pos (keywordEach [] X.env))) := by rfl) :
    PE X (.Call (.Attribute o m apos) [] [] pos) (tMethQ (enOf X) j m ta tNil) := by
  refine ⟨fun pins s σ H Q I h => ?_⟩
  refine PySem.W.methodCall_KW (pl := pl) (thn (he.run pins s σ H _ I h) fun u s1 ⟨x, H1, I1, rx, a, C, dx, fs, k, sp, dvs, ex, ea, l, c, hk, q⟩ => ?_) ht
  obtain ⟨f, fd, ps, ds, cl, hm, F, hb, hd⟩ := c.ex
  subst ex
  obtain rfl : u = Value.ref a := rx
  refine getmeth_ok I1 ea cl hm l ?_
  refine PySem.W.callWith_K0 (first := [.ref a]) I1.kIn hm.kp ?_
  exact run_fn (us := [.ref a]) (vs := [.ref a]) F (hr.mono hk) hb hd pass0 I1 (.cons rfl .nil) q
theorem e_fld (he : PE X e ta) (hb : attributeBase e f X.env (eval e X.env) = eval e X.env := by rfl) : PE X (.Attribute e f pos) (tFldQ X.K ta f) := pe_fld he hb
theorem s_fld (ha : PE X o ta) (hv : PE X value tv) (hs : swapsWith value (some (.Attribute o f pos')) pos.line X.env = pure false := by rfl) : PS X (.Assign [.Attribute o f pos'] value pos) (sFldQ X.K ta tv f) := ps_fld ha hv hs
theorem e_cmp {op : CmpOp} {r : R2} (ho : OpR X (compareOp op) r) (ha : PE X a ta) (hb : PE X b tb) (hm : behindInMarks op b = false) : PE X (.Compare a [op] [b] pos) (tOp r ta tb) := pe_cmpR ho ha hb hm
theorem b_cmp {op : CmpOp} {r : R2} (ho : OpR X (compareOp op) r) (ha : PE X a ta) (hb : PE X b tb) (hm : behindInMarks op b = false) : PT X (.Compare a [op] [b] pos) (tTestQ (tOp r ta tb)) := pt_cmpR ho ha hb hm
theorem e_chain {op op' : CmpOp} {r r' : R2} (ho : OpR X (compareOp op) r) (ho' : OpR X (compareOp op') r') (ha : PE X a ta) (hb : PE X b tb) (hc : PE X c tc)
    (hm : lastMarks [op, op'] [b, c] = false := by with_unfolding_all rfl) : PE X (.Compare a [op, op'] [b, c] pos) (tChainQ r r' ta tb tc) := pe_chain ho ho' ha hb hc hm
theorem b_chain {op op' : CmpOp} {r r' : R2} (ho : OpR X (compareOp op) r) (ho' : OpR X (compareOp op') r') (ha : PE X a ta) (hb : PE X b tb) (hc : PE X c tc)
    (hm : lastMarks [op, op'] [b, c] = false := by with_unfolding_all rfl) : PT X (.Compare a [op, op'] [b, c] pos) (tTestQ (tChainQ r r' ta tb tc)) := pt_chain ho ho' ha hb hc hm
theorem b_val (h : PE X e te) (he : ∀ whole, isTrue e X.env whole = (do let v ← whole; standAt e.pos; holding [v] (truthy v)) := by intro _; rfl) : PT X e (tTestQ te) := pt_val h he
theorem b_and1 (ha : PT X a tA) : PW X (.BoolOp .And [a] pos) tA := pw_and1 ha
theorem e_and (ha : PE X a ta) (hb : PE X (.BoolOp .And (b :: rest) pos) tb) : PE X (.BoolOp .And (a :: b :: rest) pos) (tAndVQ ta tb) := pe_and ha hb
theorem e_or (ha : PE X a ta) (hb : PE X (.BoolOp .Or (b :: rest) pos) tb) : PE X (.BoolOp .Or (a :: b :: rest) pos) (tOrVQ ta tb) := pe_or ha hb
theorem e_not (ha : PE X a ta) : PE X (.UnaryOp .Not a pos) (tNotVQ ta) := pe_not ha
theorem c_len : CallR X (.builtin "len") (rLen X.K) := call_len_seq
theorem c_list : CallR X (.type "list") (rListOf X.K) := call_list_of
theorem c_isN : OpR X (compareOp .Is) rIsNq := op_isN
theorem c_notN : OpR X (compareOp .IsNot) rNotNq := op_notN
theorem e_tup {x1} (h : PA X es t) : PE X (.Tuple es x1 pos) (tTupQ t) := pe_tup h
theorem e_lst (h : PA X es t) : PE X (.List es pos) (tLstQ t) := pe_lst h
theorem e_bm {T name id : String} {to : TE} {cpos : Pos} {r : V → List V → Hp → VK → Prop} (pa : PlainAttrs T) (slot : Slot T name id) (hty : typeOf (.builtin id) = pure (.type "method_descriptor")) (hm : MtR X id r) (ho : PE X o to) (ha : PA X (e :: es) t)
    (hbase : attributeBase o name X.env (eval o X.env) = eval o X.env := by rfl)
    (hfew : ((backTo cpos (starEach (e :: es) X.env)).all (fun x => !x.1) && (backToKw cpos (keywordEach [] X.env)).all (fun x => x.1.isSome)
      && decide ((e :: es).length + ([] : List Keyword).length + (if ([] : List Keyword).isEmpty then 0 else 1) < 30)) = true := by rfl)
    (hline : (apos.endLine == cpos.line) = true := by rfl) (hs : starEach (e :: es) X.env = (false, eval e X.env) :: starEach es X.env := by rfl) (hplain : (backTo cpos (starEach es X.env)).any (·.1) = false := by rfl) :
    PE X (.Call (.Attribute o name apos) (e :: es) [] cpos) (tBMQ X.K T r to t) := pe_bm pa slot hty hm ho ha hbase hfew hline hs hplain
theorem e_dget (hu : X.A.units + 1 < cLine) (ho : PE X o ta) (hi : PE X a tb) (hs : NoSl a := by intro _ _; rfl) : PE X (.Subscript o a pos) (tDGetQ ta tb) := pe_dget hu ho hi hs
theorem i_rng1 {tg : Expr} (hg : Gl X "range") (hm : X.mg "range" = none) (ha : PA X [a] t) (hs : starEach [a] X.env = [(false, eval a X.env)] := by rfl) : PI X tg (.Call (.Name "range" p) [a] [] pos) (iRng1Q t) := pi_range1 hg hm ha hs
theorem i_rng2 {tg : Expr} (hg : Gl X "range") (hm : X.mg "range" = none) (ha : PA X [a, b] t) (hs : starEach [a, b] X.env = [(false, eval a X.env), (false, eval b X.env)] := by rfl) (hs2 : starEach [b] X.env = [(false, eval b X.env)] := by rfl) : PI X tg (.Call (.Name "range" p) [a, b] [] pos) (iRng2Q t) := pi_range2 hg hm ha hs hs2
theorem i_list {tg : Expr} (hl : PE X e te) : PI X tg e (iListQ X.K te) := pi_list hl
theorem s_for {tg iter : Expr} {body : List Stmt} {wi : TI} {g : TG} {tb : TS} (hp : PassesOwn (model X.prog X.w) X.A X.env X.xe) (hc : X.calm = true) (hi : PI X tg iter wi) (hg : PG X tg g) (hb : PSs X body tb)
    (hs : ∀ x, foldedSetIterable iter X.env x = pure x := by intro _; rfl) : PS X (.For tg iter body [] pos) (tForQ wi g tb) := ps_for hp hc hi hg hb hs
theorem e_lc {elt tg iter : Expr} {ifs : List Expr} {scope : Scope} {own : List (Str × Nat)} {wi : TI} {g : TG} {tt : TT} {te : TE} (hc : X.calm = true) (hN : X.N.Nodup) (hi : PI X tg iter wi) (ok : BlkOk X.N X.env.scope scope own)
    (hg : ∀ (s : Shared) (H : Hp) (C : Addr) (cl : List (Str × Addr)) (fp : List Addr), PG (X.blk s H scope (compEnvC scope cl C X.env) fp) tg g) (ht : ∀ (s : Shared) (H : Hp) (C : Addr) (cl : List (Str × Addr)) (fp : List Addr), PTs (X.blk s H scope (compEnvC scope cl C X.env) fp) ifs tt)
    (he : ∀ (s : Shared) (H : Hp) (C : Addr) (cl : List (Str × Addr)) (fp : List Addr), PE (X.blk s H scope (compEnvC scope cl C X.env) fp) elt te) (hs : ∀ x, foldedSetIterable iter X.env x = pure x := by intro _; rfl) :
    PE X (.ListComp elt [⟨tg, iter, ifs, 0⟩] scope pos) (tLcQ wi g tt te (own.map (·.2))) := pe_lc hc hN hi ok hg ht he hs
theorem s_setLc {i : Nat} {y : Str} {py : Pos} {elt tg iter : Expr} {ifs : List Expr} {scope : Scope} {own : List (Str × Nat)} {spos : Pos} {wi : TI} {g : TG} {tt : TT} {te : TE} (hc : X.calm = true) (hN : X.N.Nodup) (hy : X.N[i]? = some y) (hyl : X.env.scope.names.lookup y = some .local)
    (hsw : swapsWith (.ListComp elt [⟨tg, iter, ifs, 0⟩] scope pos) (some (.Name y py)) spos.line X.env = pure true) (hi : PI X tg iter wi) (ok : BlkOk X.N X.env.scope scope own)
    (hg : ∀ (s : Shared) (H : Hp) (C : Addr) (cl : List (Str × Addr)) (fp : List Addr), PG (X.blk s H scope (compEnvC scope cl C X.env) fp) tg g) (ht : ∀ (s : Shared) (H : Hp) (C : Addr) (cl : List (Str × Addr)) (fp : List Addr), PTs (X.blk s H scope (compEnvC scope cl C X.env) fp) ifs tt)
    (he : ∀ (s : Shared) (H : Hp) (C : Addr) (cl : List (Str × Addr)) (fp : List Addr), PE (X.blk s H scope (compEnvC scope cl C X.env) fp) elt te) (hs : ∀ x, foldedSetIterable iter X.env x = pure x := by intro _; rfl) :
    PS X (.Assign [.Name y py] (.ListComp elt [⟨tg, iter, ifs, 0⟩] scope pos) spos) (tAsg (tLcQ wi g tt te (own.map (·.2))) (gName i)) := ps_setLc hc hN hy hyl hsw hi ok hg ht he hs
end

/-! ### a def by its body -/
section
variable {G : En} {x qual : Str} {st : Stmt} {dvs : List V} {f C : Addr} {fd : FuncData} {N ps : List Str} {k : Nat} {sp : Sp} {t : TS}
abbrev FnP (K : PySem.W.Frag) (x qual : Str) (st : Stmt) (dvs : List V) (f : Addr) (fd : FuncData) : Prop := FunD K x qual (defArgs st) (defBody st) (defScope st) dvs [] f fd
abbrev cx0 (G : En) (N : List Str) (qual : Str) (st : Stmt) (f : Addr) (cdv : Value) (A : Around) (outer : List Env) (s : Shared) (H : Hp) (E : XK) : Cx :=
  (cxOf CX0 G.prog G.w G.K G.mg G.base N qual (defScope st) f cdv A outer s H E).nox
abbrev rm0 (k : Nat) (qual : Str) (st : Stmt) (f : Addr) (cdv : Value) (A : Around) (s : Shared) : Prop := Room k (A.deeper (envOfC qual (defScope st) s.heap.objs.size f cdv))
theorem fn_ok0 (F : FnP G.K x qual st dvs f fd) (S : FnScope N ps (defScope st)) (len : ∀ vs H Q E, sp vs H Q E → vs.length = ps.length)
    (dv : ∀ (cdv : Value) (A : Around) (outer : List Env) (s : Shared) (H : Hp) (E : XK), rm0 k qual st f cdv A s → PSs (cx0 G N qual st f cdv A outer s H E) (defBody st) t)
    (pure : ∀ vs H Q E, sp vs H Q E → t { nx := fun _ H' => Q .non H', rt := Q } (start N vs) H) : FnG G CX0 (k + 1) f fd ps sp :=
  F.ok S len fun cdv A outer s H vs Q E hr h => ⟨t, (dv cdv A outer s H E hr).nox, pure vs H Q E h⟩
end

/-! ### the steps -/
theorem sl1000 {n : Nat} (h : n ≤ 100000) : n ≤ sizeLine := Nat.le_trans h (by decide)
section
variable {σ σ' : Stt} {H : Hp} {Q : VK} {K : PySem.W.Frag} {G : En} {ta tb tc te tv : TE} {t u : TT} {tl : TA} {r r' : R2} {x y v z : V} {D : Ends} {tu tw : TS} {g : TG} {gs : TGs} {QT : Bool → Hp → Prop} {QA : List V → Hp → Prop} {N : Stt → Hp → Prop} {a l d : Addr} {xs ys vs : List V} {f m : Str} {j : Nat}
theorem x_var {i : Nat} (h : σ[i]? = some (some v)) (k : Q v H) : tVar i σ H Q := ⟨v, h, k⟩
theorem x_c (k : Q v H) : tC v σ H Q := k
theorem x_op (k : ta σ H fun x H1 => tb σ H1 fun y H2 => r x y H2 Q) : tOp r ta tb σ H Q := k
theorem x_un {r : V → Hp → VK → Prop} (k : ta σ H fun x H1 => r x H1 Q) : tUn r ta σ H Q := k
theorem x_I0 {g : Int → Int → V} {i j : Int} (k : Q (g i j) H) : rI0 g (.int i) (.int j) H Q := ⟨i, j, rfl, rfl, k⟩
theorem x_I {C : Int → Int → Prop} {g : Int → Int → V} {i j : Int} (c : C i j) (k : Q (g i j) H) : rI C g (.int i) (.int j) H Q := ⟨i, j, rfl, rfl, c, k⟩
theorem x_mod {i j : Int} (c : 0 < j) (k : Q (.int (i % j)) H) : rI (fun _ j => 0 < j) (fun i j => .int (i % j)) (.int i) (.int j) H Q := x_I c k
theorem x_div {i j : Int} (c : 0 < j ∧ j < 1073741824) (k : Q (.int (i / j)) H) : rI CDiv (fun i j => .int (i / j)) (.int i) (.int j) H Q := x_I c k
theorem x_mulL {i j : Int} (c : -(2 ^ 64) < i ∧ i < 2 ^ 64) (k : Q (.int (i * j)) H) : rI CMul (fun i j => .int (i * j)) (.int i) (.int j) H Q := x_I (.inl c) k
theorem x_mulR {i j : Int} (c : -(2 ^ 64) < j ∧ j < 2 ^ 64) (k : Q (.int (i * j)) H) : rI CMul (fun i j => .int (i * j)) (.int i) (.int j) H Q := x_I (.inr c) k
theorem x_eqI {i j : Int} (k : Q (.bl (decide (i = j))) H) : rEq (.int i) (.int j) H Q := ⟨rfl, by rw [show decide (V.int i = V.int j) = decide (i = j) by simp]; exact k⟩
theorem x_neI {i j : Int} (k : Q (.bl (!decide (i = j))) H) : rNe (.int i) (.int j) H Q := ⟨rfl, by rw [show decide (V.int i = V.int j) = decide (i = j) by simp]; exact k⟩
theorem x_eqS {i j : Str} (k : Q (.bl (decide (i = j))) H) : rEq (.str i) (.str j) H Q := ⟨rfl, by rw [show decide (V.str i = V.str j) = decide (i = j) by simp]; exact k⟩
theorem x_neS {i j : Str} (k : Q (.bl (!decide (i = j))) H) : rNe (.str i) (.str j) H Q := ⟨rfl, by rw [show decide (V.str i = V.str j) = decide (i = j) by simp]; exact k⟩
theorem x_eqB {i j : Bool} (k : Q (.bl (decide (i = j))) H) : rEq (.bl i) (.bl j) H Q := ⟨rfl, by rw [show decide (V.bl i = V.bl j) = decide (i = j) by simp]; exact k⟩
theorem x_eqV (h : scal x y = true) (k : Q (.bl (decide (x = y))) H) : rEq x y H Q := ⟨h, k⟩
theorem x_neV (h : scal x y = true) (k : Q (.bl (!decide (x = y))) H) : rNe x y H Q := ⟨h, k⟩
theorem x_isNn (k : Q (.bl true) H) : rIsNq .non .non H Q := ⟨rfl, k⟩
theorem x_isNi {i : Int} (k : Q (.bl false) H) : rIsNq (.int i) .non H Q := ⟨rfl, k⟩
theorem x_isNr (k : Q (.bl false) H) : rIsNq (.ref a) .non H Q := ⟨rfl, k⟩
theorem x_isN (k : Q (.bl (decide (x = .non))) H) : rIsNq x .non H Q := ⟨rfl, k⟩
theorem x_notNn (k : Q (.bl false) H) : rNotNq .non .non H Q := ⟨rfl, k⟩
theorem x_notNi {i : Int} (k : Q (.bl true) H) : rNotNq (.int i) .non H Q := ⟨rfl, k⟩
theorem x_notNr (k : Q (.bl true) H) : rNotNq (.ref a) .non H Q := ⟨rfl, k⟩
theorem x_notN (k : Q (.bl (!decide (x = .non))) H) : rNotNq x .non H Q := ⟨rfl, k⟩
theorem x_cons (k : te σ H fun x H1 => tl σ H1 fun xs H2 => QA (x :: xs) H2) : tCons te tl σ H QA := k
theorem x_nil (k : QA [] H) : tNil σ H QA := k
theorem x_call {j k : Nat} {sp : Sp} {dvs : List V} (c : CalG G k f sp dvs) (hk : k ≤ j) (q : tl σ H fun vs H1 => sp (vs ++ dvs) H1 Q E0) : tCallQ G j f tl σ H Q := ⟨k, sp, dvs, c, hk, q⟩
theorem x_make {j k : Nat} {C : Addr} {sp : Sp} {dvs : List V} (c : MakG G k f C sp dvs) (hk : k + 1 ≤ j) (q : tl σ H fun vs H1 => MakeG C sp dvs vs H1 Q) : tMakeQ G j f tl σ H Q := ⟨k, C, sp, dvs, c, hk, q⟩
theorem x_fld (k : ta σ H fun x H1 => FldG K f x H1 Q) : tFldQ K ta f σ H Q := k
theorem x_fldg {C dx : Addr} {fs : List (Str × V)} (h : H a = some (.ins C dx fs)) (c : Cls K C) (n : NoAttr K C f) (l : fs.lookup f = some v) (k : Q v H) : FldG K f (.ref a) H Q := ⟨a, C, dx, fs, v, rfl, h, c, n, l, k⟩
theorem x_sfld (k : tv σ H fun y H1 => ta σ H1 fun x H2 => PutG K f x y H2 (D.nx σ)) : sFldQ K ta tv f D σ H := k
theorem x_putg {C dx : Addr} {fs fs' : List (Str × V)} {N : Hp → Prop} (h : H a = some (.ins C dx fs)) (c : Cls K C) (n : NoAttr K C f) (l : fs.length < 1000) (e : putF f y fs = fs') (k : N (upd H a (.ins C dx fs'))) : PutG K f (.ref a) y H N := ⟨a, C, dx, fs, rfl, h, c, n, l, by rw [e]; exact k⟩
theorem x_meth (k : ta σ H fun x H1 => MethG G j m tl σ x H1 Q) : tMethQ G j m ta tl σ H Q := k
theorem x_methg {C dx : Addr} {fs : List (Str × V)} {k : Nat} {sp : Sp} {dvs : List V} (h : H a = some (.ins C dx fs)) (c : MetG G k C m sp dvs) (hk : k ≤ j) (l : fs.lookup m = none) (q : tl σ H fun vs H2 => sp (.ref a :: (vs ++ dvs)) H2 Q E0) : MethG G j m tl σ (.ref a) H Q :=
  ⟨a, C, dx, fs, k, sp, dvs, rfl, h, l, c, hk, q⟩
theorem x_test (k : te σ H fun x H' => IsB x H' QT) : tTestQ te σ H QT := k
theorem x_isB {b : Bool} (k : QT b H) : IsB (.bl b) H QT := ⟨b, rfl, k⟩
theorem x_cb {r : List V → Hp → VK → Prop} (k : tl σ H fun vs H1 => r vs H1 Q) : tCB r tl σ H Q := k
theorem x_lenL (h : H a = some (.lst xs)) (k : Q (.int (xs.length : Int)) H) : rLen K [.ref a] H Q := ⟨a, xs, rfl, .inl (SqL.of h), k⟩
theorem x_lenT (h : H a = some (.tup xs)) (k : Q (.int (xs.length : Int)) H) : rLen K [.ref a] H Q := ⟨a, xs, rfl, .inr (SqT.of h), k⟩
theorem x_listL (h : SqL K H a xs) (k : ∀ l, H l = none → Q (.ref l) (upd H l (.lst xs))) : rListOf K [.ref a] H Q := ⟨a, xs, rfl, .inl h, k⟩
theorem x_bm {T : String} {r : V → List V → Hp → VK → Prop} (k : ta σ H fun x H1 => BmG K T r tl σ x H1 Q) : tBMQ K T r ta tl σ H Q := k
theorem x_bmL {r : V → List V → Hp → VK → Prop} (h : H a = some (.lst xs)) (k : tl σ H fun ys H2 => r (.ref a) ys H2 Q) : BmG K "list" r tl σ (.ref a) H Q := ⟨.inl ⟨rfl, xs, SqL.of h⟩, k⟩
theorem x_app (h : H a = some (.lst xs)) (hz : xs.length < 100000) (k : Q .non (upd H a (.lst (xs ++ [y])))) : rAppend (.ref a) [y] H Q := ⟨a, xs, y, rfl, rfl, h, Nat.lt_of_lt_of_le hz (by decide), k⟩
theorem x_pop0 (h : H a = some (.lst (y :: xs))) (k : Q y (upd H a (.lst xs))) : rPopAt (.ref a) [.int 0] H Q :=
  ⟨a, y :: xs, 0, 0, y, rfl, rfl, h, by decide, by decide, by simp [seqIndex?], rfl, k⟩
theorem x_new {n : Nat} {NN : Addr → Prop} (hn : n ≤ 100000) (k : ∀ p, H p = none → NN p) : NewG n NN H := ⟨sl1000 hn, k⟩
theorem x_tup (k : tl σ H fun xs H1 => NewG xs.length (fun p => Q (.ref p) (upd H1 p (.tup xs))) H1) : tTupQ tl σ H Q := k
theorem x_lst (k : tl σ H fun xs H1 => NewG xs.length (fun p => Q (.ref p) (upd H1 p (.lst xs))) H1) : tLstQ tl σ H Q := k
theorem x_chain (k : ta σ H fun x H1 => tb σ H1 fun y H2 => r x y H2 fun z H3 => ChnG r' tc σ Q y z H3) : tChainQ r r' ta tb tc σ H Q := k
theorem x_chn {b : Bool} (k : if b = true then tc σ H fun w' H4 => r' y w' H4 Q else Q (.bl false) H) : ChnG r' tc σ Q y (.bl b) H := ⟨b, rfl, k⟩
theorem x_andV (k : ta σ H fun x H1 => AndG tb σ Q x H1) : tAndVQ ta tb σ H Q := k
theorem x_andg {b : Bool} (k : if b = true then tb σ H Q else Q (.bl false) H) : AndG tb σ Q (.bl b) H := ⟨b, rfl, k⟩
theorem x_orV (k : ta σ H fun x H1 => OrG tb σ Q x H1) : tOrVQ ta tb σ H Q := k
theorem x_org {b : Bool} (k : if b = true then Q (.bl true) H else tb σ H Q) : OrG tb σ Q (.bl b) H := ⟨b, rfl, k⟩
theorem x_notV (k : ta σ H fun x H1 => NotG Q x H1) : tNotVQ ta σ H Q := k
theorem x_notg {b : Bool} (k : Q (.bl (!b)) H) : NotG Q (.bl b) H := ⟨b, rfl, k⟩
theorem x_and (k : t σ H fun c H1 => if c = true then u σ H1 QT else QT false H1) : tAnd t u σ H QT := k
theorem x_or (k : t σ H fun c H1 => if c = true then QT true H1 else u σ H1 QT) : tOr t u σ H QT := k
theorem x_not (k : t σ H fun c H1 => QT (!c) H1) : tNot t σ H QT := k
theorem x_ifE (k : t σ H fun c H1 => if c = true then ta σ H1 Q else tb σ H1 Q) : tIf t ta tb σ H Q := k
theorem x_dget (k : ta σ H fun x H1 => tb σ H1 fun y H2 => DGetG x y H2 Q) : tDGetQ ta tb σ H Q := k
theorem x_ixL {i : Nat} {n : Int} (h : H a = some (.lst xs)) (e : n = (i : Int)) (hv : xs[i]? = some v) (k : Q v H) : rIxL K (.ref a) (.int n) H Q := ⟨a, xs, n, v, rfl, rfl, SqL.of h, by rw [e]; exact atI_nat hv, k⟩
theorem x_ixT {i : Nat} {n : Int} (h : H a = some (.tup xs)) (e : n = (i : Int)) (hv : xs[i]? = some v) (k : Q v H) : rIxT K (.ref a) (.int n) H Q := ⟨a, xs, n, v, rfl, rfl, SqT.of h, by rw [e]; exact atI_nat hv, k⟩
theorem x_rep {n : Int} (h : H a = some (.lst xs)) (h0 : 0 ≤ n ∧ n ≤ 1000) (hx : xs.length ≤ 10) (k : ∀ p, H p = none → Q (.ref p) (upd H p (.lst (List.replicate n.toNat xs).flatten))) : rRep (.ref a) (.int n) H Q :=
  ⟨a, n, xs, rfl, rfl, h, by omega, by omega, Nat.le_trans (Nat.mul_le_mul hx (show n.toNat ≤ 1000 by omega)) (by decide), k⟩
-- statements
theorem x_seq (k : tu { D with nx := tw D } σ H) : tSeq tu tw D σ H := k
theorem x_asg (k : te σ H fun x H1 => g x σ H1 D.nx) : tAsg te g D σ H := k
theorem x_gname {i : Nat} (k : N (σ.set i (some v)) H) : gName i v σ H N := k
theorem x_gtup {n : Nat} (h : H a = some (.tup xs)) (hn : xs.length = n) (k : gs xs σ H N) : gTup K n gs (.ref a) σ H N := ⟨a, xs, rfl, SqT.of h, hn, k⟩
theorem x_gcons (k : g v σ H fun σ' H' => gs xs σ' H' N) : gCons g gs (v :: xs) σ H N := ⟨v, xs, rfl, k⟩
theorem x_gnil (k : N σ H) : gNil [] σ H N := ⟨rfl, k⟩
theorem x_gsub {ts : TSet} (k : ta σ H fun o H1 => tb σ H1 fun i H2 => ts o i v H2 fun H3 => N σ H3) : gSub ta tb ts v σ H N := k
theorem x_setL {NN : Hp → Prop} {i : Nat} {n : Int} (h : H a = some (.lst xs)) (e : n = (i : Int)) (hi : i < xs.length) (k : NN (upd H a (.lst (xs.set i v)))) : rSetL (.ref a) (.int n) v H NN := by
  refine ⟨a, xs, n, i, rfl, rfl, h, ?_, k⟩
  subst e
  unfold ixN
  rw [if_pos (by omega), if_pos (by omega)]
  simp
theorem x_ifs (k : t σ H fun b H1 => if b = true then tu D σ H1 else tw D σ H1) : tIfS t tu tw D σ H := k
theorem x_ret (k : te σ H D.rt) : tRet te D σ H := k
theorem x_retN (k : D.rt .non H) : tRetN D σ H := k
theorem x_drop (k : te σ H fun _ H1 => D.nx σ H1) : tDrop te D σ H := k
theorem x_next (k : D.nx σ H) : tNext D σ H := k
theorem x_for {wi : TI} (k : wi σ H fun J H1 => ForG g tu D σ J H1) : tForQ wi g tu D σ H := k
theorem x_lc {wi : TI} {ws : List Nat} (k : wi σ H fun J H1 => LcG g t te ws σ Q J H1) : tLcQ wi g t te ws σ H Q := k
theorem x_rng1 {R : It → Hp → Prop} (k : tl σ H fun vs H1 => Rng1G vs H1 R) : iRng1Q tl σ H R := k
theorem x_rng2 {R : It → Hp → Prop} (k : tl σ H fun vs H1 => Rng2G vs H1 R) : iRng2Q tl σ H R := k
theorem x_rng1g {n : Int} {R : It → Hp → Prop} (h : 0 ≤ n ∧ n ≤ 1000000) (k : R (Itr 0 n.toNat) H) : Rng1G [.int n] H R := ⟨n, rfl, by omega, by omega, k⟩
theorem x_ilist {R : It → Hp → Prop} (k : te σ H fun x H1 => ItLG K x H1 R) : iListQ K te σ H R := k
theorem x_itl {R : It → Hp → Prop} (h : H a = some (.lst xs)) (k : R (Itl K a) H) : ItLG K (.ref a) H R := ⟨a, rfl, ⟨xs, SqL.of h⟩, k⟩
-- branches
theorem x_t {A B : Prop} (h : A) : if true = true then A else B := by rw [if_pos rfl]; exact h
theorem x_f {A B : Prop} (h : B) : if false = true then A else B := by rw [if_neg Bool.false_ne_true]; exact h
theorem x_nt {A B : Prop} (h : B) : if (!true) = true then A else B := x_f h
theorem x_nf {A B : Prop} (h : A) : if (!false) = true then A else B := x_t h
theorem x_nnt {A B : Prop} (h : A) : if (!(!true)) = true then A else B := x_t h
theorem x_nnf {A B : Prop} (h : B) : if (!(!false)) = true then A else B := x_f h
theorem x_dt {p A B : Prop} [Decidable p] (c : p) (h : A) : if decide p = true then A else B := by rw [if_pos (decide_eq_true c)]; exact h
theorem x_df {p A B : Prop} [Decidable p] (c : ¬ p) (h : B) : if decide p = true then A else B := by rw [if_neg (by simp [c])]; exact h
theorem x_ndt {p A B : Prop} [Decidable p] (c : p) (h : B) : if (!decide p) = true then A else B := by rw [if_neg (by simp [c])]; exact h
theorem x_ndf {p A B : Prop} [Decidable p] (c : ¬ p) (h : A) : if (!decide p) = true then A else B := by rw [if_pos (by simp [c])]; exact h
theorem x_d2 {p A B : Prop} [Decidable p] (h1 : p → A) (h2 : ¬ p → B) : if decide p = true then A else B := by
  by_cases c : p
  · exact x_dt c (h1 c)
  · exact x_df c (h2 c)
theorem x_nd2 {p A B : Prop} [Decidable p] (h1 : ¬ p → A) (h2 : p → B) : if (!decide p) = true then A else B := by
  by_cases c : p
  · exact x_ndt c (h2 c)
  · exact x_ndf c (h1 c)
theorem x_b2 {b : Bool} {A B : Prop} (h1 : b = true → A) (h2 : b = false → B) : if b = true then A else B := by
  cases b with
  | true => exact x_t (h1 rfl)
  | false => exact x_f (h2 rfl)
theorem x_nb2 {b : Bool} {A B : Prop} (h1 : b = false → A) (h2 : b = true → B) : if (!b) = true then A else B := by
  cases b with
  | true => exact x_nt (h2 rfl)
  | false => exact x_nf (h1 rfl)
end
/-! ### loops and comprehensions -/
section
variable {σ : Stt} {H H1 : Hp} {Q : VK} {K : PySem.W.Frag} {g : TG} {tt : TT} {te : TE} {ws : List Nat} {D : Ends} {tb : TS}
theorem for_rng {n : Nat} (Pv : Nat → Stt → Hp → Prop) (h0 : Pv 0 σ H1)
    (hs : ∀ i σ H, i < n → Pv i σ H → g (.int (i : Int)) σ H fun σ2 H2 => tb { D with nx := Pv (i + 1), ct := Pv (i + 1), bk := D.nx } σ2 H2) (hd : ∀ σ H, Pv n σ H → D.nx σ H) : ForG g tb D σ (Itr 0 n) H1 :=
  for_range (lo := 0) Pv h0 (fun i σ H hi p => by
    have := hs i σ H hi p
    rw [show ((0 : Int) + (i : Int)) = (i : Int) by omega]; exact this) hd
theorem for_lst {a : Addr} (xs : List V) (Pv : Nat → Stt → Hp → Prop) (h0 : Pv 0 σ H1) (hl : ∀ i σ H, i ≤ xs.length → Pv i σ H → H a = some (.lst xs))
    (hs : ∀ i x σ H, xs[i]? = some x → Pv i σ H → g x σ H fun σ2 H2 => tb { D with nx := Pv (i + 1), ct := Pv (i + 1), bk := D.nx } σ2 H2) (hd : ∀ σ H, Pv xs.length σ H → D.nx σ H) : ForG g tb D σ (Itl K a) H1 :=
  for_list (K := K) (a := a) (xs := xs) Pv h0 (fun i σ H hi p => SqL.of (hl i σ H hi p)) hs hd
/-- a comprehension over a range: an invariant -/
theorem lc_rng {n : Nat} (Pv : Addr → Nat → Hp → Prop) (h0 : ∀ Dd, H1 Dd = none → Pv Dd 0 (upd H1 Dd (.lst [])))
    (hs : ∀ Dd i H, H1 Dd = none → i < n → Pv Dd i H → g (.int (i : Int)) (wipe σ ws) H fun σ2 H2 => wipe σ2 ws = wipe σ ws ∧ tt σ2 H2 fun b H3 => if b = true then te σ2 H3 fun y H4 => ∃ acc, H4 Dd = some (.lst acc) ∧ acc.length < sizeLine ∧ Pv Dd (i + 1) (upd H4 Dd (.lst (acc ++ [y]))) else Pv Dd (i + 1) H3)
    (hd : ∀ Dd H, H1 Dd = none → Pv Dd n H → Q (.ref Dd) H) : LcG g tt te ws σ Q (Itr 0 n) H1 := fun Dd hD =>
  lc_range (lo := 0) (n := n) (Qd := fun H => Q (.ref Dd) H) (Pv Dd) (h0 Dd hD) (fun i H hi p => by
    have := hs Dd i H hD hi p
    rw [show ((0 : Int) + (i : Int)) = (i : Int) by omega]; exact this) fun H p => hd Dd H hD p
theorem lc_lst {a : Addr} (xs : List V) (Pv : Addr → Nat → Hp → Prop) (h0 : ∀ Dd, H1 Dd = none → Pv Dd 0 (upd H1 Dd (.lst []))) (hl : ∀ Dd i H, H1 Dd = none → i ≤ xs.length → Pv Dd i H → H a = some (.lst xs))
    (hs : ∀ Dd i x H, H1 Dd = none → xs[i]? = some x → Pv Dd i H → g x (wipe σ ws) H fun σ2 H2 => wipe σ2 ws = wipe σ ws ∧ tt σ2 H2 fun b H3 => if b = true then te σ2 H3 fun y H4 => ∃ acc, H4 Dd = some (.lst acc) ∧ acc.length < sizeLine ∧ Pv Dd (i + 1) (upd H4 Dd (.lst (acc ++ [y]))) else Pv Dd (i + 1) H3)
    (hd : ∀ Dd H, H1 Dd = none → Pv Dd xs.length H → Q (.ref Dd) H) : LcG g tt te ws σ Q (Itl K a) H1 := fun Dd hD =>
  lc_list (K := K) (a := a) (xs := xs) (Qd := fun H => Q (.ref Dd) H) (Pv Dd) (h0 Dd hD) (fun i H hi p => SqL.of (hl Dd i H hD hi p)) (fun i x H hi p => hs Dd i x H hD hi p) fun H p => hd Dd H hD p
/-- what a comprehension that only allocates has made so far -/
def Made (H1 : Hp) (Dd : Addr) (xs : List V) (H : Hp) : Prop := Fr F0 H1 H ∧ H Dd = some (.lst xs)
theorem filt_succ {α : Type} (b : Nat → Bool) (f : Nat → α) (i : Nat) : ((List.range (i + 1)).filter b).map f = ((List.range i).filter b).map f ++ (if b i = true then [f i] else []) := by
  rw [List.range_succ, List.filter_append, List.map_append]
  cases h : b i <;> simp [h]
theorem filt_len {α : Type} (b : Nat → Bool) (f : Nat → α) (i : Nat) : (((List.range i).filter b).map f).length ≤ i := by
  rw [List.length_map]
  exact Nat.le_trans (List.length_filter_le _ _) (by simp)
/-- a comprehension over a range, test and element only allocate -/
theorem lc_rngP {n : Nat} (bf : Nat → Bool) (vf : Nat → V) (hn : n ≤ 100000)
    (hs : ∀ i H (Kv : V → Hp → Prop) (Kn : Hp → Prop), i < n → Fr F0 H1 H → (bf i = true → ∀ H', Fr F0 H H' → Kv (vf i) H') → (bf i = false → ∀ H', Fr F0 H H' → Kn H') →
      g (.int (i : Int)) (wipe σ ws) H fun σ2 H2 => wipe σ2 ws = wipe σ ws ∧ tt σ2 H2 fun b H3 => if b = true then te σ2 H3 Kv else Kn H3)
    (hd : ∀ Dd H, H1 Dd = none → Fr F0 H1 H → H Dd = some (.lst (((List.range n).filter bf).map vf)) → Q (.ref Dd) H) : LcG g tt te ws σ Q (Itr 0 n) H1 := by
  refine lc_rng (fun Dd i H => Made H1 Dd (((List.range i).filter bf).map vf) H) (fun Dd hD => ⟨.new hD, upd_same⟩) (fun Dd i H hD hi p => ?_) (fun Dd H hD p => hd Dd H hD p.1 p.2)
  obtain ⟨p1, p2⟩ := p
  refine hs i H (fun y H4 => ∃ acc, H4 Dd = some (.lst acc) ∧ acc.length < sizeLine ∧ Made H1 Dd _ (upd H4 Dd (.lst (acc ++ [y])))) (fun H3 => Made H1 Dd _ H3) hi p1 (fun hb H' f => ?_) (fun hb H' f => ?_)
  · refine ⟨_, f.at0 p2, Nat.lt_of_le_of_lt (filt_len _ _ _) (Nat.lt_of_lt_of_le hi (sl1000 hn)), (p1.trans f).then_put_new hD, ?_⟩
    rw [filt_succ, if_pos hb]; exact upd_same
  · refine ⟨p1.trans f, ?_⟩
    rw [filt_succ, if_neg (by rw [hb]; exact Bool.false_ne_true), List.append_nil]; exact f.at0 p2
/-- over a list -/
theorem lc_lstP {a : Addr} (xs : List V) (bf : Nat → Bool) (vf : Nat → V) (hn : xs.length ≤ 100000) (ha : H1 a = some (.lst xs))
    (hs : ∀ i x H (Kv : V → Hp → Prop) (Kn : Hp → Prop), xs[i]? = some x → Fr F0 H1 H → (bf i = true → ∀ H', Fr F0 H H' → Kv (vf i) H') → (bf i = false → ∀ H', Fr F0 H H' → Kn H') →
      g x (wipe σ ws) H fun σ2 H2 => wipe σ2 ws = wipe σ ws ∧ tt σ2 H2 fun b H3 => if b = true then te σ2 H3 Kv else Kn H3)
    (hd : ∀ Dd H, H1 Dd = none → Fr F0 H1 H → H Dd = some (.lst (((List.range xs.length).filter bf).map vf)) → Q (.ref Dd) H) : LcG g tt te ws σ Q (Itl K a) H1 := by
  refine lc_lst xs (fun Dd i H => Made H1 Dd (((List.range i).filter bf).map vf) H) (fun Dd hD => ⟨.new hD, upd_same⟩) (fun Dd i H hD hi p => p.1.at0 ha) (fun Dd i x H hD hi p => ?_) (fun Dd H hD p => hd Dd H hD p.1 p.2)
  obtain ⟨p1, p2⟩ := p
  have hlt : i < xs.length := (List.getElem?_eq_some_iff.mp hi).1
  refine hs i x H (fun y H4 => ∃ acc, H4 Dd = some (.lst acc) ∧ acc.length < sizeLine ∧ Made H1 Dd _ (upd H4 Dd (.lst (acc ++ [y])))) (fun H3 => Made H1 Dd _ H3) hi p1 (fun hb H' f => ?_) (fun hb H' f => ?_)
  · refine ⟨_, f.at0 p2, Nat.lt_of_le_of_lt (filt_len _ _ _) (Nat.lt_of_lt_of_le hlt (sl1000 hn)), (p1.trans f).then_put_new hD, ?_⟩
    rw [filt_succ, if_pos hb]; exact upd_same
  · refine ⟨p1.trans f, ?_⟩
    rw [filt_succ, if_neg (by rw [hb]; exact Bool.false_ne_true), List.append_nil]; exact f.at0 p2
theorem lc_yes {σ : Stt} {H : Hp} {A : Bool → Hp → Prop} (k : A true H) : tYes σ H A := k
end

/-! ### further rules -/
section
variable {X : Cx} {x : Str} {e a : Expr} {p p2 q pos : Pos} {ta te : TE}
theorem e_gint {i : Int} (hg : Gl X x) (h : ∃ t, X.mg x = some (.int i t)) (hd : (x == ("__debug__" : Str)) = false := by decide) : PE X (.Name x pos) (tC (.int i)) := by
  obtain ⟨t, h⟩ := h
  exact pe_glob hg h ⟨t, rfl⟩ hd
theorem e_gstr {z : Str} (hg : Gl X x) (h : ∃ t, X.mg x = some (.str z t)) (hd : (x == ("__debug__" : Str)) = false := by decide) : PE X (.Name x pos) (tC (.str z)) := by
  obtain ⟨t, h⟩ := h
  exact pe_glob hg h ⟨t, rfl⟩ hd
theorem e_ty {n : String} (hg : Gl X x) (hm : X.mg x = none) (hv : bootBuiltins x = some (.type n)) (hn : x ≠ "__name__" := by decide) (hd : (x == ("__debug__" : Str)) = false := by decide) : PE X (.Name x pos) (tC (.ty n)) :=
  pe_bltn hg hm hv rfl hn hd
theorem e_cls {c : Addr} (hg : Gl X x) (hm : X.mg x = some (.ref c)) (hd : (x == ("__debug__" : Str)) = false := by decide) : PE X (.Name x pos) (tC (.ref c)) := pe_glob hg hm rfl hd
/-- how many different ones -/
def dcount (ns : List Int) : Nat := (firstMet (fun i => ns.getD i 0) ns.length).length
def LenSetG (K : PySem.W.Frag) (x : V) (H : Hp) (Q : VK) : Prop := ∃ (l : Addr) (ns : List Int), x = .ref l ∧ SqL K H l (ns.map V.int) ∧ ns.length < 64 ∧ Q (.int (dcount ns : Nat)) H
def tLenSet (K : PySem.W.Frag) (ta : TE) : TE := fun σ H Q => ta σ H fun x H1 => LenSetG K x H1 Q
theorem e_lenSet (hc : X.calm = true) (hg : Gl X "len") (hm : X.mg "len" = none) (hg2 : Gl X "set") (hm2 : X.mg "set" = none) (ha : PE X a ta)
    (na : starEach [a] X.env = (false, eval a X.env) :: starEach [] X.env := by rfl) : PE X (.Call (.Name "len" p) [.Call (.Name "set" p2) [a] [] q] [] pos) (tLenSet X.K ta) := by
  refine ⟨fun pn s σ H Qk J hw => ?_⟩
  refine Call_ (ld_blt J hg hm PySem.boot_len (PyProof.Rows.callWith_builtin1 (PyProof.Rows.args_cons ?_ rfl) rfl rfl))
  refine Call_ (ld_blt J hg2 hm2 PyProof.Rows.boot_set (PyProof.Rows.callWith_type1 (PyProof.Rows.args_cons (thn (ha.run pn s σ H _ J hw) ?_) na) na rfl))
  rintro v sa ⟨y, Ha, Ja, ry, l, ns, rfl, hq, hlt, goal⟩
  refine PyProof.Rows.args_nil ?_
  cases ry
  obtain ⟨its, r, pl, -⟩ := Ja.list hq
  have size : its.toArray.size = ns.length := by rw [List.size_toArray, ← r.length, List.length_map]
  refine call_set_list (Ja.ok.hd hc) pl.isList (ns := ns) (by simpa using r.ints) (by unfold scanBound; omega) fun hb tk hS hk => PyProof.Rows.args_nil ?_
  rw [size] at hS
  have le := firstMet_length_le (fun i => ns.getD i 0) ns.length
  obtain ⟨o, es, ep, t, ho, hex, hd, -, -, -, hf, hn⟩ := hS
  have Jb : Inv X pn σ Ha { sa with heap := hb, toks := tk } := Ja.kept fun b u z => hk b u (Heap.lt_size z) z
  exact call_len_set ho hex hd hf (by rw [hn]; omega) ⟨.int (dcount ns : Nat), Ha, Jb.tok _, ⟨_, by rw [hn]; rfl⟩, goal⟩
theorem firstMet_mem (val : Nat → Int) : ∀ i k, k ∈ firstMet val i ↔ ∃ j, j < i ∧ val j = k
  | 0, k => by simp [firstMet_zero]
  | i + 1, k => by
    have ih := firstMet_mem val i
    have step : k ∈ step_dedup (firstMet val i) (val i) ↔ k ∈ firstMet val i ∨ k = val i := by
      unfold step_dedup
      split
      · rename_i h
        obtain ⟨z, hz, e⟩ := List.any_eq_true.mp h
        have e' : z = val i := by simpa using e
        constructor
        · exact .inl
        · rintro (m | rfl)
          · exact m
          · rw [← e']; exact hz
      · simp [List.mem_append]
    rw [firstMet_succ, step, ih k]
    constructor
    · rintro (⟨j, hj, e⟩ | rfl)
      · exact ⟨j, by omega, e⟩
      · exact ⟨i, by omega, rfl⟩
    · rintro ⟨j, hj, e⟩
      by_cases z : j = i
      · subst z; exact .inr e.symm
      · exact .inl ⟨j, by omega, e⟩
theorem dcount_le (ns : List Int) : dcount ns ≤ ns.length := firstMet_length_le _ _
theorem firstMet_nd (val : Nat → Int) : ∀ i, (firstMet val i).length = i → ∀ a b, a < i → b < i → val a = val b → a = b
  | 0, _, a, b, h, _, _ => by omega
  | i + 1, e, a, b, ha, hb, q => by
    rw [firstMet_succ, step_length] at e
    have le := firstMet_length_le val i
    split at e
    · omega
    · rename_i h
      have el : (firstMet val i).length = i := by omega
      have no : ∀ j, j < i → val j ≠ val i := fun j hj z => h (List.any_eq_true.mpr ⟨val j, (firstMet_mem val i (val j)).mpr ⟨j, hj, rfl⟩, by simpa using z⟩)
      by_cases z1 : a = i
      · by_cases z2 : b = i
        · omega
        · subst z1; exact absurd q.symm (no b (by omega))
      · by_cases z2 : b = i
        · subst z2; exact absurd q (no a (by omega))
        · exact firstMet_nd val i el a b (by omega) (by omega) q
/-- as many different ones as there are: no two alike -/
theorem nodup_of_dcount {ns : List Int} (h : ¬ (dcount ns : Int) < (ns.length : Int)) : ns.Nodup := by
  have e : dcount ns = ns.length := by have := dcount_le ns; omega
  have nd := firstMet_nd (fun i => ns.getD i 0) ns.length e
  refine List.pairwise_iff_getElem.mpr fun i j hi hj hij z => ?_
  have := nd i j hi hj (by
    show ns.getD i 0 = ns.getD j 0
    rw [List.getD_eq_getElem?_getD, List.getD_eq_getElem?_getD, List.getElem?_eq_getElem hi, List.getElem?_eq_getElem hj, z])
  omega
theorem dcount_of_nodup {ns : List Int} (h : ns.Nodup) : dcount ns = ns.length := by
  unfold dcount
  rw [firstMet_nodup ns h ns.length (Nat.le_refl _), List.take_length]
def rMin2 : List V → Hp → VK → Prop := fun xs H Q => ∃ i j, xs = [.int i, .int j] ∧ Q (.int (if j < i then j else i)) H
def rMax2 : List V → Hp → VK → Prop := fun xs H Q => ∃ i j, xs = [.int i, .int j] ∧ Q (.int (if j > i then j else i)) H
theorem c_min2 (hc : X.calm = true) : CallR X (.builtin "min") rMin2 := call_min2 hc
theorem c_max2 (hc : X.calm = true) : CallR X (.builtin "max") rMax2 := call_max2 hc
/-- list(range(n)) -/
def LRgG (x : V) (H : Hp) (Q : VK) : Prop := ∃ n : Int, x = .int n ∧ RgOk 0 n ∧ ∀ q, H q = none → Q (.ref q) (upd H q (.lst (rgV 0 n)))
def tLRg (ta : TE) : TE := fun σ H Q => ta σ H fun x H1 => LRgG x H1 Q
theorem rgV0 (n : Int) : rgV 0 n = (List.range n.toNat).map fun (i : Nat) => V.int (i : Int) := by
  unfold rgV
  rw [Int.sub_zero]
  refine List.map_congr_left fun i _ => ?_
  rw [Int.zero_add]
theorem x_lrg {σ : Stt} {H : Hp} {Q : VK} (k : ta σ H fun x H1 => LRgG x H1 Q) : tLRg ta σ H Q := k
theorem x_lrgg {H : Hp} {Q : VK} {n : Int} (h : 0 ≤ n ∧ n ≤ 100000) (k : ∀ q, H q = none → Q (.ref q) (upd H q (.lst ((List.range n.toNat).map fun (i : Nat) => V.int (i : Int))))) : LRgG (.int n) H Q :=
  ⟨n, rfl, ⟨by omega, by omega, by omega, by omega, by omega⟩, by rw [rgV0]; exact k⟩
theorem e_lrg (hc : X.calm = true) (hg : Gl X "list") (hm : X.mg "list" = none) (hg2 : Gl X "range") (hm2 : X.mg "range" = none) (ha : PE X a ta) (na : starEach [a] X.env = (false, eval a X.env) :: starEach [] X.env := by rfl)
    (nb : starEach [.Call (.Name "range" p2) [a] [] q] X.env = (false, eval (.Call (.Name "range" p2) [a] [] q) X.env) :: starEach [] X.env := by rfl) : PE X (.Call (.Name "list" p) [.Call (.Name "range" p2) [a] [] q] [] pos) (tLRg ta) :=
  pe_listRg (p := p) (pos := pos) hc hg hm (prg_1 (p := p2) (pos := q) hg2 hm2 ha na) nb
theorem x_lenSet {σ : Stt} {H : Hp} {Q : VK} {K : PySem.W.Frag} (k : ta σ H fun x H1 => LenSetG K x H1 Q) : tLenSet K ta σ H Q := k
theorem x_lenSetg {H : Hp} {Q : VK} {K : PySem.W.Frag} {l : Addr} {ns : List Int} (h : H l = some (.lst (ns.map V.int))) (hn : ns.length < 64) (k : Q (.int (dcount ns : Nat)) H) : LenSetG K (.ref l) H Q := ⟨l, ns, rfl, SqL.of h, hn, k⟩
end
theorem ne_new {H : Hp} {p q : Addr} {o : HO} (h' : H q = none) (h : H p = some o) : p ≠ q := ne_of_none h h'
section
variable {H : Hp} {Q : VK} {K : PySem.W.Frag} {T : String} {b : Bool}
theorem x_isi {x : V} {c : String} (ty : TyX K H x (.type c)) (e : kitB c T = some b) (k : Q (.bl b) H) : rIsi K [x, .ty T] H Q := ⟨x, .ty T, .type c, .type T, b, rfl, .ty T, ty, kit_ty e, k⟩
theorem x_isiII {i : Int} (k : Q (.bl true) H) : rIsi K [.int i, .ty "int"] H Q := x_isi (.base (.int i)) (by decide +kernel) k
theorem x_isiIB {i : Int} (k : Q (.bl false) H) : rIsi K [.int i, .ty "bool"] H Q := x_isi (.base (.int i)) (by decide +kernel) k
theorem x_isiBI {i : Bool} (k : Q (.bl true) H) : rIsi K [.bl i, .ty "int"] H Q := x_isi (.base (.bl i)) (by decide +kernel) k
theorem x_isiBB {i : Bool} (k : Q (.bl true) H) : rIsi K [.bl i, .ty "bool"] H Q := x_isi (.base (.bl i)) (by decide +kernel) k
theorem x_isiNI (k : Q (.bl false) H) : rIsi K [.non, .ty "int"] H Q := x_isi (.base .non) (by decide +kernel) k
theorem x_isiNL (k : Q (.bl false) H) : rIsi K [.non, .ty "list"] H Q := x_isi (.base .non) (by decide +kernel) k
theorem x_isiIL {i : Int} (k : Q (.bl false) H) : rIsi K [.int i, .ty "list"] H Q := x_isi (.base (.int i)) (by decide +kernel) k
theorem x_isiSI {i : Str} (k : Q (.bl false) H) : rIsi K [.str i, .ty "int"] H Q := x_isi (.base (.str i)) (by decide +kernel) k
theorem x_isiSL {i : Str} (k : Q (.bl false) H) : rIsi K [.str i, .ty "list"] H Q := x_isi (.base (.str i)) (by decide +kernel) k
theorem x_isiLL {a : Addr} {xs : List V} (h : H a = some (.lst xs)) (k : Q (.bl true) H) : rIsi K [.ref a, .ty "list"] H Q := x_isi (.base (.lst h)) (by decide +kernel) k
theorem x_isiLI {a : Addr} {xs : List V} (h : H a = some (.lst xs)) (k : Q (.bl false) H) : rIsi K [.ref a, .ty "int"] H Q := x_isi (.base (.lst h)) (by decide +kernel) k
theorem x_isiTL {a : Addr} {xs : List V} (h : H a = some (.tup xs)) (k : Q (.bl false) H) : rIsi K [.ref a, .ty "list"] H Q := x_isi (.base (.tup h)) (by decide +kernel) k
theorem x_isiTT {a : Addr} {xs : List V} (h : H a = some (.tup xs)) (k : Q (.bl true) H) : rIsi K [.ref a, .ty "tuple"] H Q := x_isi (.base (.tup h)) (by decide +kernel) k
theorem x_isiLT {a : Addr} {xs : List V} (h : H a = some (.lst xs)) (k : Q (.bl false) H) : rIsi K [.ref a, .ty "tuple"] H Q := x_isi (.base (.lst h)) (by decide +kernel) k
end
/-! ### == of lists -/
theorem eqvAll_map {α : Type} [DecidableEq α] (f : α → PyData) (hf : ∀ a b, PyData.eqv (f a) (f b) = decide (a = b)) : ∀ xs ys : List α, PyData.eqvAll (xs.map f) (ys.map f) = decide (xs = ys)
  | [], [] => by simp [PyData.eqvAll]
  | [], y :: ys => by simp [PyData.eqvAll]
  | x :: xs, [] => by simp [PyData.eqvAll]
  | x :: xs, y :: ys => by
    rw [List.map_cons, List.map_cons, PyData.eqvAll, hf, eqvAll_map f hf xs ys]
    by_cases h1 : x = y <;> by_cases h2 : xs = ys <;> simp [h1, h2]
theorem lay_map {α : Type} (f : α → PyData) (hf : ∀ a, (f a).canLay0 = true) : ∀ xs : List α, PyData.canLayAll0 (xs.map f) = true
  | [] => rfl
  | x :: xs => by rw [List.map_cons, PyData.canLayAll0, hf, lay_map f hf xs]; rfl
theorem depth_map {α : Type} (f : α → PyData) {n : Nat} (hf : ∀ a, (f a).depth ≤ n) : ∀ xs : List α, PyData.depthAll (xs.map f) ≤ n
  | [] => Nat.zero_le _
  | x :: xs => by
    rw [List.map_cons, PyData.depthAll]
    exact Nat.max_le.mpr ⟨hf x, depth_map f hf xs⟩
/-- how things of a kind lie as data -/
structure Enc (α : Type) [DecidableEq α] where
  f : α → PyData
  eq : ∀ a b, PyData.eqv (f a) (f b) = decide (a = b)
  lay : ∀ a, (f a).canLay0 = true
  dep : ∀ a, (f a).depth ≤ 20
theorem Enc.shaped {α : Type} [DecidableEq α] (e : Enc α) (xs : List α) : SeqAt.shaped (.list (xs.map e.f)) = true := by
  unfold SeqAt.shaped
  rw [PyData.canLay0, lay_map e.f e.lay]
  refine (Bool.true_and _).trans (decide_eq_true ?_)
  rw [PyData.depth]
  have := depth_map e.f e.dep xs
  omega
def encInt : Enc Int := ⟨.int, fun a b => by simp [PyData.eqv, Bool.beq_eq_decide_eq], fun _ => rfl, fun _ => Nat.zero_le _⟩
/-- at x is a list of such things -/
def LstD (K : PySem.W.Frag) (H : Hp) (x : V) (ds : List PyData) : Prop := ∃ a vs, x = .ref a ∧ SqL K H a vs ∧ DpAll K H vs ds
section
variable {H : Hp} {Q : VK} {K : PySem.W.Frag} {x y : V} {α : Type} [DecidableEq α]
theorem x_eqL (e : Enc α) {xs ys : List α} (hx : LstD K H x (xs.map e.f)) (hy : LstD K H y (ys.map e.f)) (k : Q (.bl (decide (xs = ys))) H) : rEqD K x y H Q := by
  obtain ⟨a, vs, rfl, h1, h2⟩ := hx
  obtain ⟨b, ws, rfl, h3, h4⟩ := hy
  refine ⟨_, _, .lst h1 h2, .lst h3 h4, e.shaped xs, e.shaped ys, ?_⟩
  rw [PyData.eqv, eqvAll_map e.f e.eq]; exact k
theorem x_neL (e : Enc α) {xs ys : List α} (hx : LstD K H x (xs.map e.f)) (hy : LstD K H y (ys.map e.f)) (k : Q (.bl (!decide (xs = ys))) H) : rNeD K x y H Q := by
  obtain ⟨a, vs, rfl, h1, h2⟩ := hx
  obtain ⟨b, ws, rfl, h3, h4⟩ := hy
  refine ⟨_, _, .lst h1 h2, .lst h3 h4, e.shaped xs, e.shaped ys, ?_⟩
  rw [PyData.eqv, eqvAll_map e.f e.eq]; exact k
theorem dp_ints : ∀ ns : List Int, DpAll K H (ns.map V.int) (ns.map encInt.f)
  | [] => .nil
  | n :: ns => .cons (.int n) (dp_ints ns)
theorem lst_ints {a : Addr} {ns : List Int} (h : SqL K H a (ns.map V.int)) : LstD K H (.ref a) (ns.map encInt.f) := ⟨a, _, rfl, h, dp_ints ns⟩
theorem lst_nil {a : Addr} (e : Enc α) (h : H a = some (.lst [])) : LstD K H (.ref a) (([] : List α).map e.f) := ⟨a, [], rfl, SqL.of h, .nil⟩
end

theorem map_ix {α β : Type} {f : α → β} {xs : List α} {i : Nat} {x : α} (h : xs[i]? = some x) : (xs.map f)[i]? = some (f x) := by rw [List.getElem?_map, h]; rfl
theorem map_set {α β : Type} (f : α → β) (xs : List α) (i : Nat) (x : α) : (xs.map f).set i (f x) = (xs.set i x).map f := by
  rw [List.map_set]
theorem mod_nat {n : Int} {L : Nat} (h : 0 < L) : ∃ i : Nat, n % (L : Int) = (i : Int) ∧ i < L := by
  refine ⟨(n % (L : Int)).toNat, ?_, ?_⟩
  · have := Int.emod_nonneg n (show (L : Int) ≠ 0 by omega); omega
  · have := Int.emod_nonneg n (show (L : Int) ≠ 0 by omega)
    have := Int.emod_lt_of_pos n (show 0 < (L : Int) by omega); omega
theorem at_lt {α : Type} {xs : List α} {i : Nat} (h : i < xs.length) : ∃ x, xs[i]? = some x := ⟨xs[i], List.getElem?_eq_getElem h⟩
theorem lt_at {α : Type} {xs : List α} {i : Nat} {x : α} (h : xs[i]? = some x) : i < xs.length := (List.getElem?_eq_some_iff.mp h).1
/-! ### options, pairs of a word and a number -/
def optV : Option Int → V
  | none => .non
  | some i => .int i
def encOpt : Enc (Option Int) := ⟨fun | none => .none | some i => .int i, fun a b => by cases a <;> cases b <;> simp [PyData.eqv, Bool.beq_eq_decide_eq], fun a => by cases a <;> rfl, fun a => by cases a <;> exact Nat.zero_le _⟩
theorem dp_opts {K : PySem.W.Frag} {H : Hp} : ∀ ns : List (Option Int), DpAll K H (ns.map optV) (ns.map encOpt.f)
  | [] => .nil
  | none :: ns => .cons .non (dp_opts ns)
  | some n :: ns => .cons (.int n) (dp_opts ns)
theorem lst_opts {K : PySem.W.Frag} {H : Hp} {a : Addr} {ns : List (Option Int)} (h : SqL K H a (ns.map optV)) : LstD K H (.ref a) (ns.map encOpt.f) := ⟨a, _, rfl, h, dp_opts ns⟩
abbrev Let := Bool × Int
def wd : Bool → Str
  | false => "name"
  | true => "chosen"
theorem wd_eq {a b : Bool} : (wd a = wd b) ↔ a = b := by cases a <;> cases b <;> simp [wd] <;> decide
def encLet : Enc Let := ⟨fun p => .tuple [.str (wd p.1), .int p.2], fun a b => by
    obtain ⟨a1, a2⟩ := a
    obtain ⟨b1, b2⟩ := b
    simp only [PyData.eqv, PyData.eqvAll, Bool.beq_eq_decide_eq, Bool.and_true, Prod.mk.injEq]
    by_cases h1 : a1 = b1 <;> by_cases h2 : a2 = b2 <;> simp [h1, h2, wd_eq], fun a => by
    obtain ⟨b, i⟩ := a
    cases b <;> simp only [PyData.canLay0, PyData.canLayAll0, wd, Bool.and_true] <;> decide +kernel, fun a => by simp [PyData.depth, PyData.depthAll]⟩
/-- letters at addresses -/
def Lets (H : Hp) : List Addr → List Let → Prop
  | [], [] => True
  | t :: ts, w :: ws => H t = some (.tup [.str (wd w.1), .int w.2]) ∧ Lets H ts ws
  | _, _ => False
theorem Lets.fr {F : Addr → Prop} {H H' : Hp} (f : Fr F H H') : ∀ {ts ws}, Lets H ts ws → Lets H' ts ws
  | [], [], _ => trivial
  | _ :: _, _ :: _, h => ⟨f.tup _ _ h.1, Lets.fr f h.2⟩
theorem Lets.add {H : Hp} {t : Addr} {w : Let} (h1 : H t = some (.tup [.str (wd w.1), .int w.2])) : ∀ {ts ws}, Lets H ts ws → Lets H (ts ++ [t]) (ws ++ [w])
  | [], [], _ => ⟨h1, trivial⟩
  | _ :: _, _ :: _, h => ⟨h.1, Lets.add h1 h.2⟩
theorem Lets.len {H : Hp} : ∀ {ts ws}, Lets H ts ws → ts.length = ws.length
  | [], [], _ => rfl
  | _ :: _, _ :: _, h => by rw [List.length_cons, List.length_cons, Lets.len h.2]
theorem dp_lets {K : PySem.W.Frag} {H : Hp} : ∀ {ts ws}, Lets H ts ws → DpAll K H (ts.map V.ref) (ws.map encLet.f)
  | [], [], _ => .nil
  | _ :: _, _ :: _, h => .cons (.tup (SqT.of h.1) (.cons (.str _) (.cons (.int _) .nil))) (dp_lets h.2)
theorem lst_lets {K : PySem.W.Frag} {H : Hp} {a : Addr} {ts : List Addr} {ws : List Let} (h : H a = some (.lst (ts.map V.ref))) (hl : Lets H ts ws) : LstD K H (.ref a) (ws.map encLet.f) := ⟨a, _, rfl, SqL.of h, dp_lets hl⟩

/-! ### lists of new lists -/
structure NewL (H1 : Hp) (Dd : Addr) (ps : List Addr) (H : Hp) : Prop where
  fr : Fr F0 H1 H
  nd : (Dd :: ps).Nodup
  nw : ∀ p ∈ ps, H1 p = none ∧ H p = some (.lst [])
  at_ : H Dd = some (.lst (ps.map V.ref))
theorem NewL.step {H1 : Hp} {Dd : Addr} {ps : List Addr} {H : Hp} (hD : H1 Dd = none) (h : NewL H1 Dd ps H) {p : Addr} (hp : H p = none) :
    NewL H1 Dd (ps ++ [p]) (upd (upd H p (.lst [])) Dd (.lst (ps.map V.ref ++ [.ref p]))) := by
  have pD : p ≠ Dd := (ne_of_none h.at_ hp).symm
  have pn : ∀ q ∈ ps, q ≠ p := fun q hq => ne_of_none (h.nw q hq).2 hp
  have nd := h.nd
  rw [List.nodup_cons] at nd
  refine ⟨(h.fr.trans (.new hp)).then_put_new hD, ?_, fun q hq => ?_, by rw [List.map_append]; exact upd_same⟩
  · rw [List.nodup_cons, List.mem_append, List.nodup_append]
    refine ⟨fun z => ?_, nd.2, by simp, fun a ha b hb => ?_⟩
    · rcases z with z | z
      · exact nd.1 z
      · exact pD (List.mem_singleton.mp z).symm
    · rw [List.mem_singleton] at hb; subst hb
      exact pn a ha
  · rcases List.mem_append.mp hq with z | z
    · exact ⟨(h.nw q z).1, upd_at (upd_at (h.nw q z).2 (pn q z)) (fun e => nd.1 (e ▸ z))⟩
    · rw [List.mem_singleton] at z; subst z
      exact ⟨h.fr.back0 hp, upd_at upd_same pD⟩
section
variable {σ : Stt} {H H1 : Hp} {Q : VK} {K : PySem.W.Frag} {j : Nat}
theorem lc_rngN {n : Nat} (hn : n ≤ 100000) (hw : ∀ x, wipe ((wipe σ [j]).set j (some x)) [j] = wipe σ [j])
    (hd : ∀ Dd ps H, H1 Dd = none → ps.length = n → NewL H1 Dd ps H → Q (.ref Dd) H) : LcG (gName j) tYes (tLstQ tNil) [j] σ Q (Itr 0 n) H1 := by
  refine lc_rng (fun Dd i H => ∃ ps, ps.length = i ∧ NewL H1 Dd ps H) (fun Dd hD => ⟨[], rfl, .new hD, by simp, by simp, upd_same⟩) (fun Dd i H hD hi p => ?_) (fun Dd H hD p => ?_)
  · obtain ⟨ps, e, q⟩ := p
    refine ⟨hw _, lc_yes (x_t ?_)⟩
    refine x_lst (x_nil (x_new (Nat.le_of_ble_eq_true rfl) fun p hp => ?_))
    exact ⟨_, upd_at q.at_ (ne_of_none q.at_ hp), by rw [List.length_map]; exact Nat.lt_of_lt_of_le (show ps.length < n by omega) (sl1000 hn), ps ++ [p], by simp [e], q.step hD hp⟩
  · obtain ⟨ps, e, q⟩ := p
    exact hd Dd ps H hD e q
theorem lc_lstN {a : Addr} {xs : List V} (ha : H1 a = some (.lst xs)) (hn : xs.length ≤ 100000) (hw : ∀ x, wipe ((wipe σ [j]).set j (some x)) [j] = wipe σ [j])
    (hd : ∀ Dd ps H, H1 Dd = none → ps.length = xs.length → NewL H1 Dd ps H → Q (.ref Dd) H) : LcG (gName j) tYes (tLstQ tNil) [j] σ Q (Itl K a) H1 := by
  refine lc_lst xs (fun Dd i H => ∃ ps, ps.length = i ∧ NewL H1 Dd ps H) (fun Dd hD => ⟨[], rfl, .new hD, by simp, by simp, upd_same⟩) (fun Dd i H hD hi ⟨ps, e, q⟩ => q.fr.at0 ha) (fun Dd i x H hD hx p => ?_) (fun Dd H hD p => ?_)
  · obtain ⟨ps, e, q⟩ := p
    have := lt_at hx
    refine ⟨hw _, lc_yes (x_t ?_)⟩
    refine x_lst (x_nil (x_new (Nat.le_of_ble_eq_true rfl) fun p hp => ?_))
    exact ⟨_, upd_at q.at_ (ne_of_none q.at_ hp), by rw [List.length_map]; exact Nat.lt_of_lt_of_le (show ps.length < xs.length by omega) (sl1000 hn), ps ++ [p], by simp [e], q.step hD hp⟩
  · obtain ⟨ps, e, q⟩ := p
    exact hd Dd ps H hD e q
theorem x_all {a : Addr} {bs : List Bool} (h : H a = some (.lst (bs.map V.bl))) (k : Q (.bl (bs.all id)) H) : rAll K [.ref a] H Q := ⟨a, bs, rfl, SqL.of h, k⟩
theorem x_any {a : Addr} {bs : List Bool} (h : H a = some (.lst (bs.map V.bl))) (k : Q (.bl (bs.any id)) H) : rAny K [.ref a] H Q := ⟨a, bs, rfl, SqL.of h, k⟩
theorem x_sum {a : Addr} {ns : List Int} (h : H a = some (.lst (ns.map V.int))) (k : Q (.int ns.sum) H) : rSum K [.ref a] H Q := ⟨a, ns, rfl, SqL.of h, k⟩
theorem rep_one {α : Type} (x : α) : ∀ n : Nat, (List.replicate n [x]).flatten = List.replicate n x
  | 0 => rfl
  | n + 1 => by rw [List.replicate_succ, List.flatten_cons, rep_one x n]; rfl
theorem x_rep1 {a : Addr} {n : Nat} {x : V} (h : H a = some (.lst [x])) (hn : n ≤ 1000) (k : ∀ p, H p = none → Q (.ref p) (upd H p (.lst (List.replicate n x)))) : rRep (.ref a) (.int n) H Q :=
  x_rep h ⟨by omega, by omega⟩ (by simp) fun p hp => by
    have := k p hp
    rw [Int.toNat_natCast, rep_one]; exact this
theorem map_rep {α β : Type} (f : α → β) (n : Nat) (x : α) : List.replicate n (f x) = (List.replicate n x).map f := by simp
theorem filt_all {n : Nat} : (List.range n).filter (fun _ => true) = List.range n := List.filter_eq_self.mpr (by simp)
end
/-! ### joins -/
theorem x_ifj {t : TT} {tu tw : TS} {D : Ends} {σ : Stt} {H : Hp} (P : Stt → Hp → Prop) (h2 : ∀ N, (∀ σ H, P σ H → N σ H) → tIfS t tu tw { D with nx := N } σ H) (h1 : ∀ σ H, P σ H → D.nx σ H) : tIfS t tu tw D σ H := h2 D.nx h1
theorem x_tj {t : TT} {σ : Stt} {H : Hp} {QT : Bool → Hp → Prop} (P : Bool → Hp → Prop) (h2 : ∀ Q, (∀ b H, P b H → Q b H) → t σ H Q) (h1 : ∀ b H, P b H → QT b H) : t σ H QT := h2 QT h1
theorem x_ej {t : TE} {σ : Stt} {H : Hp} {Q : VK} (P : V → Hp → Prop) (h2 : ∀ Q, (∀ v H, P v H → Q v H) → t σ H Q) (h1 : ∀ v H, P v H → Q v H) : t σ H Q := h2 Q h1
theorem x_sj {ts : TS} {D : Ends} {σ : Stt} {H : Hp} (P : Stt → Hp → Prop) (h2 : ∀ N, (∀ σ H, P σ H → N σ H) → ts { D with nx := N } σ H) (h1 : ∀ σ H, P σ H → D.nx σ H) : ts D σ H := h2 D.nx h1
theorem range_getD {α β : Type} (f : α → β) (d : α) : ∀ xs : List α, (List.range xs.length).map (fun i => f (xs.getD i d)) = xs.map f := fun xs => by
  refine List.ext_getElem? fun i => ?_
  rw [List.getElem?_map, List.getElem?_map]
  by_cases c : i < xs.length
  · rw [List.getElem?_range c, List.getElem?_eq_getElem c]
    simp [List.getD_eq_getElem?_getD, List.getElem?_eq_getElem c]
  · rw [List.getElem?_eq_none (by simpa using c), List.getElem?_eq_none (by simpa using c)]; rfl

/-! ### the values of a dict with tuples as keys -/
def ItvT (d : Addr) (o : Obj) (kvs : List (List Key × V)) : It :=
  ⟨fun i H => H d = some (.frz o (.dT kvs)) ∧ i < kvs.length, fun i H x H' => H' = H ∧ ∃ k, kvs[i]? = some (k, x), fun i H => H d = some (.frz o (.dT kvs)) ∧ kvs.length ≤ i⟩
theorem frz_rawT {X : Cx} {pins : List (Addr × Obj)} {σ : Stt} {H : Hp} {s : Shared} {d : Addr} {o : Obj} {kvs : List (List Key × V)} (I : Inv X pins σ H s) (h : H d = some (.frz o (.dT kvs))) :
    (d == sysModules) = false ∧ s.heap.get? d = some o ∧ o.ExactDict ∧ ∃ (es : Array DictEntry) (ep : Nat), o.data = .dict es ep ∧ es.size = kvs.length ∧
      ∀ (i : Nat) (k : List Key) (v : V), kvs[i]? = some (k, v) → ∃ en : DictEntry, es[i]? = some en ∧ RelV v en.val := by
  obtain ⟨hd, z, hs, xs, pr, o', es, ep, ho, hx, hdt, he, _⟩ := I.hok d _ h
  rw [hd] at ho
  cases ho
  refine ⟨hs, hd, hx, es, ep, hdt, ?_, fun i k v e => ?_⟩
  · have l1 : es.size = xs.length := size_of_entries he
    have l2 : kvs.length = xs.length := Paired.length pr
    omega
  · obtain ⟨b, hb, _, _, e3⟩ := paired_get pr e
    have q := entry_at he i
    rw [hb] at q
    exact ⟨_, q, e3⟩
theorem turn_vT {P : Program} {w : World} {K : PySem.W.Frag} {tg : Expr} {d : Addr} {o : Obj} {es : Array DictEntry} {ep : Nat} {kvs : List (List Key × V)} (it : Addr) (hod : o.data = .dict es ep) (hes : es.size = kvs.length) :
    Turn P w K tg (ItvT d o kvs) [it] it (fun i h => h.IsValIter it d i es.size ep) where
  mem := List.mem_singleton.mpr rfl
  obj := fun i h st b hb => by
    rw [List.mem_singleton.mp hb]
    obtain ⟨oi, e, c, dd⟩ := st
    exact ⟨oi, e, fun v z => by rw [dd] at z; cases z⟩
  keep := fun i h h' st k => Heap.IsValIter.at st fun oi e => k it (List.mem_singleton.mpr rfl) oi e
  item := by
    intro X hP hw hK hc i pins s σ H E I hf st hg
    subst hP hw hK
    have me : it ∈ [it] := List.mem_singleton.mpr rfl
    obtain ⟨f0, f1, f2, f3, f4, f5⟩ := hf it me
    obtain ⟨_, hgd, hx, es', ep', hdt, hsz, ent⟩ := frz_rawT I hg.1
    obtain ⟨rfl, rfl⟩ := dict_ep hod hdt
    have lt : i < kvs.length := hg.2
    obtain ⟨en, hen, rv⟩ := ent i kvs[i].1 kvs[i].2 (List.getElem?_eq_getElem lt)
    refine wpAny_pyNext_values_item_raw st ⟨o, hgd, hx, hdt⟩ (by rw [hsz]; exact lt) fun h' st' sb => ?_
    have I1 : Inv X pins σ H { s with heap := h' } := I.turned (t' := s.toks) (fun b ob hb e => (sb.2 b hb).trans e) f0 f1 f3 f4 f5
    obtain ⟨oi, e, c, dd⟩ := id st'
    have ev : es'[i].val = en.val := by
      have := Array.getElem?_eq_getElem (xs := es') (i := i) (by rw [hsz]; exact lt)
      rw [hen] at this
      exact congrArg DictEntry.val (Option.some.inj this).symm
    rw [ev]
    exact ⟨en.val, rfl, go_of (s := { s with heap := h' }) e c dd (by decide) ⟨kvs[i].2, H, I1, rv, ⟨rfl, kvs[i].1, List.getElem?_eq_getElem lt⟩, st', fun b hb => (hf b hb).1⟩⟩
  done := by
    intro X hP hw hK hc i pins s σ H E I hf st hg
    subst hP hw hK
    obtain ⟨f0, f1, f2, f3, f4, f5⟩ := hf it (List.mem_singleton.mpr rfl)
    obtain ⟨_, hgd, hx, es', ep', hdt, hsz, ent⟩ := frz_rawT I hg.1
    obtain ⟨rfl, rfl⟩ := dict_ep hod hdt
    exact wpAny_pyNext_values_end_raw (I.ok.hd hc) st ⟨o, hgd, hx, hdt⟩ (by rw [hsz]; exact hg.2) fun h' eb => ⟨rfl, I.turned (t' := s.toks) (fun b ob hb e => eb b ob hb e) f0 f1 f3 f4 f5⟩
  self := fun A i s Q E st h => wpAny_pyIter_valiter st h
def ItvG (x : V) (H1 : Hp) (R : It → Hp → Prop) : Prop := ∃ d o kvs, x = .ref d ∧ H1 d = some (.frz o (.dT kvs)) ∧ R (ItvT d o kvs) H1
def iValsTQ (td : TE) : TI := fun σ H R => td σ H fun x H1 => ItvG x H1 R
theorem i_valsT {X : Cx} {tg e : Expr} {td : TE} {apos cpos : Pos} (he : PE X e td) (hbase : attributeBase e "values" X.env (eval e X.env) = eval e X.env := by rfl) (hline : (apos.endLine == cpos.line) = true := by rfl) : PI X tg (.Call (.Attribute e "values" apos) [] [] cpos) (iValsTQ td) := by
  refine ⟨fun pins s σ H R I h => ?_⟩
  refine wpAny_Call_method (T := "dict") (id := "dict.values") hbase rfl hline F.plainAttrs_dict F.slot_dict_values F.type_dict_values (thn (he.run pins s σ H _ I h) fun u s1 ⟨x, H1, I1, rx, d, o, kvs, ex, hd, q⟩ => ?_)
  subst ex
  obtain rfl : u = Value.ref d := rx
  obtain ⟨hs, hgd, hx, es, ep, hdt, hsz, ent⟩ := frz_rawT I1 hd
  have raw : s1.heap.DictRaw d es ep := ⟨o, hgd, hx, hdt⟩
  refine ⟨raw.typeIs, fun a e => by cases e; exact ⟨o, hgd, hx.2.1⟩, ?_⟩
  have I2 : Inv X pins σ H1 { s1 with heap := s1.heap.push { cls := .type "dict_values", data := .fields #[.ref d] } } := I1.kept (t' := s1.toks) fun b ob q => Heap.get?_push_of_some _ q
  have fin : wpAny (model X.prog X.w) X.A (pyIter (.ref s1.heap.objs.size)) (PIE X pins σ tg R) X.xe { s1 with heap := s1.heap.push { cls := .type "dict_values", data := .fields #[.ref d] } } :=
    wpAny_pyIter_values_raw (d := d) (es := es) (ep := ep) ⟨_, Heap.get?_push_size _ rfl, rfl, rfl⟩ (raw.at fun _ e => Heap.get?_push_of_some _ e) (pi_one (tk := s1.toks) I2 _ (turn_vT _ hdt hsz) ⟨_, Heap.get?_push_size _ rfl, rfl, rfl⟩ q)
  show wpAny _ _ (callWith cpos (.builtin "dict.values") [.ref d] [] []) _ X.xe s1
  exact method_meetsIn F.slot_dict_values F.entry_dict_values rfl (PySem.evalArgs_none ⟨rfl, raw.typeIs, F.args_dict_values_1 _, _, meets_dict_values_raw d hs, ⟨es, ep, raw⟩, fin⟩)
/-! ### setdefault with a tuple as key -/
theorem atKey_none_val {H : Hp} {kvs : List (List Key × V)} {xs : List (List Key × Addr × Value)} (r : KT H kvs xs) {k : List Key} (h : atKey xs k = none) : valV kvs k = none := by
  have q := r.val k
  rw [h] at q
  cases e : valV kvs k with
  | none => rfl
  | some v => rw [e] at q; exact False.elim q
theorem atKey_some_val {H : Hp} {kvs : List (List Key × V)} {xs : List (List Key × Addr × Value)} (r : KT H kvs xs) {k : List Key} {p : Addr × Value} (h : atKey xs k = some p) : ∃ v, valV kvs k = some v ∧ RelV v p.2 := by
  have q := r.val k
  rw [h] at q
  cases e : valV kvs k with
  | none => rw [e] at q; exact False.elim q
  | some v => rw [e] at q; exact ⟨v, rfl, q⟩
def rSetdT : V → List V → Hp → VK → Prop := fun x vs H Q => ∃ (a b : Addr) (kvs : List (List Key × V)) (k : List Key) (v : V), x = .ref a ∧ vs = [.ref b, v] ∧ H a = some (.dT kvs) ∧ H b = some (.tup (k.map kV)) ∧ kvs.length < sizeLine ∧
  (∀ u, valV kvs k = some u → Q u H) ∧ (valV kvs k = none → Q v (upd H a (.dT (putK kvs k v))))
theorem mt_setdT {X : Cx} (hu : X.A.units + 1 < cLine) : MtR X "dict.setdefault" rSetdT := by
  intro pins s σ H x xs v us Q I rx rxs h
  obtain ⟨a, b, kvs, k, d, rfl, rfl, ha, hb, hl, q1, q2⟩ := h
  cases rx
  obtain ⟨u1, u2, rfl, r1, r2⟩ := vals2 rxs
  cases r1
  obtain ⟨z, hd, xs', rel, dd⟩ := dt_of I.hok ha
  have hz : xs'.length ≤ sizeLine := by rw [← Paired.length rel]; exact z
  refine call_meetsIn PySem.F.slot_dict_setdefault dd.typeIs PySem.F.entry_dict_setdefault (PySem.F.args_dict_setdefault_3 _ _ _) (meetsH_dict_setdefault (tupleKind (mixKind X.prog X.w)) a b hd u2)
    ⟨tupleKind_room_in1 hu, k, xs', key_of I.hok hb, dd, hz, fun p hp => ?_, fun hn h' dd' hs => ?_⟩
  · obtain ⟨v0, ev, rv⟩ := atKey_some_val rel hp
    show EP X pins σ Q p.2 _
    exact ⟨v0, H, I.tok _, rv, q1 v0 ev⟩
  · have ev := atKey_none_val rel hn
    have l2 : (putK kvs k d).length ≤ sizeLine := by have := length_putK kvs k d; omega
    obtain ⟨o, es, ep, hq, h2, h3, h4, _, h5⟩ := dd'
    have I2 : Inv X pins σ (upd H a (.dT (putK kvs k d))) { s with heap := h', toks := s.toks + (tupleKind (mixKind X.prog X.w)).draws k } :=
      d_write I (by rw [ha]; exact True.intro) hs ⟨o, hq⟩ ⟨l2, hd, _, (rel.put k hb r2).keeps (fun c ys ec => (by rw [upd_ne (ne_of ec ha (fun z => nomatch z))]; exact ec)), o, es, ep, hq, h2, h3, h4, h5⟩
    show EP X pins σ Q u2 _
    exact ⟨d, _, I2, r2, q2 ev⟩

/-! ### set(xs) of a list of hin, in the form that can be walked -/
abbrev nwS (w : World) : Obj := { cls := .type "set", dict := none, data := .set #[] 0 (.fresh 0 0 (!w.params.followText "set-order")) }
section
variable {P : Program} {w : World} {A : Around} {E : Value → Shared → Prop} {z : Shared}
/-- what the filling of the new set leaves behind -/
def Filled (w : World) (z : Shared) (ns : List Int) (r : Value) (y : Shared) : Prop :=
  r = .none ∧ ∃ hp tk m, y = { z with heap := hp, toks := tk } ∧ SetR w hp z.heap.objs.size (fun j => decide (j ∈ ns)) m ∧ m ≤ ns.length ∧ ∀ b o, z.heap.get? b = some o → hp.get? b = some o
theorem set_fill {l : Addr} {items : Array Value} (ns : List Int) (hh : A.handled = none) (hl : z.heap.IsList l items) (hin : IntsAre items.toList ns) (room : ns.length + 1 < scanBound) :
    codeAny (model P w) A (.call (.builtin "set.__init__") ⟨[.ref z.heap.objs.size, .ref l], []⟩) (wants (Filled w z ns) E) { z with heap := z.heap.push (nwS w) } := by
  have sz : items.size = ns.length := by simpa using hin.length
  have atS : (z.heap.push (nwS w)).get? z.heap.objs.size = some (nwS w) := Heap.get?_push_size _ rfl
  have ty : Shared.TypeIs { z with heap := z.heap.push (nwS w) } (.ref z.heap.objs.size) "set" := ⟨_, atS, rfl⟩
  refine codeAny_call_builtin (R := wants (Filled w z ns) E) F.called_set.init.plain F.entry_set_init (check_set_init_1 ty ?_)
  have lt : l < z.heap.objs.size := let ⟨_, e, _⟩ := hl; Heap.lt_size e
  have hl1 : (z.heap.push (nwS w)).IsList l items := hl.push _
  obtain ⟨ol, hol, hcl, nl, hdl⟩ := hl1
  have hl2 : (z.heap.push (nwS w)).IsList l items := ⟨ol, hol, hcl, nl, hdl⟩
  obtain ⟨ocls, odict, odata, oslots⟩ := ol
  cases (show ocls = _ from hcl)
  cases (show odata = _ from hdl)
  have k1 := F.sub_list_set
  have k2 := F.sub_list_frozenset
  have k3 : (Value.type "list" == Value.type "dict") = false := by decide
  unfold Builtin.«set.__init__» noKeywords Builtin.Frozenset.updateFrom
  generalize ePI : pyIter = PI
  wp_walk
  subst ePI
  refine wpAny_pyIter_list hl2 ?_
  refine wpAny_bind (wpAny_runValue ?_)
  have nI : l ≠ (z.heap.push (nwS w)).objs.size := by rw [Heap.size_push]; exact Nat.ne_of_lt (Nat.lt_succ_of_lt lt)
  have nS : z.heap.objs.size ∉ [(z.heap.push (nwS w)).objs.size, l] := by
    rw [Heap.size_push]
    simp only [List.mem_cons, List.not_mem_nil, or_false, not_or]
    exact ⟨Nat.ne_of_lt (Nat.lt_succ_self _), Nat.ne_of_gt lt⟩
  refine set_update_ints (Walks.list (by simp [hh]) _ l nI items).toS z.heap.objs.size nS ns sz room (fun i v hv => ?_) (items.size - 0) 0 _ (by omega) (by omega) ⟨⟨_, Heap.get?_push_size _ rfl, rfl, rfl⟩, hl2.push _⟩ ?_ fun y m mv hm R => ?_
  · have li : i < ns.length := by rw [← sz]; exact (Array.getElem?_eq_some_iff.mp hv).1
    obtain ⟨t, e⟩ := hin.int_at i v (by rw [Array.getElem?_toList]; exact hv)
    exact ⟨ns[i], t, List.getElem?_eq_getElem li, by rw [e, List.getD_eq_getElem?_getD, List.getElem?_eq_getElem li]; rfl⟩
  · exact ⟨0, Nat.le_refl 0, setR_new_at (Heap.get?_push_of_some _ atS)⟩
  · obtain ⟨hp, gg, dd, tk, oo⟩ := y
    cases (show gg = z.gens from mv.gens)
    cases (show dd = z.drawn from mv.drawn)
    cases (show oo = z.os from mv.os)
    refine wpAny_pure (wpAny_pure (show Filled w z ns _ _ from ⟨rfl, hp, tk, m, rfl, R, by omega, fun b o e => ?_⟩))
    have lb := Heap.lt_size e
    refine mv.heap b o ?_ (Heap.get?_push_of_some _ (Heap.get?_push_of_some _ e))
    rw [Heap.size_push]
    simp only [List.mem_cons, List.not_mem_nil, or_false, not_or]
    exact ⟨Nat.ne_of_lt lb, Nat.ne_of_lt (Nat.lt_succ_of_lt lb)⟩
/-- set(xs) -/
theorem set_lst {l : Addr} {items : Array Value} (ns : List Int) {Q : Value → Shared → Prop} (hh : A.handled = none) (hl : z.heap.IsList l items) (hin : IntsAre items.toList ns) (room : ns.length + 1 < scanBound)
    (k : ∀ hp tk m, SetR w hp z.heap.objs.size (fun j => decide (j ∈ ns)) m → m ≤ ns.length → (∀ b o, z.heap.get? b = some o → hp.get? b = some o) → Q (.ref z.heap.objs.size) { z with heap := hp, toks := tk }) :
    wpAny (model P w) A (call (.type "set") [.ref l]) Q E z := by
  obtain ⟨mc, mt, hmro⟩ := F.called_set.mro
  have g1 := F.called_set.made
  have g2 := F.called_set.sub
  have g3 := F.called_set.notType
  have g4 := F.called_set.canCreate
  have g5 := F.typeCall_set_1 (.ref l)
  refine wpAny_call (codeAny_of_tree (show wpAny _ _ (callAny (.type "set") _) _ _ _ from wpAny_pure ⟨Code.quiet_builtin _ (by decide +kernel), codeAny_builtin F.entry_type_call ?_⟩))
  rw [Around.under_plain (weight_type_call_type "set" [.ref l] []) rfl]
  repeat any_goals first | assumption | wp_step
  refine codeAny_mono (code_set_led1 (.ref l) (E := E) (Q₁ := fun o y => o = .ref z.heap.objs.size ∧ y = { z with heap := z.heap.push (nwS w) }) ⟨rfl, rfl⟩) fun r y hr => ?_
  rcases r with e | fl
  · exact hr
  cases fl with
  | ret o =>
    obtain ⟨rfl, rfl⟩ := hr
    have hS : (z.heap.push (nwS w)).get? z.heap.objs.size = some (nwS w) := Heap.get?_push_size _ rfl
    have hT : Shared.TypeIs { z with heap := z.heap.push (nwS w) } (.ref z.heap.objs.size) "set" := ⟨_, hS, rfl⟩
    have i1 := F.called_set.init.lookup
    have i2 := F.called_set.init.bind (.ref z.heap.objs.size)
    repeat any_goals first | assumption | wp_step
    refine codeAny_mono (set_fill ns hh hl hin room (E := E)) fun r2 y2 hr2 => ?_
    rcases r2 with e | fl2
    · exact hr2
    cases fl2 with
    | ret v =>
      obtain ⟨rfl, hp, tk, m, rfl, R, mn, kp⟩ := hr2
      repeat any_goals first | assumption | wp_step
      exact k hp tk m R mn kp
    | _ => exact False.elim hr2
  | _ => exact False.elim hr
end
def rSetOf (K : PySem.W.Frag) (w : World) : List V → Hp → VK → Prop := fun vs H Q => ∃ (l : Addr) (ns : List Int), vs = [.ref l] ∧ SqL K H l (ns.map V.int) ∧ ns.length ≤ 4000 ∧
  ∀ p m, m ≤ ns.length → H p = none → Q (.ref p) (upd H p (SetO w p (fun j => decide (j ∈ ns)) m))
theorem c_set {X : Cx} (hc : X.calm = true) : CallR X (.type "set") (rSetOf X.K X.w) := by
  intro pins s σ H vs us Q I r h
  obtain ⟨l, ns, rfl, hq, hb, q⟩ := h
  obtain ⟨its, rv, pl, _⟩ := I.list hq
  rw [Vals.ref1 r]
  have hl : its.length = ns.length := by rw [← rv.length, List.length_map]
  refine set_lst ns (I.ok.hd hc) pl.isList (by simpa using rv.ints) (by unfold scanBound; omega) fun hp tk m R mn kp => ?_
  have hn : H s.heap.objs.size = none := I.hok.fresh (Nat.le_refl _)
  exact ⟨.ref s.heap.objs.size, _, I.laid (t' := tk) kp (Nat.le_refl _) (setO_new R), rfl, q _ m mn hn⟩
section
variable {σ : Stt} {H : Hp} {Q : VK} {K : PySem.W.Frag} {w : World} {a : Addr} {ns : List Int}
theorem x_set (h : SqL K H a (ns.map V.int)) (hn : ns.length ≤ 4000) (k : ∀ p m, m ≤ ns.length → H p = none → Q (.ref p) (upd H p (SetO w p (fun j => decide (j ∈ ns)) m))) : rSetOf K w [.ref a] H Q := ⟨a, ns, rfl, h, hn, k⟩
/-- sorted of the set just made -/
theorem x_srtSet {m : Nat} (h : H a = some (SetO w a (fun j => decide (j ∈ ns)) m)) (hm : m < 64) (k : ∀ (ms : List Int) p, ms.Pairwise (· < ·) → (∀ x, x ∈ ms ↔ x ∈ ns) → H p = none → Q (.ref p) (upd H p (.lst (ms.map V.int)))) : rSortedSet w [.ref a] H Q :=
  ⟨a, _, m, rfl, h, hm, fun ms p s1 s2 _ hp => k ms p s1 (fun x => by rw [s2 x]; simp) hp⟩
theorem srt_unique {a b : List Int} (ha : a.Pairwise (· < ·)) (hb : b.Pairwise (· < ·)) (h : ∀ x, x ∈ a ↔ x ∈ b) : a = b := by
  have perm : a.Perm b := (List.perm_ext_iff_of_nodup (ha.imp fun h => by omega) (hb.imp fun h => by omega)).mpr h
  exact perm.eq_of_pairwise (le := (· ≤ ·)) (fun x y _ _ => Int.le_antisymm) (ha.imp Int.le_of_lt) (hb.imp Int.le_of_lt)
end

/-! ### C.m(x, ..): a def read off its class -/
structure CmX (G : En) (CX : CXT) (k : Nat) (x m : Str) (sp : Sp) (dvs : List V) : Prop where
  ex : ∃ (C f : Addr) (mc : Value) (fd : FuncData) (ps : List Str) (ds : List Value), G.mg x = some (.ref C) ∧ ClX.CRead G.K C mc ∧ ClX.CVal G.K C mc m (.ref f) (.ref f) ∧ PySem.W.keepIn G.K (.ref f) = true ∧ FnG G CX k f fd ps sp ∧ Binds G.K fd ps ds ∧ Vals dvs ds
abbrev CmG (G : En) (k : Nat) (x m : Str) (sp : Sp) (dvs : List V) : Prop := CmX G CX0 k x m sp dvs
def tCmQ (G : En) (j : Nat) (x m : Str) (t : TA) : TE := fun σ H Q => ∃ k sp dvs, CmG G k x m sp dvs ∧ k ≤ j ∧ t σ H fun vs H1 => sp (vs ++ dvs) H1 Q E0
section
variable {X : Cx} {e : Expr} {es : List Expr} {m x : Str} {p pos apos : Pos} {t : TA} {j : Nat}
theorem e_cm {pl : Sem Bool} (hr : Room j X.A) (hg : Gl X x) (ha : PA X (e :: es) t) (hdb : (x == ("__debug__" : Str)) = false := by decide)
    (hst : starEach (e :: es) X.env = (false, eval e X.env) :: starEach es X.env := by rfl) (hpl : (backTo pos (starEach es X.env)).any (·.1) = false := by rfl)
    (ht : eval (.Call (.Attribute (.Name x p) m apos) (e :: es) [] pos) X.env = (do
      let ov ← eval (.Name x p) X.env
      standAt apos.atName
      let (f, first) ← holding [ov] (getMethod ov m pl)
      callWith pos f first (backTo pos (starEach (e :: es) X.env)) (backToKw pos (keywordEach [] X.env))) := by rfl) :
    PE X (.Call (.Attribute (.Name x p) m apos) (e :: es) [] pos) (tCmQ (enOf X) j x m t) := by
  refine ⟨fun pins s σ H Q I h => ?_⟩
  obtain ⟨k, sp, dvs, c, hk, q⟩ := h
  obtain ⟨C, f, mc, fd, ps, ds, hm, rd, cv, kp, F, hb, hd⟩ := c.ex
  refine PySem.W.methodCall_KW (pl := pl) (thn ((e_cls (pos := p) hg hm hdb).run pins s σ H (fun v H1 => v = .ref C ∧ H1 = H) I ⟨rfl, rfl⟩) fun u s1 ⟨v, H1, I1, rx, ev, eH⟩ => ?_) ht
  subst ev eH
  obtain rfl : u = Value.ref C := rx
  refine PySem.W.method_cls I1.kIn rd.ga (ClX.getcval_ok I1 rd cv fun s2 I2 => ?_)
  refine PySem.W.callWith_K (first := []) (h₀ := X.base) I.ok.mod.kin kp (thn (ha.run pos pins s2 σ _ _ I2 q) fun us s3 ⟨vs, H2, I3, r, q2⟩ => ⟨I3.kIn, ?_⟩) hst hpl
  exact run_fn (us := us) (vs := vs) F (hr.mono hk) hb hd pass0 I3 r q2
end
/-! ### facts of the top, and a Bool of one's own -/
def obE (fa : List He.Fa) (fn : List He.DefD) (ex : PySem.W.Frag → Bool) (K : PySem.W.Frag) : He.AlD × Bool := (He.obsD fa fn K, ex K)
def obEG (n : Nat) (fa : List He.Fa) (fn : List He.DefD) (ex : PySem.W.Frag → Bool) (g : Addr → Option Obj) : He.AlD × Bool := obE fa fn ex (He.frG g (He.asD g n ++ [cStatics]))
def hookE (n : Nat) (fa : List He.Fa) (fn : List He.DefD) (ex : PySem.W.Frag → Bool) : PySem.W.Hook where
  α := He.AlD × Bool
  obs := fun s => obEG n fa fn ex s.heap.get?
  val := fun _ => (He.valD fn, true)
  says := fun _ h => ∃ K : PySem.W.Frag, K.In h ∧ He.SaysD fa fn K ∧ ex K = true
  of := fun _ _ e => ⟨_, He.frG_in, congrArg Prod.fst e, congrArg Prod.snd e⟩
  keeps := fun _ _ _ z k => z.elim fun K c => ⟨K, PySem.W.Frag.In.keeps c.1 k, c.2⟩
theorem obEG_eq {n : Nat} {fa : List He.Fa} {fn : List He.DefD} {ex : PySem.W.Frag → Bool} {g : Addr → Option Obj} {s : Shared} (h : ∀ a, g a = s.heap.get? a) : obEG n fa fn ex g = (hookE n fa fn ex).obs s := by
  rw [show g = s.heap.get? from funext h]; rfl
/-- the class x hands out its own def m -/
def cmB (K : PySem.W.Frag) (x m : Str) : Bool := PySem.W.readsIn K (He.ga K x) (.type "type") && (He.eqO (PySem.W.specialIn K (.ref (He.ga K x)) "__getattribute__") (some (some (.builtin "type.__getattribute__"))) &&
  (PySem.W.keepIn K (.ref (He.ma K (He.ga K x) m)) && match PySem.W.findCls K (.ref (He.ga K x)) (.type "type") m with
    | some (.val (.ref a)) => decide (a = He.ma K (He.ga K x) m)
    | _ => false))
structure CmK (K : PySem.W.Frag) (x m : Str) : Prop where
  rd : ClX.CRead K (He.ga K x) (.type "type")
  at_ : ClX.CVal K (He.ga K x) (.type "type") m (.ref (He.ma K (He.ga K x) m)) (.ref (He.ma K (He.ga K x) m))
  kp : PySem.W.keepIn K (.ref (He.ma K (He.ga K x) m)) = true
theorem cmB_ok {K : PySem.W.Frag} {x m : Str} (h : cmB K x m = true) : CmK K x m := by
  unfold cmB at h
  simp only [Bool.and_eq_true] at h
  obtain ⟨h1, h2, h3, h4⟩ := h
  refine ⟨⟨h1, He.eqO_ok h2⟩, ⟨?_, rfl⟩, h3⟩
  split at h4
  · rename_i a e
    rw [e, of_decide_eq_true h4]
  · cases h4

/-! ### dicts: readings with names -/
def DPutG (x y v : V) (H : Hp) (N : Hp → Prop) : Prop := ∃ a H4, x = .ref a ∧ DPut H a y v H4 ∧ N H4
def sDPutQ (td ty tv : TE) : TS := fun D σ H => tv σ H fun v H1 => td σ H1 fun x H2 => ty σ H2 fun y H3 => DPutG x y v H3 (D.nx σ)
def D2bG (a : Addr) (y z : V) (H : Hp) (Q : VK) : Prop := ∃ o, DGet H a y o ∧ Q (o.getD z) H
def D2aG (ty tx : TE) (σ : Stt) (Q : VK) (x : V) (H1 : Hp) : Prop := ∃ a, x = .ref a ∧ IsD H1 a ∧ ty σ H1 fun y H2 => tx σ H2 fun z H3 => D2bG a y z H3 Q
def tDGet2Q (td ty tx : TE) : TE := fun σ H Q => td σ H fun x H1 => D2aG ty tx σ Q x H1
def DInG (n : Bool) (y x : V) (H : Hp) (Q : VK) : Prop := ∃ a o, x = .ref a ∧ DGet H a y o ∧ Q (.bl (if n then !o.isSome else o.isSome)) H
def tDInQ (ty td : TE) : TE := fun σ H Q => ty σ H fun y H1 => td σ H1 fun x H2 => DInG false y x H2 Q
def tDNotInQ (ty td : TE) : TE := fun σ H Q => ty σ H fun y H1 => td σ H1 fun x H2 => DInG true y x H2 Q
def LockG (t : TE) (σ : Stt) (H : Hp) (Q : VK) : Prop := ∃ d u, H d = some u ∧ Mut (some u) ∧ ∀ od, t σ (upd H d (.frz od u)) fun v H' => H' d = some (.frz od u) ∧ Q v (upd H' d u)
def tLockQ (t : TE) : TE := fun σ H Q => LockG t σ H Q
def KeysG (x : V) (H1 : Hp) (R : It → Hp → Prop) : Prop := ∃ d o, x = .ref d ∧ ((∃ kvs, H1 d = some (.frz o (.dK kvs)) ∧ R (Itk d o kvs) H1) ∨ ∃ kvs, H1 d = some (.frz o (.dT kvs)) ∧ R (Itkt d o kvs) H1)
def iKeysQ (td : TE) : TI := fun σ H R => td σ H fun x H1 => KeysG x H1 R
section
variable {X : Cx} {o i e f a value : Expr} {p pos pos' apos cpos : Pos} {td ty tx tv t : TE} {tg : Expr}
theorem s_dput (hu : X.A.units + 1 < cLine) (ho : PE X o td) (hi : PE X i ty) (hv : PE X value tv) (hs : swapsWith value (some (.Subscript o i pos')) pos.line X.env = pure false := by rfl) : PS X (.Assign [.Subscript o i pos'] value pos) (sDPutQ td ty tv) := ps_dput hu ho hi hv hs
theorem e_dget2 (hu : X.A.units + 1 < cLine) (ho : PE X o td) (he : PE X e ty) (hf : PE X f tx) (m : M2 X o "get" apos e f cpos) : PE X (.Call (.Attribute o "get" apos) [e, f] [] cpos) (tDGet2Q td ty tx) := pe_dget2 hu ho he hf m
theorem e_lock (h : PE X e t) : PE X e (tLockQ t) := pe_lock h
theorem i_keysQ (he : PE X e td) : PI X tg e (iKeysQ td) := pi_keys he
theorem op_isBQ : OpR X (compareOp .Is) rIsB := op_isBl
end
section
variable {σ : Stt} {H : Hp} {Q : VK} {K : PySem.W.Frag} {G : En} {td ty tx tv t te : TE} {x y v z : V} {D : Ends} {a b d : Addr} {tl : TA} {j : Nat} {m : Str}
theorem x_sdput (k : tv σ H fun v H1 => td σ H1 fun x H2 => ty σ H2 fun y H3 => DPutG x y v H3 (D.nx σ)) : sDPutQ td ty tv D σ H := k
theorem x_dputT {N : Hp → Prop} {kvs : List (List Key × V)} {ks : List Key} (h : H a = some (.dT kvs)) (hb : H b = some (.tup (ks.map kV))) (hl : kvs.length < 100000) (k : N (upd H a (.dT (putK kvs ks v)))) : DPutG (.ref a) (.ref b) v H N :=
  ⟨a, _, rfl, DPut.t h hb (Nat.lt_of_lt_of_le hl (by decide)), k⟩
theorem x_dputI {N : Hp → Prop} {kvs : List (Key × V)} {i : Int} (h : H a = some (.dK kvs)) (hl : kvs.length < 100000) (k : N (upd H a (.dK (putK kvs (.inl i) v)))) : DPutG (.ref a) (.int i) v H N :=
  ⟨a, _, rfl, DPut.k (k := .inl i) h (Nat.lt_of_lt_of_le hl (by decide)), k⟩
theorem dgT {o : Option V} {kvs : List (List Key × V)} {ks : List Key} (h : Rd H a (.dT kvs)) (hb : H b = some (.tup (ks.map kV))) (e : valV kvs ks = o) : DGet H a (.ref b) o := .inr ⟨kvs, ks, b, h, rfl, hb, e.symm⟩
theorem dgK {o : Option V} {kvs : List (Key × V)} {i : Int} (h : Rd H a (.dK kvs)) (e : valV kvs (.inl i) = o) : DGet H a (.int i) o := .inl ⟨kvs, .inl i, h, rfl, e.symm⟩
theorem x_dgetT {kvs : List (List Key × V)} {ks : List Key} (h : H a = some (.dT kvs)) (hb : H b = some (.tup (ks.map kV))) (e : valV kvs ks = some v) (k : Q v H) : DGetG (.ref a) (.ref b) H Q := ⟨a, v, rfl, dgT (.inl h) hb e, k⟩
theorem x_dgetF {kvs : List (List Key × V)} {ks : List Key} {o : Obj} (h : H a = some (.frz o (.dT kvs))) (hb : H b = some (.tup (ks.map kV))) (e : valV kvs ks = some v) (k : Q v H) : DGetG (.ref a) (.ref b) H Q := ⟨a, v, rfl, dgT (.inr ⟨o, h⟩) hb e, k⟩
theorem x_dgetI {kvs : List (Key × V)} {i : Int} (h : H a = some (.dK kvs)) (e : valV kvs (.inl i) = some v) (k : Q v H) : DGetG (.ref a) (.int i) H Q := ⟨a, v, rfl, dgK (.inl h) e, k⟩
theorem x_dget2 (k : td σ H fun x H1 => D2aG ty tx σ Q x H1) : tDGet2Q td ty tx σ H Q := k
theorem x_d2aT {kvs : List (List Key × V)} (h : H a = some (.dT kvs)) (k : ty σ H fun y H2 => tx σ H2 fun z H3 => D2bG a y z H3 Q) : D2aG ty tx σ Q (.ref a) H := ⟨a, rfl, .inr ⟨kvs, .inl h⟩, k⟩
theorem x_d2aK {kvs : List (Key × V)} (h : H a = some (.dK kvs)) (k : ty σ H fun y H2 => tx σ H2 fun z H3 => D2bG a y z H3 Q) : D2aG ty tx σ Q (.ref a) H := ⟨a, rfl, .inl ⟨kvs, .inl h⟩, k⟩
theorem x_d2bT {o : Option V} {kvs : List (List Key × V)} {ks : List Key} (h : H a = some (.dT kvs)) (hb : H b = some (.tup (ks.map kV))) (e : valV kvs ks = o) (k : Q (o.getD z) H) : D2bG a (.ref b) z H Q := ⟨o, dgT (.inl h) hb e, k⟩
theorem x_lock {u : HO} (d : Addr) (h : H d = some u) (mu : Mut (some u)) (k : ∀ od, t σ (upd H d (.frz od u)) fun v H' => H' d = some (.frz od u) ∧ Q v (upd H' d u)) : tLockQ t σ H Q := ⟨d, u, h, mu, k⟩
theorem unlock_fr {H' : Hp} {u : HO} {od : Obj} (h : H d = some u) (nt : noTup u) (f : Fr F0 (upd H d (.frz od u)) H') : Fr F0 H (upd H' d u) :=
  ⟨fun b o e n => by
    by_cases c : b = d
    · rw [c, h] at e; rw [c, ← e]; exact upd_same
    · exact upd_at (f.keep b o (upd_at e c) n) c, fun b xs e => by
    by_cases c : b = d
    · rw [c, h] at e; cases e; exact nt.elim
    · exact upd_at (f.tup b xs (upd_at e c)) c, fun b e => upd_dom (f.dom b (upd_dom e))⟩
theorem x_keys {R : It → Hp → Prop} {kvs : List (List Key × V)} {o : Obj} (h : H d = some (.frz o (.dT kvs))) (k : R (Itkt d o kvs) H) : KeysG (.ref d) H R := ⟨d, o, rfl, .inr ⟨kvs, h, k⟩⟩
theorem x_ikeys {R : It → Hp → Prop} (k : td σ H fun x H1 => KeysG x H1 R) : iKeysQ td σ H R := k
theorem x_ivals {R : It → Hp → Prop} (k : td σ H fun x H1 => ItvG x H1 R) : iValsTQ td σ H R := k
theorem x_vals {R : It → Hp → Prop} {kvs : List (List Key × V)} {o : Obj} (h : H d = some (.frz o (.dT kvs))) (k : R (ItvT d o kvs) H) : ItvG (.ref d) H R := ⟨d, o, kvs, rfl, h, k⟩
theorem x_isBl {p q : Bool} (k : Q (.bl (decide (p = q))) H) : rIsB (.bl p) (.bl q) H Q := ⟨p, q, rfl, rfl, k⟩
theorem x_bmD {r : V → List V → Hp → VK → Prop} {kvs : List (List Key × V)} (h : H a = some (.dT kvs)) (k : tl σ H fun ys H2 => r (.ref a) ys H2 Q) : BmG K "dict" r tl σ (.ref a) H Q := ⟨.inr (.inr (.inl ⟨rfl, .inr ⟨kvs, h⟩⟩)), k⟩
theorem x_cm {j k : Nat} {x : Str} {sp : Sp} {dvs : List V} (c : CmG G k x m sp dvs) (hk : k ≤ j) (q : tl σ H fun vs H1 => sp (vs ++ dvs) H1 Q E0) : tCmQ G j x m tl σ H Q := ⟨k, sp, dvs, c, hk, q⟩
-- in a list
theorem inV_int (i : Int) : ∀ ns : List Int, inV (.int i) (ns.map V.int) = decide (i ∈ ns)
  | [] => by simp [inV]
  | n :: ns => by
    have ih := inV_int i ns
    unfold inV at ih ⊢
    rw [List.map_cons, List.any_cons, ih]
    have : eqV (V.int n) (V.int i) = decide (i = n) := by
      show decide _ = _
      by_cases h : i = n
      · simp [h]
      · have : ¬ n = i := fun z => h z.symm
        simp [h, this]
    rw [this]
    by_cases h : i = n <;> simp [h]
theorem x_inI {i : Int} {ns : List Int} (h : H a = some (.lst (ns.map V.int))) (k : Q (.bl (decide (i ∈ ns))) H) : rIn K false (.int i) (.ref a) H Q :=
  ⟨a, _, rfl, .inl (SqL.of h), rfl, List.all_eq_true.mpr fun x hx => by obtain ⟨n, _, rfl⟩ := List.mem_map.mp hx; rfl, by rw [if_neg (by simp), inV_int]; exact k⟩
/-! ### walks over a finite iterator that changes nothing -/
theorem lc_it {J : It} {g : TG} {tt : TT} {ws : List Nat} {H1 : Hp} (n : Nat) (Item : Nat → V → Hp → Prop) (Pv : Addr → Nat → Hp → Prop) (h0 : ∀ Dd, H1 Dd = none → Pv Dd 0 (upd H1 Dd (.lst [])))
    (hg : ∀ Dd i H, H1 Dd = none → i < n → Pv Dd i H → J.go i H) (hst : ∀ Dd H, H1 Dd = none → Pv Dd n H → J.stop n H) (hy : ∀ i H x H', J.yld i H x H' → H' = H ∧ Item i x H)
    (hs : ∀ Dd i x H, H1 Dd = none → i < n → Item i x H → Pv Dd i H → g x (wipe σ ws) H fun σ2 H2 => wipe σ2 ws = wipe σ ws ∧ tt σ2 H2 fun b H3 => if b = true then te σ2 H3 fun y H4 => ∃ acc, H4 Dd = some (.lst acc) ∧ acc.length < sizeLine ∧ Pv Dd (i + 1) (upd H4 Dd (.lst (acc ++ [y]))) else Pv Dd (i + 1) H3)
    (hd : ∀ Dd H, H1 Dd = none → Pv Dd n H → Q (.ref Dd) H) : LcG g tt te ws σ Q J H1 := fun Dd hD => by
  refine ⟨fun i m H => m = n - i ∧ i ≤ n ∧ Pv Dd i H, ⟨n, by omega, by omega, h0 Dd hD⟩, ?_⟩
  rintro i m H ⟨rfl, hi, p⟩
  by_cases lt : i < n
  · refine .inr ⟨hg Dd i H hD lt p, Pv Dd (i + 1), fun H' p' => ⟨n - (i + 1), by omega, rfl, lt, p'⟩, fun x H' y => ?_⟩
    obtain ⟨rfl, it⟩ := hy i H x H' y
    exact hs Dd i x _ hD lt it p
  · have e : i = n := by omega
    subst e
    exact .inl ⟨hst Dd H hD p, hd Dd H hD p⟩
/-- test and element only allocate; the element is what vf says, or is like it -/
theorem lc_itP {J : It} {g : TG} {tt : TT} {ws : List Nat} {H1 : Hp} (n : Nat) (Item : Nat → V → Hp → Prop) (bf : Nat → Bool) (Like : Nat → V → Hp → Prop) (hn : n ≤ 100000)
    (hL : ∀ i v H H', Like i v H → Fr F0 H1 H → (∀ b xs, H b = some (.tup xs) → H' b = some (.tup xs)) → Like i v H')
    (hg : ∀ i H, i < n → Fr F0 H1 H → J.go i H) (hst : ∀ H, Fr F0 H1 H → J.stop n H) (hy : ∀ i H x H', J.yld i H x H' → H' = H ∧ Item i x H)
    (hs : ∀ i x H (Kv : V → Hp → Prop) (Kn : Hp → Prop), i < n → Item i x H → Fr F0 H1 H → (bf i = true → ∀ v H', Fr F0 H H' → Like i v H' → Kv v H') → (bf i = false → ∀ H', Fr F0 H H' → Kn H') →
      g x (wipe σ ws) H fun σ2 H2 => wipe σ2 ws = wipe σ ws ∧ tt σ2 H2 fun b H3 => if b = true then te σ2 H3 Kv else Kn H3)
    (hd : ∀ Dd H (xs : List V), H1 Dd = none → Fr F0 H1 H → H Dd = some (.lst xs) → Paired (fun v i => Like i v H) xs ((List.range n).filter bf) → Q (.ref Dd) H) : LcG g tt te ws σ Q J H1 := by
  refine lc_it n Item (fun Dd i H => ∃ xs : List V, Made H1 Dd xs H ∧ Paired (fun v i => Like i v H) xs ((List.range i).filter bf)) (fun Dd hD => ⟨[], ⟨.new hD, upd_same⟩, .nil⟩) (fun Dd i H hD hi p => ?_) (fun Dd H hD p => ?_) hy (fun Dd i x H hD hi it p => ?_) (fun Dd H hD p => ?_)
  · obtain ⟨xs, m, _⟩ := p; exact hg i H hi m.1
  · obtain ⟨xs, m, _⟩ := p; exact hst H m.1
  · obtain ⟨xs, ⟨p1, p2⟩, pr⟩ := p
    have lift : ∀ {H' : Hp} {l : List Nat}, Fr F0 H1 H → (∀ b ys, H b = some (.tup ys) → H' b = some (.tup ys)) → Paired (fun v i => Like i v H) xs l → Paired (fun v i => Like i v H') xs l := fun f k q => Paired.mapP q fun v i z => hL i v _ _ z f k
    have ln : xs.length ≤ i := by rw [Paired.length pr]; exact Nat.le_trans (List.length_filter_le _ _) (by simp)
    refine hs i x H (fun y H4 => ∃ acc, H4 Dd = some (.lst acc) ∧ acc.length < sizeLine ∧ ∃ xs : List V, Made H1 Dd xs (upd H4 Dd (.lst (acc ++ [y]))) ∧ Paired (fun v j => Like j v (upd H4 Dd (.lst (acc ++ [y])))) xs ((List.range (i + 1)).filter bf)) (fun H3 => ∃ xs : List V, Made H1 Dd xs H3 ∧ Paired (fun v j => Like j v H3) xs ((List.range (i + 1)).filter bf)) hi it p1 (fun hb v H' f lk => ?_) (fun hb H' f => ?_)
    · refine ⟨xs, f.at0 p2, Nat.lt_of_le_of_lt ln (Nat.lt_of_lt_of_le hi (sl1000 hn)), xs ++ [v], ⟨(p1.trans f).then_put_new hD, upd_same⟩, ?_⟩
      have kt : ∀ b ys, H' b = some (.tup ys) → upd H' Dd (.lst (xs ++ [v])) b = some (.tup ys) := fun b ys e => upd_at e (fun z => by rw [z, f.at0 p2] at e; cases e)
      rw [List.range_succ, List.filter_append, List.filter_cons_of_pos (by simpa using hb)]
      exact Paired.snoc (lift p1 (fun b ys e => kt b ys (f.tup b ys e)) pr) (hL i v _ _ lk (p1.trans f) kt)
    · refine ⟨xs, ⟨p1.trans f, f.at0 p2⟩, ?_⟩
      rw [List.range_succ, List.filter_append, List.filter_cons_of_neg (by simpa using hb), List.filter_nil, List.append_nil]
      exact lift p1 f.tup pr
  · obtain ⟨xs, m, pr⟩ := p; exact hd Dd H xs hD m.1 m.2 pr
/-- sorted pairs of ints that stand in their order -/
theorem x_srtP {k : V → Int × Int} {xs : List V} (h : H a = some (.lst xs)) (hp : ∀ x ∈ xs, ∃ t, x = V.ref t ∧ H t = some (.tup [.int (k x).1, .int (k x).2])) (so : SrtO.Srtd (ltP k) xs)
    (kk : ∀ p, H p = none → Q (.ref p) (upd H p (.lst xs))) : rSortedPO K [.ref a] H Q := by
  refine ⟨a, xs, k, rfl, SqL.of h, hp, fun ys p s1 s2 hn => ?_⟩
  rw [SrtO.stb_uniq (ltP_swo k) s1 so s2]
  exact kk p hn
end
theorem hu_of {k : Nat} {A : Around} (hr : Room k A) : A.units + 1 < cLine := by have := hr.units; omega

/-! ### lists by functions -/
section
variable {α β : Type} {n i : Nat}
theorem rg_ix (f : Nat → β) (h : i < n) : ((List.range n).map f)[i]? = some (f i) := by
  rw [List.getElem?_map, List.getElem?_range h]; rfl
theorem rg_set (f : Nat → β) (v : β) : ((List.range n).map f).set i v = (List.range n).map fun j => if j = i then v else f j := by
  refine List.ext_getElem? fun k => ?_
  by_cases c : k < n
  · by_cases e : i = k
    · subst e
      rw [List.getElem?_set_self (by simpa using c), rg_ix _ c, if_pos rfl]
    · rw [List.getElem?_set_ne e, rg_ix _ c, rg_ix _ c, if_neg fun z => e z.symm]
  · rw [List.getElem?_eq_none (by simpa using c), List.getElem?_eq_none (by simpa using c)]
theorem rg_set' {f g : Nat → β} {v : β} (h : ∀ j, j < n → g j = if j = i then v else f j) : ((List.range n).map f).set i v = (List.range n).map g := by
  rw [rg_set]
  exact List.map_congr_left fun j hj => (h j (List.mem_range.mp hj)).symm
end
def fset {α : Type} (f : Nat → α) (i : Nat) (v : α) : Nat → α := fun j => if j = i then v else f j
theorem fset_same {α : Type} {f : Nat → α} {i : Nat} {v : α} : fset f i v i = v := if_pos rfl
theorem fset_ne {α : Type} {f : Nat → α} {i j : Nat} {v : α} (h : j ≠ i) : fset f i v j = f j := if_neg h
def fset2 {α : Type} (f : Nat → Nat → α) (i j : Nat) (v : α) : Nat → Nat → α := fun a b => if a = i ∧ b = j then v else f a b
theorem fset2_same {α : Type} {f : Nat → Nat → α} {i j : Nat} {v : α} : fset2 f i j v i j = v := if_pos ⟨rfl, rfl⟩
theorem fset2_ne {α : Type} {f : Nat → Nat → α} {i j a b : Nat} {v : α} (h : ¬ (a = i ∧ b = j)) : fset2 f i j v a b = f a b := if_neg h
/-! ### data that never change -/
mutual
inductive At (H : Hp) : V → PyData → Prop
  | non : At H .non .none
  | bl (b : Bool) : At H (.bl b) (.bool b)
  | int (i : Int) : At H (.int i) (.int i)
  | str (s : Str) : At H (.str s) (.str s)
  | tup {a : Addr} {vs : List V} {ds : List PyData} : H a = some (.tup vs) → AtAll H vs ds → At H (.ref a) (.tuple ds)
inductive AtAll (H : Hp) : List V → List PyData → Prop
  | nil : AtAll H [] []
  | cons {v : V} {vs : List V} {d : PyData} {ds : List PyData} : At H v d → AtAll H vs ds → AtAll H (v :: vs) (d :: ds)
end
mutual
theorem At.keep {H H' : Hp} (k : ∀ b xs, H b = some (.tup xs) → H' b = some (.tup xs)) : ∀ {v : V} {d : PyData}, At H v d → At H' v d
  | _, _, .non => .non
  | _, _, .bl b => .bl b
  | _, _, .int i => .int i
  | _, _, .str s => .str s
  | _, _, .tup h a => .tup (k _ _ h) (AtAll.keep k a)
theorem AtAll.keep {H H' : Hp} (k : ∀ b xs, H b = some (.tup xs) → H' b = some (.tup xs)) : ∀ {vs : List V} {ds : List PyData}, AtAll H vs ds → AtAll H' vs ds
  | _, _, .nil => .nil
  | _, _, .cons h t => .cons (At.keep k h) (AtAll.keep k t)
end
mutual
theorem At.dp {K : PySem.W.Frag} {H : Hp} : ∀ {v : V} {d : PyData}, At H v d → Dp K H v d
  | _, _, .non => .non
  | _, _, .bl b => .bl b
  | _, _, .int i => .int i
  | _, _, .str s => .str s
  | _, _, .tup h a => .tup (SqT.of h) (AtAll.dp a)
theorem AtAll.dp {K : PySem.W.Frag} {H : Hp} : ∀ {vs : List V} {ds : List PyData}, AtAll H vs ds → DpAll K H vs ds
  | _, _, .nil => .nil
  | _, _, .cons h t => .cons (At.dp h) (AtAll.dp t)
end
theorem At.fr {F : Addr → Prop} {H H' : Hp} {v : V} {d : PyData} (h : At H v d) (f : Fr F H H') : At H' v d := h.keep f.tup
theorem AtAll.fr {F : Addr → Prop} {H H' : Hp} {vs : List V} {ds : List PyData} (h : AtAll H vs ds) (f : Fr F H H') : AtAll H' vs ds := h.keep f.tup
theorem AtAll.len {H : Hp} : ∀ {vs : List V} {ds : List PyData}, AtAll H vs ds → vs.length = ds.length
  | _, _, .nil => rfl
  | _, _, .cons _ t => congrArg (· + 1) t.len
theorem AtAll.snoc {H : Hp} {v : V} {d : PyData} (h : At H v d) : ∀ {vs : List V} {ds : List PyData}, AtAll H vs ds → AtAll H (vs ++ [v]) (ds ++ [d])
  | _, _, .nil => .cons h .nil
  | _, _, .cons a t => .cons a (t.snoc h)
theorem AtAll.get {H : Hp} : ∀ {vs : List V} {ds : List PyData} {i : Nat} {v : V}, AtAll H vs ds → vs[i]? = some v → ∃ d, ds[i]? = some d ∧ At H v d
  | _ :: _, _ :: _, 0, _, .cons h _, e => by
    simp only [List.getElem?_cons_zero, Option.some.injEq] at e
    subst e
    exact ⟨_, rfl, h⟩
  | _ :: _, _ :: _, i + 1, _, .cons _ t, e => t.get (i := i) (by simpa using e)
theorem At.tup2 {H : Hp} {v : V} {d e : PyData} (h : At H v (.tuple [d, e])) : ∃ a x y, v = .ref a ∧ H a = some (.tup [x, y]) ∧ At H x d ∧ At H y e := by
  cases h with
  | tup h a =>
    cases a with
    | cons h1 a => cases a with
      | cons h2 a => cases a with
        | nil => exact ⟨_, _, _, rfl, h, h1, h2⟩
theorem At.str_eq {H : Hp} {v : V} {s : Str} (h : At H v (.str s)) : v = .str s := by cases h; rfl
theorem At.int_eq {H : Hp} {v : V} {i : Int} (h : At H v (.int i)) : v = .int i := by cases h; rfl
theorem At.non_eq {H : Hp} {v : V} (h : At H v .none) : v = .non := by cases h; rfl
/-! ### letters -/
abbrev Lt := Str × PyData
def ltD (l : Lt) : PyData := .tuple [.str l.1, l.2]
structure LtOk (l : Lt) : Prop where
  lay : (ltD l).canLay0 = true
  dep : (ltD l).depth ≤ 15
  work : l.1 = "work" → ∃ x e, l.2 = .tuple [.int x, e]
theorem lay_ltD {l : List Lt} (h : ∀ x ∈ l, LtOk x) : PyData.canLayAll0 (l.map ltD) = true := by
  induction l with
  | nil => rfl
  | cons x l ih => rw [List.map_cons, PyData.canLayAll0, (h x List.mem_cons_self).lay, ih fun y hy => h y (List.mem_cons_of_mem _ hy)]; rfl
theorem dep_ltD {l : List Lt} (h : ∀ x ∈ l, LtOk x) : PyData.depthAll (l.map ltD) ≤ 15 := by
  induction l with
  | nil => exact Nat.zero_le _
  | cons x l ih => rw [List.map_cons, PyData.depthAll]; exact Nat.max_le.mpr ⟨(h x List.mem_cons_self).dep, ih fun y hy => h y (List.mem_cons_of_mem _ hy)⟩
theorem shaped_ltD {l : List Lt} (h : ∀ x ∈ l, LtOk x) : SeqAt.shaped (.list (l.map ltD)) = true := by
  unfold SeqAt.shaped
  rw [PyData.canLay0, lay_ltD h]
  refine (Bool.true_and _).trans (decide_eq_true ?_)
  rw [PyData.depth]
  have := dep_ltD h
  omega
section
variable {H : Hp} {Q : VK} {K : PySem.W.Frag} {a b : Addr} {vs : List V} {l : List Lt}
theorem eqv_nilL : ∀ {l : List Lt}, PyData.eqvAll (l.map ltD) [] = decide (l = [])
  | [] => by simp [PyData.eqvAll]
  | x :: l => by simp [PyData.eqvAll]
theorem x_eqRow (ha : H a = some (.lst vs)) (hl : AtAll H vs (l.map ltD)) (ok : ∀ x ∈ l, LtOk x) (hb : H b = some (.lst [])) (k : Q (.bl (decide (l = []))) H) : rEqD K (.ref a) (.ref b) H Q := by
  refine ⟨_, _, .lst (SqL.of ha) hl.dp, .lst (SqL.of hb) .nil, shaped_ltD ok, by decide +kernel, ?_⟩
  rw [PyData.eqv, eqv_nilL]; exact k
theorem x_neRow (ha : H a = some (.lst vs)) (hl : AtAll H vs (l.map ltD)) (ok : ∀ x ∈ l, LtOk x) (hb : H b = some (.lst [])) (k : Q (.bl (!decide (l = []))) H) : rNeD K (.ref a) (.ref b) H Q := by
  refine ⟨_, _, .lst (SqL.of ha) hl.dp, .lst (SqL.of hb) .nil, shaped_ltD ok, by decide +kernel, ?_⟩
  rw [PyData.eqv, eqv_nilL]; exact k
end
/-! ### a dict of pairs -/
def prK (n : Nat) (rws : Nat → Nat → Addr) (m : Nat) : List (List Key × V) := (List.range m).map fun t => ([.inl ((t / n : Nat) : Int), .inl ((t % n : Nat) : Int)], .ref (rws (t / n) (t % n)))
theorem prK_key {n : Nat} (rws : Nat → Nat → Addr) {i j : Nat} (hj : j < n) : ∀ m : Nat, valV (prK n rws m) [.inl (i : Int), .inl (j : Int)] = if i * n + j < m then some (.ref (rws i j)) else none
  | 0 => by simp [prK, valV]
  | m + 1 => by
    have ih := prK_key rws (i := i) hj m
    have e : prK n rws (m + 1) = prK n rws m ++ [([.inl ((m / n : Nat) : Int), .inl ((m % n : Nat) : Int)], .ref (rws (m / n) (m % n)))] := by
      unfold prK; rw [List.range_succ, List.map_append]; rfl
    rw [e]
    unfold valV at ih ⊢
    rw [List.find?_append]
    by_cases c : i * n + j < m
    · rw [if_pos c] at ih
      rw [if_pos (by omega)]
      cases q : (prK n rws m).find? (fun kv => decide (kv.1 = [.inl (i : Int), .inl (j : Int)])) with
      | none => rw [q] at ih; cases ih
      | some p => rw [q] at ih; exact ih
    · rw [if_neg c] at ih
      cases q : (prK n rws m).find? (fun kv => decide (kv.1 = [.inl (i : Int), .inl (j : Int)])) with
      | some p => rw [q] at ih; cases ih
      | none =>
        rw [Option.none_or, List.find?_cons]
        have dm := Nat.div_add_mod m n
        by_cases e2 : i * n + j = m
        · have e3 : m / n = i := by rw [← e2, Nat.mul_comm, Nat.mul_add_div (by omega), Nat.div_eq_of_lt hj, Nat.add_zero]
          have e4 : m % n = j := by rw [← e2, Nat.mul_comm, Nat.mul_add_mod, Nat.mod_eq_of_lt hj]
          rw [e3, e4, if_pos (by omega)]
          simp
        · rw [if_neg (by omega)]
          have : ¬ (m / n = i ∧ m % n = j) := by
            rintro ⟨rfl, rfl⟩
            rw [Nat.mul_comm] at e2
            omega
          have hne : decide (([.inl ((m / n : Nat) : Int), .inl ((m % n : Nat) : Int)] : List Key) = [.inl (i : Int), .inl (j : Int)]) = false := by
            refine decide_eq_false fun z => this ?_
            simp only [List.cons.injEq, Sum.inl.injEq, and_true] at z
            omega
          simp only [hne]
          simp
theorem prK_put {n : Nat} {rws : Nat → Nat → Addr} {i j : Nat} (hj : j < n) : putK (prK n rws (i * n + j)) [.inl (i : Int), .inl (j : Int)] (.ref (rws i j)) = prK n rws (i * n + j + 1) := by
  have h := prK_key rws (i := i) hj (i * n + j)
  rw [if_neg (by omega)] at h
  rw [putK_new _ h]
  have e3 : (i * n + j) / n = i := by rw [Nat.mul_comm, Nat.mul_add_div (by omega), Nat.div_eq_of_lt hj, Nat.add_zero]
  have e4 : (i * n + j) % n = j := by rw [Nat.mul_comm, Nat.mul_add_mod, Nat.mod_eq_of_lt hj]
  unfold prK
  rw [List.range_succ, List.map_append, List.map_singleton, e3, e4]
theorem prK_len {n m : Nat} {rws : Nat → Nat → Addr} : (prK n rws m).length = m := by simp [prK]
def natV (i : Nat) : V := .int (i : Int)
theorem gD {α : Type} {xs : List α} {i : Nat} {x d : α} (h : xs[i]? = some x) : xs.getD i d = x := by rw [List.getD_eq_getElem?_getD, h]; rfl
theorem x_dnew {σ : Stt} {H : Hp} {Q : VK} (k : ∀ p, H p = none → Q (.ref p) (upd H p (.dT []))) : tDNewT σ H Q := k
theorem Fr.backx {H H' : Hp} {x b : Addr} {o : HO} (f : Fr (fun b => b = x) H H') (hx : H' x = some o) (hb : H' b = none) : H b = none := f.back (fun z => by rw [z, hx] at hb; cases hb) hb

/-! ### a net: what it holds, where -/
structure NS (X : Type) where
  up : Nat → Bool
  pu : Nat → Int
  rw : Nat → Nat → List Lt
  x : X
def netMeths : List Str := (["look_hand", "look_way", "put", "mark", "after_rest", "after_work", "after_control", "before_work", "send", "rest", "come", "awake", "purse", "on_way", "loads"] : List Str) ++ (["ways", "letters", "quiet", "leave", "told", "missing", "tree", "pass_on", "token", "colour", "more_sent", "look_home", "share", "shares_on", "see"] : List Str) ++ (["begin", "is_seen", "picture", "total", "ask", "answer", "add_up", "round_sums", "unanswered"] : List Str)
structure NL (X : Type) where
  n : Nat
  C : Addr
  dx : Addr
  root : Addr
  lu : Addr
  lp : Addr
  dr : Addr
  rws : Nat → Nat → Addr
  xf : X → List (Str × V)
  xc : X → List (Addr × HO)
  xk : X → Hp → Prop
  nt : ∀ x p, p ∈ xc x → noTup p.2
  nm : ∀ x m, m ∈ netMeths → (xf x).lookup m = none
  kp : ∀ x H H', xk x H → (∀ b xs, H b = some (.tup xs) → H' b = some (.tup xs)) → xk x H'
section
variable {X : Type}
/-- all addresses of its own -/
def NM (L : NL X) (S : NS X) : Addr → Prop := fun b => b = L.root ∨ b = L.lu ∨ b = L.lp ∨ b = L.dr ∨ (∃ i j, i < L.n ∧ j < L.n ∧ b = L.rws i j) ∨ ∃ p ∈ L.xc S.x, b = p.1
abbrev NL.fs (L : NL X) (x : X) : List (Str × V) := ("many", .int L.n) :: ("up", .ref L.lu) :: ("purses", .ref L.lp) :: ("rows", .ref L.dr) :: L.xf x
theorem NL.look {L : NL X} {x : X} {m : Str} (h : (netMeths.contains m && !(["many", "up", "purses", "rows"] : List Str).contains m) = true) : (L.fs x).lookup m = none := by
  simp only [Bool.and_eq_true, List.contains_eq_mem, decide_eq_true_eq, Bool.not_eq_true', decide_eq_false_iff_not] at h
  obtain ⟨h1, h2⟩ := h
  have e := L.nm x m h1
  simp only [List.mem_cons, List.not_mem_nil, or_false, not_or] at h2
  obtain ⟨n1, n2, n3, n4⟩ := h2
  have b : ∀ {a : Str}, m ≠ a → (m == a) = false := fun h => beq_eq_false_iff_ne.mpr h
  simp only [NL.fs, List.lookup, b n1, b n2, b n3, b n4]
  exact e
structure NetNe (L : NL X) (S : NS X) : Prop where
  a1 : L.root ≠ L.lu
  a2 : L.root ≠ L.lp
  a3 : L.root ≠ L.dr
  a4 : ∀ i j, i < L.n → j < L.n → L.rws i j ≠ L.root
  b2 : L.lu ≠ L.lp
  b3 : L.lu ≠ L.dr
  b4 : ∀ i j, i < L.n → j < L.n → L.rws i j ≠ L.lu
  c3 : L.lp ≠ L.dr
  c4 : ∀ i j, i < L.n → j < L.n → L.rws i j ≠ L.lp
  d4 : ∀ i j, i < L.n → j < L.n → L.rws i j ≠ L.dr
  inj : ∀ i j k l, i < L.n → j < L.n → k < L.n → l < L.n → L.rws i j = L.rws k l → i = k ∧ j = l
  x1 : ∀ p ∈ L.xc S.x, p.1 ≠ L.root ∧ p.1 ≠ L.lu ∧ p.1 ≠ L.lp ∧ p.1 ≠ L.dr
  x2 : ∀ p ∈ L.xc S.x, ∀ i j, i < L.n → j < L.n → L.rws i j ≠ p.1
structure NetAt (H : Hp) (L : NL X) (S : NS X) : Prop where
  rt : H L.root = some (.ins L.C L.dx (L.fs S.x))
  up : H L.lu = some (.lst ((List.range L.n).map fun i => V.bl (S.up i)))
  pu : H L.lp = some (.lst ((List.range L.n).map fun i => V.int (S.pu i)))
  dr : H L.dr = some (.dT (prK L.n L.rws (L.n * L.n)))
  row : ∀ i j, i < L.n → j < L.n → ∃ vs, H (L.rws i j) = some (.lst vs) ∧ AtAll H vs ((S.rw i j).map ltD)
  xc : ∀ p ∈ L.xc S.x, H p.1 = some p.2
  xk : L.xk S.x H
  ok : ∀ i j, i < L.n → j < L.n → ∀ l ∈ S.rw i j, LtOk l
  ne : NetNe L S
theorem NM.rt (L : NL X) (S : NS X) : NM L S L.root := .inl rfl
theorem NM.lu (L : NL X) (S : NS X) : NM L S L.lu := .inr (.inl rfl)
theorem NM.lp (L : NL X) (S : NS X) : NM L S L.lp := .inr (.inr (.inl rfl))
theorem NM.dr (L : NL X) (S : NS X) : NM L S L.dr := .inr (.inr (.inr (.inl rfl)))
theorem NM.row {L : NL X} {S : NS X} {i j : Nat} (hi : i < L.n) (hj : j < L.n) : NM L S (L.rws i j) := .inr (.inr (.inr (.inr (.inl ⟨i, j, hi, hj, rfl⟩))))
theorem NM.xc {L : NL X} {S : NS X} {p : Addr × HO} (h : p ∈ L.xc S.x) : NM L S p.1 := .inr (.inr (.inr (.inr (.inr ⟨p, h, rfl⟩))))
theorem NetAt.fr {F : Addr → Prop} {H H' : Hp} {L : NL X} {S : NS X} (h : NetAt H L S) (f : Fr F H H') (n : ∀ b, NM L S b → ¬ F b) : NetAt H' L S where
  rt := f.keep _ _ h.rt (n _ (.rt L S))
  up := f.keep _ _ h.up (n _ (.lu L S))
  pu := f.keep _ _ h.pu (n _ (.lp L S))
  dr := f.keep _ _ h.dr (n _ (.dr L S))
  row := fun i j hi hj => by
    obtain ⟨vs, h1, h2⟩ := h.row i j hi hj
    exact ⟨vs, f.keep _ _ h1 (n _ (.row hi hj)), h2.fr f⟩
  xc := fun p hp => f.keep _ _ (h.xc p hp) (n _ (.xc hp))
  xk := L.kp _ _ _ h.xk f.tup
  ok := h.ok
  ne := h.ne
theorem NetAt.fr0 {H H' : Hp} {L : NL X} {S : NS X} (h : NetAt H L S) (f : Fr F0 H H') : NetAt H' L S := h.fr f fun _ _ z => z
theorem NetAt.here {H : Hp} {L : NL X} {S : NS X} (h : NetAt H L S) {b : Addr} (m : NM L S b) : ∃ o, H b = some o ∧ noTup o := by
  rcases m with rfl | rfl | rfl | rfl | ⟨i, j, hi, hj, rfl⟩ | ⟨p, hp, rfl⟩
  · exact ⟨_, h.rt, trivial⟩
  · exact ⟨_, h.up, trivial⟩
  · exact ⟨_, h.pu, trivial⟩
  · exact ⟨_, h.dr, trivial⟩
  · obtain ⟨vs, h1, _⟩ := h.row i j hi hj; exact ⟨_, h1, trivial⟩
  · exact ⟨_, h.xc p hp, L.nt _ p hp⟩
theorem NetAt.new {H : Hp} {L : NL X} {S : NS X} (h : NetAt H L S) {b : Addr} (hb : H b = none) : ¬ NM L S b := fun m => by
  obtain ⟨o, e, _⟩ := h.here m
  rw [hb] at e; cases e
/-- a step of the net: only its own addresses are written, what it gains is new -/
structure Stp (L : NL X) (S S' : NS X) (H H' : Hp) : Prop where
  fr : Fr (NM L S) H H'
  gr : ∀ b, NM L S' b → NM L S b ∨ H b = none
theorem Stp.refl (L : NL X) (S : NS X) (H : Hp) : Stp L S S H H := ⟨.refl H, fun _ h => .inl h⟩
theorem Stp.of {L : NL X} {S : NS X} {H H' : Hp} (f : Fr F0 H H') : Stp L S S H H' := ⟨f.any, fun _ h => .inl h⟩
theorem Stp.same {L : NL X} {S S' : NS X} {H H' : Hp} (f : Fr (NM L S) H H') (e : S'.x = S.x) : Stp L S S' H H' := ⟨f, fun b h => .inl (by unfold NM at h ⊢; rw [e] at h; exact h)⟩
theorem Stp.trans {L : NL X} {S S1 S2 : NS X} {H H1 H2 : Hp} (a : Stp L S S1 H H1) (b : Stp L S1 S2 H1 H2) : Stp L S S2 H H2 :=
  ⟨a.fr.trans' b.fr a.gr, fun c h => by
    rcases b.gr c h with z | z
    · exact a.gr c z
    · exact .inr (a.fr.dom c z)⟩
theorem Stp.alloc {L : NL X} {S S1 : NS X} {H H1 H2 : Hp} (a : Stp L S S1 H H1) (f : Fr F0 H1 H2) : Stp L S S1 H H2 := a.trans (.of f)
/-- what is no part of the net stays so, and stays as it is -/
theorem Stp.out {L : NL X} {S S' : NS X} {H H' : Hp} {b : Addr} {o : HO} (s : Stp L S S' H H') (e : H b = some o) (n : ¬ NM L S b) : ¬ NM L S' b := fun m => by
  rcases s.gr b m with z | z
  · exact n z
  · rw [e] at z; cases z
/-! ### steps of the abstract net -/
def NS.setUp (S : NS X) (i : Nat) (b : Bool) : NS X := { S with up := fset S.up i b }
def NS.setPu (S : NS X) (i : Nat) (v : Int) : NS X := { S with pu := fset S.pu i v }
def NS.setRow (S : NS X) (i j : Nat) (r : List Lt) : NS X := { S with rw := fset2 S.rw i j r }
def NS.put (S : NS X) (i j : Nat) (l : Lt) : NS X := S.setRow i j (S.rw i j ++ [l])
theorem NetAt.setUp {H : Hp} {L : NL X} {S : NS X} (h : NetAt H L S) (i : Nat) (b : Bool) : NetAt (upd H L.lu (.lst ((List.range L.n).map fun j => V.bl (fset S.up i b j)))) L (S.setUp i b) ∧ Stp L S (S.setUp i b) H (upd H L.lu (.lst ((List.range L.n).map fun j => V.bl (fset S.up i b j)))) := by
  have n := h.ne
  have f : Fr (NM L S) H (upd H L.lu (.lst ((List.range L.n).map fun j => V.bl (fset S.up i b j)))) := .put h.up trivial (.lu L S)
  refine ⟨⟨upd_at h.rt n.a1, upd_same, upd_at h.pu n.b2.symm, upd_at h.dr n.b3.symm, fun j k hj hk => ?_, fun p hp => upd_at (h.xc p hp) (n.x1 p hp).2.1, L.kp _ _ _ h.xk f.tup, h.ok, ⟨n.a1, n.a2, n.a3, n.a4, n.b2, n.b3, n.b4, n.c3, n.c4, n.d4, n.inj, n.x1, n.x2⟩⟩, .same f rfl⟩
  obtain ⟨vs, h1, h2⟩ := h.row j k hj hk
  exact ⟨vs, upd_at h1 (n.b4 j k hj hk), h2.fr f⟩
theorem NetAt.setPu {H : Hp} {L : NL X} {S : NS X} (h : NetAt H L S) (i : Nat) (v : Int) : NetAt (upd H L.lp (.lst ((List.range L.n).map fun j => V.int (fset S.pu i v j)))) L (S.setPu i v) ∧ Stp L S (S.setPu i v) H (upd H L.lp (.lst ((List.range L.n).map fun j => V.int (fset S.pu i v j)))) := by
  have n := h.ne
  have f : Fr (NM L S) H (upd H L.lp (.lst ((List.range L.n).map fun j => V.int (fset S.pu i v j)))) := .put h.pu trivial (.lp L S)
  refine ⟨⟨upd_at h.rt n.a2, upd_at h.up n.b2, upd_same, upd_at h.dr n.c3.symm, fun j k hj hk => ?_, fun p hp => upd_at (h.xc p hp) (n.x1 p hp).2.2.1, L.kp _ _ _ h.xk f.tup, h.ok, ⟨n.a1, n.a2, n.a3, n.a4, n.b2, n.b3, n.b4, n.c3, n.c4, n.d4, n.inj, n.x1, n.x2⟩⟩, .same f rfl⟩
  obtain ⟨vs, h1, h2⟩ := h.row j k hj hk
  exact ⟨vs, upd_at h1 (n.c4 j k hj hk), h2.fr f⟩
theorem NetAt.setRow {H : Hp} {L : NL X} {S : NS X} (h : NetAt H L S) {i j : Nat} (hi : i < L.n) (hj : j < L.n) {r : List Lt} {vs : List V} (hr : AtAll H vs (r.map ltD)) (ok : ∀ l ∈ r, LtOk l) :
    NetAt (upd H (L.rws i j) (.lst vs)) L (S.setRow i j r) ∧ Stp L S (S.setRow i j r) H (upd H (L.rws i j) (.lst vs)) := by
  have n := h.ne
  obtain ⟨v0, h0, _⟩ := h.row i j hi hj
  have f : Fr (NM L S) H (upd H (L.rws i j) (.lst vs)) := .put h0 trivial (.row hi hj)
  refine ⟨⟨upd_at h.rt (n.a4 i j hi hj).symm, upd_at h.up (n.b4 i j hi hj).symm, upd_at h.pu (n.c4 i j hi hj).symm, upd_at h.dr (n.d4 i j hi hj).symm, fun k l hk hl => ?_, fun p hp => upd_at (h.xc p hp) (n.x2 p hp i j hi hj).symm, L.kp _ _ _ h.xk f.tup, fun k l hk hl => ?_,
    ⟨n.a1, n.a2, n.a3, n.a4, n.b2, n.b3, n.b4, n.c3, n.c4, n.d4, n.inj, n.x1, n.x2⟩⟩, .same f rfl⟩
  · by_cases c : k = i ∧ l = j
    · obtain ⟨rfl, rfl⟩ := c
      refine ⟨vs, upd_same, ?_⟩
      show AtAll _ vs ((fset2 S.rw k l r k l).map ltD)
      rw [fset2_same]
      exact hr.fr f
    · obtain ⟨ws, h1, h2⟩ := h.row k l hk hl
      refine ⟨ws, upd_at h1 fun z => c (n.inj k l i j hk hl hi hj z), ?_⟩
      show AtAll _ ws ((fset2 S.rw i j r k l).map ltD)
      rw [fset2_ne c]
      exact h2.fr f
  · show ∀ x ∈ fset2 S.rw i j r k l, LtOk x
    by_cases c : k = i ∧ l = j
    · obtain ⟨rfl, rfl⟩ := c
      rw [fset2_same]; exact ok
    · rw [fset2_ne c]; exact h.ok k l hk hl
/-- the row's own list, by the dict -/
theorem NetAt.dget {H : Hp} {L : NL X} {S : NS X} (h : NetAt H L S) {i j : Nat} (hi : i < L.n) (hj : j < L.n) : valV (prK L.n L.rws (L.n * L.n)) [.inl (i : Int), .inl (j : Int)] = some (.ref (L.rws i j)) := by
  rw [prK_key L.rws hj, if_pos]
  have : (i + 1) * L.n ≤ L.n * L.n := Nat.mul_le_mul_right _ hi
  rw [Nat.add_mul] at this
  omega
end

/-! ### C(e, .., k = v, ..) -/
structure MakKX (G : En) (CX : CXT) (k : Nat) (x : Str) (C : Addr) (n : Nat) (ks : List Str) (sp : Sp) : Prop where
  ex : ∃ (f : Addr) (fd : FuncData) (ps : List Str) (g : List Value → List Value → List Value), Mk G.K C f ∧ FnG G CX k f fd ps sp ∧ G.mg x = some (.ref C) ∧ KBn G.K fd ps (n + 1) ks g (fun vs zs => vs ++ zs)
abbrev MakKG (G : En) (k : Nat) (x : Str) (C : Addr) (n : Nat) (ks : List Str) (sp : Sp) : Prop := MakKX G CX0 k x C n ks sp
def MakeGK (C : Addr) (sp : Sp) (vs : List V) (H1 : Hp) (Q : VK) : Prop := ∀ x dx, H1 x = none → H1 dx = none → dx ≠ x →
  sp (.ref x :: vs) (upd (upd H1 dx (.own x)) x (.ins C dx [])) (fun v H2 => v = .non ∧ Q (.ref x) H2) E0
def tMakeKQ (G : En) (j : Nat) (x : Str) (n : Nat) (ks : List Str) (t tk : TA) : TE := fun σ H Q => ∃ k C sp, MakKG G k x C n ks sp ∧ k + 1 ≤ j ∧ t σ H fun vs H1 => tk σ H1 fun zs H2 => vs.length = n ∧ zs.length = ks.length ∧ MakeGK C sp (vs ++ zs) H2 Q
section
variable {X : Cx} {x : Str} {p pos pos' : Pos} {e o : Expr} {es : List Expr} {kws : List Keyword} {t tk : TA} {j n : Nat} {ks : List Str} {f : Str} {ta : TE}
theorem e_makeK (hr : Room j X.A) (hg : Gl X x) (ha : PA X (e :: es) t) (hkw : PK X kws tk) (hall : (backToKw pos (keywordEach kws X.env)).all (·.1.isSome) = true := by rfl) (hks : (backToKw pos (keywordEach kws X.env)).filterMap (·.1) = ks := by rfl)
    (hdb : (x == ("__debug__" : Str)) = false := by decide) (he : starEach (e :: es) X.env = (false, eval e X.env) :: starEach es X.env := by rfl)
    (hpl : ((backTo pos (starEach (e :: es) X.env)).any (·.1) || (backToKw pos (keywordEach kws X.env)).any (·.1.isNone)) = false := by rfl) :
    PE X (.Call (.Name x p) (e :: es) kws pos) (tMakeKQ (enOf X) j x n ks t tk) := by
  refine ⟨fun pins s σ H Q I h => ?_⟩
  obtain ⟨k, C, sp, c, hk, h⟩ := h
  obtain ⟨f, fd, ps, g, M, F, hm, b⟩ := c.ex
  exact (pe_makeN M F (hr.mono hk) hg hm b pass0 ha hkw hall hks hdb he hpl).run pins s σ H Q I h
theorem x_makeK {G : En} {σ : Stt} {H : Hp} {Q : VK} {k : Nat} {C : Addr} {sp : Sp} (c : MakKG G k x C n ks sp) (hk : k + 1 ≤ j) (q : t σ H fun vs H1 => tk σ H1 fun zs H2 => vs.length = n ∧ zs.length = ks.length ∧ MakeGK C sp (vs ++ zs) H2 Q) : tMakeKQ G j x n ks t tk σ H Q := ⟨k, C, sp, c, hk, q⟩
/-! ### a store to a field as one of several targets -/
def gFldQ (K : PySem.W.Frag) (ta : TE) (f : Str) : TG := fun v σ H N => ta σ H fun x H1 => PutG K f x v H1 fun H2 => N σ H2
theorem x_gfld {K : PySem.W.Frag} {v : V} {σ : Stt} {H : Hp} {N : Stt → Hp → Prop} (k : ta σ H fun x H1 => PutG K f x v H1 fun H2 => N σ H2) : gFldQ K ta f v σ H N := k
/-! ### how often in a list -/
def rCnt (K : PySem.W.Frag) : V → List V → Hp → VK → Prop := fun x xs H Q => ∃ (p : Addr) (ys : List V) (y : V), x = .ref p ∧ xs = [y] ∧ SqL K H p ys ∧ flatV y = true ∧ ys.all flatV = true ∧ Q (.int (ys.countP fun z => eqV z y : Nat)) H
theorem countP_eqU {y : V} : ∀ {ys : List V} {us : List Value}, Vals ys us → ys.all flatV = true → us.countP (eqU y) = ys.countP fun z => eqV z y
  | _, _, .nil, _ => rfl
  | z :: ys, u :: us, .cons h t, f => by
    rw [List.all_cons, Bool.and_eq_true] at f
    rw [List.countP_cons, List.countP_cons, countP_eqU t f.2, eqU_of h f.1]
theorem mt_cnt : MtR X "list.count" (rCnt X.K) := by
  intro pins s σ H x xs v us Q I rx rxs h
  obtain ⟨p, ys, y, rfl, rfl, hs, fy, fys, q⟩ := h
  cases rx
  cases rxs with
  | cons ry rt =>
    rename_i uy ut
    cases rt
    obtain ⟨its, rv, ⟨⟨cls, dd, data, sl⟩, n, ho, hc, hdn, hd⟩, hlen⟩ := I.list hs
    simp only at hc hd
    subst hc hd
    refine call_meets PySem.F.slot_list_count ⟨_, ho, rfl⟩ PySem.F.entry_list_count (PySem.F.args_list_count_2 _ _)
      (SeqAt.list_countAt p its.toArray n dd sl uy (eqU y)) ⟨ho, fun u' hu' => mem_eqAt ry fy rv fys u' (by simpa using hu'), ?_⟩
    have ec : its.toArray.toList.countP (eqU y) = ys.countP fun z => eqV z y := countP_eqU rv fys
    refine ⟨.int (ys.countP fun z => eqV z y : Nat), H, I.tok _, ⟨s.toks, ?_⟩, q⟩
    show Value.int ((its.toArray.toList.countP (eqU y) : Nat) : Int) s.toks = Value.int ((ys.countP fun z => eqV z y : Nat) : Int) s.toks
    rw [ec]
end

section
variable {X : Cx} {o : Expr} {f : Str} {pos : Pos} {ta : TE}
theorem pg_fldQ (ho : PE X o ta) : PG X (.Attribute o f pos) (gFldQ X.K ta f) := by
  refine ⟨fun pins s σ H v u Q I r h => ?_⟩
  rw [assign_Attribute]
  refine wpAny_bind (wpAny_holding (thn (ho.run pins s σ H _ I h) fun ov s1 ⟨x, H1, I1, r1, a, C, dx, fs, ex, ea, c, n, l, q⟩ => ?_))
  subst ex
  obtain rfl : ov = Value.ref a := r1
  refine wpAny_bind (wpAny_standAt (wpAny_bind (wpAny_holding (setattr_ok I1 ea c n l r fun s2 I2 => ?_))))
  exact wpAny_release ⟨σ, _, I2, q⟩
theorem e_din {i : Expr} {ty td : TE} (hu : X.A.units + 1 < cLine) (hi : PE X i ty) (ho : PE X o td) (hm : behindInMarks .In o = false := by rfl) : PE X (.Compare i [.In] [o] pos) (tDInQ ty td) := pe_cmp (pc_din hu hi ho) hm
theorem e_dnotin {i : Expr} {ty td : TE} (hu : X.A.units + 1 < cLine) (hi : PE X i ty) (ho : PE X o td) (hm : behindInMarks .NotIn o = false := by rfl) : PE X (.Compare i [.NotIn] [o] pos) (tDNotInQ ty td) := pe_cmp (pc_dnotin hu hi ho) hm
theorem b_din {i : Expr} {ty td : TE} (hu : X.A.units + 1 < cLine) (hi : PE X i ty) (ho : PE X o td) (hm : behindInMarks .In o = false := by rfl) : PT X (.Compare i [.In] [o] pos) (tTestQ (tDInQ ty td)) := pt_cmp (pc_din hu hi ho) hm
theorem b_dnotin {i : Expr} {ty td : TE} (hu : X.A.units + 1 < cLine) (hi : PE X i ty) (ho : PE X o td) (hm : behindInMarks .NotIn o = false := by rfl) : PT X (.Compare i [.NotIn] [o] pos) (tTestQ (tDNotInQ ty td)) := pt_cmp (pc_dnotin hu hi ho) hm
/-! ### len(d), dict(pairs) -/
def rLenD : List V → Hp → VK → Prop := fun xs H Q => ∃ a kvs, xs = [V.ref a] ∧ H a = some (.dK kvs) ∧ Q (.int kvs.length) H
theorem c_lenD : CallR X (.builtin "len") rLenD := call_lenD
def rDictP (K : PySem.W.Frag) : List V → Hp → VK → Prop := fun xs H Q => ∃ (a : Addr) (ps : List Addr) (kvs : List (Key × V)), xs = [.ref a] ∧ SqL K H a (ps.map V.ref) ∧ Paired (fun p kv => SqT K H p [kV kv.1, kv.2]) ps kvs ∧
    ∀ p, H p = none → Q (.ref p) (upd H p (.dK (mergeK [] kvs)))
theorem c_dictP (hc : X.calm = true) : CallR X (.type "dict") (rDictP X.K) := call_dictP hc
end
section
variable {H : Hp} {Q : VK} {K : PySem.W.Frag} {a : Addr} {z : V}
theorem x_lenD {kvs : List (Key × V)} (h : H a = some (.dK kvs)) (k : Q (.int (kvs.length : Int)) H) : rLenD [.ref a] H Q := ⟨a, kvs, rfl, h, k⟩
theorem x_dinK {kvs : List (Key × V)} {i : Int} {o : Option V} (h : H a = some (.dK kvs)) (e : valV kvs (.inl i) = o) (k : Q (.bl o.isSome) H) : DInG false (.int i) (.ref a) H Q := ⟨a, o, rfl, dgK (.inl h) e, k⟩
theorem x_dninK {kvs : List (Key × V)} {i : Int} {o : Option V} (h : H a = some (.dK kvs)) (e : valV kvs (.inl i) = o) (k : Q (.bl (!o.isSome)) H) : DInG true (.int i) (.ref a) H Q := ⟨a, o, rfl, dgK (.inl h) e, k⟩
theorem x_dinT {kvs : List (List Key × V)} {ks : List Key} {b : Addr} {o : Option V} (h : H a = some (.dT kvs)) (hb : H b = some (.tup (ks.map kV))) (e : valV kvs ks = o) (k : Q (.bl o.isSome) H) : DInG false (.ref b) (.ref a) H Q := ⟨a, o, rfl, dgT (.inl h) hb e, k⟩
theorem x_d2bK {o : Option V} {kvs : List (Key × V)} {i : Int} (h : H a = some (.dK kvs)) (e : valV kvs (.inl i) = o) (k : Q (o.getD z) H) : D2bG a (.int i) z H Q := ⟨o, dgK (.inl h) e, k⟩
theorem x_din {σ : Stt} {td ty : TE} (k : ty σ H fun y H1 => td σ H1 fun x H2 => DInG false y x H2 Q) : tDInQ ty td σ H Q := k
theorem x_dnin {σ : Stt} {td ty : TE} (k : ty σ H fun y H1 => td σ H1 fun x H2 => DInG true y x H2 Q) : tDNotInQ ty td σ H Q := k
theorem x_neg {i : Int} (k : Q (.int (-i)) H) : rU (fun i => .int (-i)) (.int i) H Q := ⟨i, rfl, k⟩
theorem x_ixTneg {xs : List V} {v : V} (h : H a = some (.tup xs)) (e : xs.getLast? = some v) (hl : xs.length < 1000) (k : Q v H) : rIxT K (.ref a) (.int (-1)) H Q := by
  refine ⟨a, xs, -1, v, rfl, rfl, SqT.of h, ?_, k⟩
  unfold atI ixN
  rw [List.getLast?_eq_getElem?] at e
  have : xs.length - 1 < xs.length := (List.getElem?_eq_some_iff.mp e).1
  rw [if_neg (by omega), if_pos (by omega)]
  show xs[(_ : Int).toNat]? = some v
  rw [← e]
  congr 1
  omega
theorem x_ixLneg {xs : List V} {v : V} (h : H a = some (.lst xs)) (e : xs.getLast? = some v) (k : Q v H) : rIxL K (.ref a) (.int (-1)) H Q := by
  refine ⟨a, xs, -1, v, rfl, rfl, SqL.of h, ?_, k⟩
  unfold atI ixN
  rw [List.getLast?_eq_getElem?] at e
  have : xs.length - 1 < xs.length := (List.getElem?_eq_some_iff.mp e).1
  rw [if_neg (by omega), if_pos (by omega)]
  show xs[(_ : Int).toNat]? = some v
  rw [← e]
  congr 1
  omega
end
theorem mergeK_app : ∀ (kvs acc : List (Key × V)), (acc ++ kvs).Pairwise (fun a b => a.1 ≠ b.1) → mergeK acc kvs = acc ++ kvs
  | [], acc, _ => by simp [mergeK]
  | kv :: kvs, acc, h => by
    have e : valV acc kv.1 = none := by
      unfold valV
      rw [Option.map_eq_none_iff, List.find?_eq_none]
      intro x hx
      have := (List.pairwise_append.mp h).2.2 x hx kv List.mem_cons_self
      simpa using this
    show mergeK (putK acc kv.1 kv.2) kvs = _
    rw [putK_new _ e, mergeK_app kvs _ (by rw [List.append_assoc]; exact h), List.append_assoc]
    rfl
/-- a dict from numbers, in a list's order -/
def nmK (f : Nat → V) (ks : List Nat) : List (Key × V) := ks.map fun (i : Nat) => (.inl (i : Int), f i)
theorem nmK_val (f : Nat → V) (j : Nat) : ∀ ks : List Nat, valV (nmK f ks) (.inl (j : Int)) = if j ∈ ks then some (f j) else none
  | [] => by simp [nmK, valV]
  | i :: ks => by
    have ih := nmK_val f j ks
    unfold nmK valV at ih ⊢
    rw [List.map_cons, List.find?_cons]
    by_cases e : i = j
    · subst e; simp
    · have hne : decide ((Sum.inl (i : Int) : Key) = Sum.inl (j : Int)) = false := by
        refine decide_eq_false fun z => e ?_
        have := Sum.inl.inj z
        omega
      simp only [hne]
      rw [ih]
      have : j ≠ i := fun z => e z.symm
      simp [this]
theorem nmK_merge (f : Nat → V) {ks : List Nat} (nd : ks.Nodup) : mergeK [] (nmK f ks) = nmK f ks := by
  have := mergeK_app (nmK f ks) [] (by
    rw [List.nil_append]
    unfold nmK
    refine List.pairwise_map.mpr (nd.imp fun {a b} h z => h ?_)
    have := Sum.inl.inj z
    omega)
  rw [this, List.nil_append]

/-! ### a dict and the empty one -/
theorem pairs_none {prog : Program} {w : World} {A : Around} {E : Value → Shared → Prop} {s : Shared} {nm : String} {a b : Addr} {oa ob : Obj} {es : Array DictEntry} {e1 e2 : Nat} {Q : Bool → Shared → Prop} (ha : (a == sysModules) = false) (hb : (b == sysModules) = false)
    (ga : s.heap.get? a = some oa) (da : oa.data = .dict es e1) (gb : s.heap.get? b = some ob) (db : ob.data = .dict #[] e2) (q : Q (decide (es.size = 0)) s) : wpAny (model prog w) A (Builtin.Dict.samePairs nm a b) Q E s := by
  have na : ¬ (a == sysModules) = true := fun z => Bool.false_ne_true (ha.symm.trans z)
  have nb : ¬ (b == sysModules) = true := fun z => Bool.false_ne_true (hb.symm.trans z)
  unfold Builtin.Dict.samePairs Builtin.Dict.showsAll
  rw [if_neg na, if_neg nb]
  refine wpAny_bind (wpAny_pure (wpAny_bind (wpAny_pure (wpAny_bind (wpAny_dictEntries ga da ?_)))))
  dsimp only
  refine wpAny_bind (wpAny_dictEntries gb db ?_)
  by_cases z : es.size = 0
  · rw [decide_eq_true z] at q
    rw [if_neg (by rw [z]; decide)]
    refine wpAny_bind (wpAny_dictEpoch ga da (wpAny_bind ?_))
    rw [Std.Legacy.Range.forIn_eq_forIn_range', z]
    exact wpAny_pure (wpAny_pure q)
  · rw [decide_eq_false z] at q
    rw [if_pos (by simpa using z)]
    exact wpAny_bind (wpAny_rule (wpAny_pure q))
def rEmp (neg : Bool) : R2 := fun x y H Q => ∃ a b, x = .ref a ∧ y = .ref b ∧ ((∃ ks, H a = some (.dK ks) ∧ H b = some (.dK []) ∧ Q (.bl (if neg then !decide (ks = []) else decide (ks = []))) H) ∨
  ∃ ks, H a = some (.dT ks) ∧ H b = some (.dT []) ∧ Q (.bl (if neg then !decide (ks = []) else decide (ks = []))) H)
section
variable {X : Cx}
theorem emp_at {pins : List (Addr × Obj)} {σ : Stt} {H : Hp} {s : Shared} {a : Addr} (I : Inv X pins σ H s) : (∀ ks, H a = some (.dK ks) → (a == sysModules) = false ∧ s.TypeIs (.ref a) "dict" ∧ ∃ o es ep, s.heap.get? a = some o ∧ o.data = .dict es ep ∧ (es.size = 0 ↔ ks = [])) ∧
    ∀ ks, H a = some (.dT ks) → (a == sysModules) = false ∧ s.TypeIs (.ref a) "dict" ∧ ∃ o es ep, s.heap.get? a = some o ∧ o.data = .dict es ep ∧ (es.size = 0 ↔ ks = []) := by
  refine ⟨fun ks e => ?_, fun ks e => ?_⟩
  · obtain ⟨_, z, vs, kv, o, es, ep, h1, h2, h3, _, h5, _⟩ := dk_of I.hok e
    refine ⟨z, (isD_at I (.inl ⟨ks, .inl e⟩)).1, o, es, ep, h1, h3, ?_⟩
    have l1 := kv.length
    have l2 := h5.length
    rw [Array.length_toList] at l2
    rw [← l2.symm, ← l1]
    exact List.length_eq_zero_iff
  · obtain ⟨_, z, xs, kt, o, es, ep, h1, h2, h3, h4, _⟩ := (show ObjOk X.prog X.w H s.heap a (.dT ks) from I.hok a _ e)
    refine ⟨z, (isD_at I (.inr ⟨ks, .inl e⟩)).1, o, es, ep, h1, h3, ?_⟩
    have l1 := Paired.length kt
    have l2 := congrArg List.length h4
    rw [Array.length_toList, List.length_map] at l2
    rw [l2, ← l1]
    exact List.length_eq_zero_iff
theorem emp_run (neg : Bool) (hu : X.A.units < cLine) {pins : List (Addr × Obj)} {σ : Stt} {H : Hp} {s : Shared} {a b : Addr} {Q : VK} {k : Bool} {oa ob : Obj} {es : Array DictEntry} {e1 e2 : Nat} (I : Inv X pins σ H s) (ha : (a == sysModules) = false) (hb : (b == sysModules) = false) (ta : s.TypeIs (.ref a) "dict") (tb : s.TypeIs (.ref b) "dict")
    (ga : s.heap.get? a = some oa) (da : oa.data = .dict es e1) (gb : s.heap.get? b = some ob) (db : ob.data = .dict #[] e2) (ek : k = decide (es.size = 0)) (q : Q (.bl (if neg then !k else k)) H) : wpAny (model X.prog X.w) X.A (compareOp (if neg then .NotEq else .Eq) (.ref a) (.ref b)) (EP X pins σ Q) X.xe s := by
  subst ek
  cases neg with
  | true =>
    refine wpAny_richCompare_same_room (op := .NotEq) ta tb PySem.F.slot_dict_ne (wpAny_call_entry PySem.F.slot_dict_ne ta PySem.F.entry_dict_ne ?_ (PySem.F.args_dict_ne_2 _ _)) hu
    show wpAny _ _ (Builtin.Dict.dictSlotArgs "__ne__" ⟨[.ref a, .ref b], []⟩ >>= _) _ _ s
    refine wpAny_bind ?_
    unfold Builtin.Dict.dictSlotArgs
    refine wpAny_bind (wpAny_notOrdered_dict ta (wpAny_pure (wpAny_bind (wpAny_isInstance (T := "dict") tb PySem.F.sub_dict_dict ?_))))
    simp only [Bool.not_true, Bool.false_eq_true, if_false]
    refine wpAny_bind (wpAny_pure (wpAny_bind (wpAny_pure (wpAny_bind (pairs_none ha hb ga da gb db ?_)))))
    exact wpAny_pure ⟨_, rfl, (fun x => nomatch x), .bl (!decide (es.size = 0)), H, I, (by cases decide (es.size = 0) <;> rfl), q⟩
  | false =>
    refine wpAny_richCompare_same_room (op := .Eq) ta tb PySem.F.slot_dict_eq (wpAny_call_entry PySem.F.slot_dict_eq ta PySem.F.entry_dict_eq ?_ (PySem.F.args_dict_eq_2 _ _)) hu
    show wpAny _ _ (Builtin.Dict.dictSlotArgs "__eq__" ⟨[.ref a, .ref b], []⟩ >>= _) _ _ s
    refine wpAny_bind ?_
    unfold Builtin.Dict.dictSlotArgs
    refine wpAny_bind (wpAny_notOrdered_dict ta (wpAny_pure (wpAny_bind (wpAny_isInstance (T := "dict") tb PySem.F.sub_dict_dict ?_))))
    simp only [Bool.not_true, Bool.false_eq_true, if_false]
    refine wpAny_bind (wpAny_pure (wpAny_bind (wpAny_pure (wpAny_bind (pairs_none ha hb ga da gb db ?_)))))
    exact wpAny_pure ⟨_, rfl, (fun x => nomatch x), .bl (decide (es.size = 0)), H, I, (by cases decide (es.size = 0) <;> rfl), q⟩
theorem op_emp (neg : Bool) (hu : X.A.units + 64 < cLine) : OpR X (compareOp (if neg then .NotEq else .Eq)) (rEmp neg) := by
  intro pins s σ H x y v u Q I rx ry h
  have fin : ∀ {a b : Addr} {ka kb : Prop} [Decidable ka], kb → ((a == sysModules) = false ∧ s.TypeIs (.ref a) "dict" ∧ ∃ o es ep, s.heap.get? a = some o ∧ o.data = .dict es ep ∧ (es.size = 0 ↔ ka)) →
      ((b == sysModules) = false ∧ s.TypeIs (.ref b) "dict" ∧ ∃ o es ep, s.heap.get? b = some o ∧ o.data = .dict es ep ∧ (es.size = 0 ↔ kb)) → Q (.bl (if neg then !decide ka else decide ka)) H → wpAny (model X.prog X.w) X.A (compareOp (if neg then .NotEq else .Eq) (.ref a) (.ref b)) (EP X pins σ Q) X.xe s := by
    intro a b ka kb _ hk ⟨a1, a2, o, es, ep, a3, a4, a5⟩ ⟨b1, b2, o', es', ep', b3, b4, b5⟩ q
    obtain rfl : es' = #[] := Array.eq_empty_of_size_eq_zero (b5.mpr hk)
    exact emp_run neg (by omega) I a1 b1 a2 b2 a3 a4 b3 b4 (decide_eq_decide.mpr a5.symm) q
  obtain ⟨a, b, rfl, rfl, ⟨ks, ha, hb, q⟩ | ⟨ks, ha, hb, q⟩⟩ := h
  · cases rx; cases ry
    exact fin (kb := ([] : List (Key × V)) = []) rfl ((emp_at I).1 ks ha) ((emp_at I).1 [] hb) q
  · cases rx; cases ry
    exact fin (kb := ([] : List (List Key × V)) = []) rfl ((emp_at I).2 ks ha) ((emp_at I).2 [] hb) q
theorem op_neE (hu : X.A.units + 64 < cLine) : OpR X (compareOp .NotEq) (rEmp true) := op_emp true hu
theorem op_eqE (hu : X.A.units + 64 < cLine) : OpR X (compareOp .Eq) (rEmp false) := op_emp false hu
end
section
variable {a b : Addr} {H : Hp} {Q : VK}
theorem x_neEK {ks : List (Key × V)} (ha : H a = some (.dK ks)) (hb : H b = some (.dK [])) (q : Q (.bl (!decide (ks = []))) H) : rEmp true (.ref a) (.ref b) H Q := ⟨a, b, rfl, rfl, .inl ⟨ks, ha, hb, q⟩⟩
theorem x_neET {ks : List (List Key × V)} (ha : H a = some (.dT ks)) (hb : H b = some (.dT [])) (q : Q (.bl (!decide (ks = []))) H) : rEmp true (.ref a) (.ref b) H Q := ⟨a, b, rfl, rfl, .inr ⟨ks, ha, hb, q⟩⟩
theorem x_eqEK {ks : List (Key × V)} (ha : H a = some (.dK ks)) (hb : H b = some (.dK [])) (q : Q (.bl (decide (ks = []))) H) : rEmp false (.ref a) (.ref b) H Q := ⟨a, b, rfl, rfl, .inl ⟨ks, ha, hb, q⟩⟩
theorem x_eqET {ks : List (List Key × V)} (ha : H a = some (.dT ks)) (hb : H b = some (.dT [])) (q : Q (.bl (decide (ks = []))) H) : rEmp false (.ref a) (.ref b) H Q := ⟨a, b, rfl, rfl, .inr ⟨ks, ha, hb, q⟩⟩
theorem x_dnewK {σ : Stt} (k : ∀ p, H p = none → Q (.ref p) (upd H p (.dK []))) : tDNewK σ H Q := k
end

/-! ### exceptions as values -/
def ExT (cls : Value) (d : Option Addr) (a : Addr) : HO := .ext fun h => ∃ (oe : Obj) (vs : Array Value), h.get? a = some oe ∧ Zc cls d oe ∧ oe.data = .fields vs
theorem exT_ok {P : Program} {w : World} {H : Hp} {h : Heap} {a : Addr} {cls : Value} {d : Option Addr} {oe : Obj} {vs : Array Value} (e : h.get? a = some oe) (z : Zc cls d oe) (f : oe.data = .fields vs) : ObjOk P w H h a (ExT cls d a) :=
  ⟨⟨oe, vs, e, z, f⟩, ⟨oe, e⟩, fun _ _ ⟨o, v, q, r⟩ k => ⟨o, v, k o q, r⟩⟩
theorem exT_noTup {cls : Value} {d : Option Addr} {a : Addr} : noTup (ExT cls d a) := trivial
section
variable {X : Cx} {pins : List (Addr × Obj)} {σ : Stt} {H : Hp} {s : Shared} {a : Addr} {cls : Value} {d : Option Addr} {oe : Obj} {vs : Array Value}
/-- an exception's object that is ours is tracked from now on -/
theorem track (I : Inv X pins σ H s) (e : s.heap.get? a = some oe) (z : Zc cls d oe) (f : oe.data = .fields vs) (na : H a = none) (nL : a ≠ X.env.locals) (n0 : X.s_0.heap.get? a = none) (np : ∀ p ∈ X.pn ++ pins, p.1 ≠ a) : Inv X pins σ (upd H a (ExT cls d a)) s := by
  have ne0 : ∀ b o, X.s_0.heap.get? b = some o → b ≠ a := fun b o q y => nomatch ((y ▸ n0).symm.trans (y ▸ q) : (none : Option Obj) = some o)
  have neT : ∀ b (u : HO), H b = some u → b ≠ a := fun b u q y => nomatch (na.symm.trans (y ▸ q) : (none : Option HO) = some u)
  have neC : ∀ x c, X.env.cells.lookup x = some c → c ≠ a := fun x c q y => by
    obtain ⟨v, o, ho, hd⟩ := I.cell x c q
    have := e.symm.trans (y ▸ ho)
    cases this
    rw [f] at hd; cases hd
  obtain ⟨ok, os, bare, base, loc, cell, free, freeC, pin, hok, len⟩ := I
  constructor
  case ok => exact ok
  case os => exact os
  case bare => exact bare
  case loc => exact loc
  case cell => exact cell
  case len => exact len
  case free => exact (upd_ne nL.symm).trans free
  case freeC => exact fun x c q => (upd_ne (neC x c q)).trans (freeC x c q)
  case hok => exact hok.laidN (fun _ _ q => q) na (exT_ok e z f)
  case pin => exact fun p hp => ⟨(pin p hp).1, (upd_ne (np p hp)).trans (pin p hp).2.1, (pin p hp).2.2⟩
  case base =>
    constructor
    case keep => exact base.keep
    case slot => exact base.slot
    case there => exact base.there
    case free => exact fun b o q n x => (upd_ne (ne0 b o q)).trans (base.free b o q n x)
    case tups => exact fun b xs q => (upd_ne (neT b _ (base.tups b xs q))).trans (base.tups b xs q)
    case frzs => exact fun b o u q => (upd_ne (neT b _ (base.frzs b o u q))).trans (base.frzs b o u q)
    case tbls =>
      intro b ps q
      obtain ⟨m, y⟩ := base.tbls b ps q
      exact ⟨m, (upd_ne (neT b _ y)).trans y⟩
end
/-! ### try: clauses with names, behind the suite the exception is a thing of ours -/
def endsT (i : Nat) (a : Addr) (cls : Value) (d : Option Addr) (D : Ends) : Ends where
  nx := fun σ' H' => D.nx (σ'.set i none) (upd H' a (ExT cls d a))
  rt := fun v H' => D.rt v (upd H' a (ExT cls d a))
  bk := fun σ' H' => D.bk (σ'.set i none) (upd H' a (ExT cls d a))
  ct := fun σ' H' => D.ct (σ'.set i none) (upd H' a (ExT cls d a))
abbrev Cls3 := Value × Nat × (Addr → Value → Option Addr → TS)
def wCl (K : PySem.W.Frag) (Wout : WX) (D : Ends) : List Cls3 → WX
  | [] => Wout
  | q :: r => fun cls d σ H => ∃ b, PySem.W.exmOne K cls q.1 = some b ∧ (b = true → ∀ a, H a = none → q.2.2 a cls d (endsT q.2.1 a cls d D) (σ.set q.2.1 (some (.ref a))) H) ∧ (b = false → wCl K Wout D r cls d σ H)
structure HdN (X : Cx) (hd : ExceptHandler) (q : Cls3) : Prop where
  ex : ∃ (x n : Str) (b₀ : Stmt) (suite : List Stmt) (np pos : Pos), hd = .ExceptHandler (some (.Name x np)) (some n) (b₀ :: suite) pos ∧ Names X x q.1 ∧ X.N[q.2.1]? = some n ∧ X.env.kindOf n = some .local ∧
    ∀ (a : Addr) (oe : Obj) (cls : Value) (d : Option Addr) (pn : List (Addr × Obj)), Zc cls d oe → (∃ vs, oe.data = .fields vs) → PSs (X.suite a ((a, oe) :: pn)) (b₀ :: suite) (q.2.2 a cls d)
inductive HdsN (X : Cx) : List ExceptHandler → List Cls3 → Prop
  | nil : HdsN X [] []
  | cons {hd : ExceptHandler} {q : Cls3} {hds : List ExceptHandler} {l : List Cls3} (h : HdN X hd q) (r : HdsN X hds l) : HdsN X (hd :: hds) (q :: l)
section
variable {X : Cx} {pins : List (Addr × Obj)} {σ : Stt} {H : Hp} {s : Shared} {a : Addr} {cls : Value} {d : Option Addr} {oe : Obj} {D : Ends}
/-- the suite's end, where the name goes and the exception is kept -/
theorem suite_end {n : Str} {i : Nat} {pos : Pos} {f : Flow} {oe : Obj} (ok : X.Ok) (z : Zc cls d oe) (hf : ∃ vs, oe.data = .fields vs) (n0 : X.s_0.heap.get? a = none) (np : ∀ p ∈ X.pn ++ pins, p.1 ≠ a) (hN : X.N.Nodup) (hi : X.N[i]? = some n) (hl : X.env.kindOf n = some .local)
    (q : SP (X.suite a ((a, oe) :: (X.pn ++ pins))) [] (endsT i a cls d D) f s) : wpAny (model X.prog X.w) X.A (do bindName X.env n .none; unbindBehindTheSuite X.env n pos) (fun _ s' => SP X pins D f s') X.xe s := by
  have key : ∀ {τ : Stt} {G : Hp}, Inv (X.suite a ((a, oe) :: (X.pn ++ pins))) [] τ G s → Inv X pins τ (upd G a (ExT cls d a)) s := fun {τ G} J => by
    obtain ⟨p1, p2, p3, _⟩ := J.pin (a, oe) (List.mem_append_left _ List.mem_cons_self)
    obtain ⟨vs, f⟩ := hf
    exact track (J.unsuite ok) p1 z f p2 p3 n0 np
  cases f with
  | next =>
    obtain ⟨τ, G, J, w⟩ := q
    exact gone_ok (key J) hN hi hl fun s' J' => ⟨_, _, J', w⟩
  | brk =>
    obtain ⟨τ, G, J, w⟩ := q
    exact gone_ok (key J) hN hi hl fun s' J' => ⟨_, _, J', w⟩
  | cont =>
    obtain ⟨τ, G, J, w⟩ := q
    exact gone_ok (key J) hN hi hl fun s' J' => ⟨_, _, J', w⟩
  | ret u =>
    obtain ⟨v, τ, G, J, r, w⟩ := q
    exact gone_ok (key J) hN hi hl fun s' J' => ⟨v, _, _, J', r, w⟩
/-- what is so when an exception has come down to the handlers -/
structure Down (X : Cx) (pins : List (Addr × Obj)) (σ : Stt) (H : Hp) (a : Addr) (cls : Value) (d : Option Addr) (B : Heap) (sI : Shared) (s : Shared) : Prop where
  inv : Inv X pins σ H sI
  gr : ∀ b o, sI.heap.get? b = some o → b ∉ frs X.stack → B.get? b = some o
  up : sI.heap.UpToSlots s.heap
  fly : HandSPX.FlyingZ B X.stack a (Zc cls d) s.heap
  na : H a = none
  os : s.os = sI.os
  ag : AllBare s.gens
theorem Down.now {B : Heap} {sI : Shared} (h : Down X pins σ H a cls d B sI s) : Inv X pins σ H s := h.inv.landed h.gr h.fly.1 h.up h.os h.ag
theorem Down.obj {B : Heap} {sI : Shared} (h : Down X pins σ H a cls d B sI s) : ∃ oe vs, s.heap.get? a = some oe ∧ Zc cls d oe ∧ oe.data = .fields vs := h.fly.there
theorem Down.notFr {B : Heap} {sI : Shared} (h : Down X pins σ H a cls d B sI s) : a ∉ frs X.stack := fun m => by
  obtain ⟨_, o, q, nf⟩ := h.fly.2.2.1.mem m
  obtain ⟨oe, vs, e, _, f⟩ := h.obj
  have := q.symm.trans e
  cases this
  exact nf vs f
theorem Down.fresh {B : Heap} {sI : Shared} (h : Down X pins σ H a cls d B sI s) : sI.heap.get? a = none := by
  cases q : sI.heap.get? a with
  | none => rfl
  | some o => exact nomatch (h.fly.2.1.symm.trans (h.gr a o q h.notFr) : (none : Option Obj) = some o)
theorem Down.entry {B : Heap} {sI : Shared} (h : Down X pins σ H a cls d B sI s) (hex : X.ex = []) : X.s_0.heap.get? a = none := by
  cases q : X.s_0.heap.get? a with
  | none => rfl
  | some o =>
    obtain ⟨o', e⟩ := h.inv.base.there a o q (by rw [hex]; exact fun z => nomatch z)
    exact nomatch (h.fresh.symm.trans e : (none : Option Obj) = some o')
theorem Down.nopin {B : Heap} {sI : Shared} (h : Down X pins σ H a cls d B sI s) : ∀ p ∈ X.pn ++ pins, p.1 ≠ a := fun p hp z => by
  have := (h.inv.pin p hp).1
  exact nomatch (h.fresh.symm.trans (z ▸ this) : (none : Option Obj) = some p.2)
theorem Down.move {B : Heap} {sI : Shared} (h : Down X pins σ H a cls d B sI s) {h' : Heap} (f : HandSPX.FlyingZ B X.stack a (Zc cls d) h') (u : s.heap.UpToSlots h') : Down X pins σ H a cls d B sI { s with heap := h' } := ⟨h.inv, h.gr, h.up.trans u, f, h.na, h.os, h.ag⟩
theorem Down.suite {B : Heap} {sI : Shared} (hs : X.stack = X.env :: X.outer) (hf : X.env.frame = some X.env.locals) (h : Down X pins σ H a cls d B sI s) {oe : Obj} {vs : Array Value} (e : s.heap.get? a = some oe) (f : oe.data = .fields vs) : Inv (X.suite a ((a, oe) :: (X.pn ++ pins))) [] σ H s := by
  have nf := h.notFr
  rw [hs] at nf
  refine h.now.suite e f h.na (fun z => nf (List.mem_filterMap.mpr ⟨X.env, List.mem_cons_self, hf.trans (congrArg some z.symm)⟩)) fun m => nf ?_
  obtain ⟨v, hv, q⟩ := List.mem_filterMap.mp m
  exact List.mem_filterMap.mpr ⟨v, List.mem_cons_of_mem _ hv, q⟩
/-- a clause's class is looked up -/
theorem name_ok {x : Str} {np : Pos} {c : Value} {Q : Value → Shared → Prop} {oe : Obj} {pn : List (Addr × Obj)} (S : Inv (X.suite a ((a, oe) :: pn)) [] σ H s) (hc : Names X x c) (q : Q c s) {E : Value → Shared → Prop} : wpAny (model X.prog X.w) (X.A.mark (some (.ref a))) (eval (.Name x np) X.env) Q E s := by
  obtain ⟨g, db, m | ⟨m, b, nn⟩⟩ := hc
  · exact ld_glob (X := X.suite a ((a, oe) :: pn)) S g m q db
  · exact ld_blt (X := X.suite a ((a, oe) :: pn)) S g m b q nn db
/-- the handlers, one by one -/
theorem handlers {Wout : WX} (hs : X.stack = X.env :: X.outer) (hf : X.env.frame = some X.env.locals) (hN : X.N.Nodup) (hex : X.ex = []) (tk : Takes X Wout) {B : Heap} {sI : Shared} : ∀ {hds : List ExceptHandler} {l : List Cls3}, HdsN X hds l → ∀ {s : Shared}, Down X pins σ H a cls d B sI s → wCl X.K Wout D l cls d σ H →
    wpAny (model X.prog X.w) X.A (handleBy (.ref a) X.env hds) (SP X pins D) X.xe s
  | _, _, .nil, s, dn, w => by
    refine wpAny_handleBy_nil ?_
    have fl := dn.fly
    obtain ⟨_, _, _, oe, vs, T, oT, ts, he, hz, hd, h1, _⟩ := id fl
    unfold PySem.passOn
    refine wpAny_bind (wpAny_field he hd h1 ?_)
    rw [if_neg (show ¬ ((Value.ref T == Value.none) = true) from by simp)]
    have done : wpAny (model X.prog X.w) X.A (setFlight (.ref a) X.env.frame) (fun _ s4 => wpAny (model X.prog X.w) X.A (throw (.ref a) : Sem Flow) (SP X pins D) X.xe s4) X.xe s := by
      rw [hf]
      have fl' : HandSPX.FlyingZ B (X.env :: X.outer) a (Zc cls d) s.heap := hs ▸ fl
      refine HandSPX.setFlight_upZ fl' fun h4 k4 u4 => wpAny_throw (tk _ _ ⟨a, B, sI, pins, σ, H, cls, d, rfl, dn.inv, dn.gr, dn.up.trans u4, .inr (.inr ?_), dn.na, dn.os, dn.ag, w⟩)
      rw [hs]; exact k4
    first
      | exact wpAny_bind (wpAny_pure (wpAny_bind done))
      | exact wpAny_bind done
  | _, _, .cons h r, s, dn, w => by
    obtain ⟨x, n, b₀, suite, np, pos, rfl, hc, hi, hl, hsu⟩ := h.ex
    obtain ⟨b, eb, yes, no⟩ := w
    obtain ⟨oe, vs, e, z, f⟩ := dn.obj
    have S := dn.suite hs hf e f
    refine wpAny_handleBy_cons (codeAny_handlers_test (name_ok S hc ?_)) (fun q => nomatch q)
    have LT : PySem.W.Looks (model X.prog X.w) s.heap (typeOf (.ref a)) cls := fun A Q E s k q => wpAny_typeOf_ref (k _ _ e) (z.1 ▸ q)
    refine (PySem.W.exm_one (M := model X.prog X.w) dn.now.kIn LT eb).here ?_
    cases b with
    | false => exact handlers hs hf hN hex tk r dn (no rfl)
    | true =>
      refine codeAny_handlers_suite_as (HandSPX.lands_againZ dn.fly fun h4 f4 u4 => ?_)
      have dn4 := dn.move f4 u4
      obtain ⟨oe4, vs4, e4, z4, f4⟩ := dn4.obj
      have S4 := dn4.suite hs hf e4 f4
      refine store_ok (X := X.suite a ((a, oe4) :: (X.pn ++ pins))) (v := .ref a) S4 hN hi (.inl hl) rfl (fun s5 S5 => ?_) (.inr hl)
      refine wpAny_mono ((hsu a oe4 cls d (X.pn ++ pins) z4 ⟨_, f4⟩).run [] s5 _ H _ S5 (yes rfl a dn.na)) (fun fw s6 q6 => ?_) (fun _ _ y => y.elim)
      exact suite_end dn.inv.ok z4 ⟨_, f4⟩ (dn.entry hex) dn.nopin hN hi hl q6
theorem ps_tryN {body : List Stmt} {h₀ : ExceptHandler} {hds : List ExceptHandler} {l : List Cls3} {pos : Pos} {tb : WX → TS} {Wout : WX} (hs : X.stack = X.env :: X.outer) (hf : X.env.frame = some X.env.locals) (hN : X.N.Nodup) (hex : X.ex = []) (tk : Takes X Wout)
    (hb : ∀ (W : WX) (pn : List (Addr × Obj)) (xe : Value → Shared → Prop), Takes (X.tr pn xe) W → PassesOwn (model X.prog X.w) X.A X.env xe → PSs (X.tr pn xe) body (tb W)) (hh : HdsN X (h₀ :: hds) l) : PS X (.Try body (h₀ :: hds) [] [] pos) (fun D σ H => tb (wCl X.K Wout D l) D σ H) := by
  constructor
  intro pins s σ H D I h
  have frm : X.A.frames = some (X.env :: X.outer) := I.ok.frames.trans (congrArg some hs)
  refine wpAny_Try_except (wpAny_mono ((hb (wCl X.K Wout D l) (X.pn ++ pins) _ (fun u s1 x => ?_) PassesOwn.looking).run [] s σ H D (I.toTry _) h) (fun fw s1 q => ?_) (fun e s1 he => he))
  · obtain ⟨a, B, sI, pins', σ', H', cls, d, rfl, J', nb, up, sky, na, os, ag, w⟩ := x
    have J : Inv X pins σ' H' sI := J'.ofTry I.ok
    have sky' : Sky B (X.env :: X.outer) a (Zc cls d) X.env.locals s1.heap := hs ▸ sky
    show wpAny (model X.prog X.w) X.A (noteFrame (.ref a) X.env) _ _ _
    refine Sky.land Zc.steady frm hf sky' fun h3 f3 u3 => ?_
    exact handlers hs hf hN hex tk hh ⟨J, nb, up.trans u3, hs ▸ f3, na, os, ag⟩ w
  · cases fw with
    | next =>
      obtain ⟨σ', H', J, q⟩ := q
      exact wpAny_execs_nil ⟨σ', H', J.ofTry I.ok, q⟩
    | brk =>
      obtain ⟨σ', H', J, q⟩ := q
      exact ⟨σ', H', J.ofTry I.ok, q⟩
    | cont =>
      obtain ⟨σ', H', J, q⟩ := q
      exact ⟨σ', H', J.ofTry I.ok, q⟩
    | ret u =>
      obtain ⟨v, σ', H', J, r, q⟩ := q
      exact ⟨v, σ', H', J.ofTry I.ok, r, q⟩
end

/-! ### defs that raise -/
abbrev CXe (G : En) : CXT := L2.CX G.prog G.w
abbrev CalE (G : En) (k : Nat) (x : Str) (sp : Sp) (dvs : List V) : Prop := CalX G (CXe G) k x sp dvs
abbrev MetE (G : En) (k : Nat) (C : Addr) (m : Str) (sp : Sp) (dvs : List V) : Prop := MetX G (CXe G) k C m sp dvs
abbrev MakE (G : En) (k : Nat) (x : Str) (C : Addr) (sp : Sp) (dvs : List V) : Prop := MakX G (CXe G) k x C sp dvs
abbrev CmE (G : En) (k : Nat) (x m : Str) (sp : Sp) (dvs : List V) : Prop := CmX G (CXe G) k x m sp dvs
abbrev FnE (G : En) (k : Nat) (f : Addr) (fd : FuncData) (ps : List Str) (sp : Sp) : Prop := FnG G (CXe G) k f fd ps sp
def tCallE (G : En) (j : Nat) (x : Str) (t : TA) (W : WX) : TE := fun σ H Q => ∃ k sp dvs, CalE G k x sp dvs ∧ k ≤ j ∧ t σ H fun vs H1 => sp (vs ++ dvs) H1 Q (WE W σ)
def tCallW (G : En) (j : Nat) (x : Str) (t : TA) (W : WX) : TE := fun σ H Q => tCallQ G j x t σ H Q ∨ tCallE G j x t W σ H Q
def MethE (G : En) (j : Nat) (m : Str) (t : TA) (W : WX) (σ : Stt) (x : V) (H1 : Hp) (Q : VK) : Prop := ∃ a C dx fs k sp dvs, x = .ref a ∧ H1 a = some (.ins C dx fs) ∧ fs.lookup m = none ∧
  MetE G k C m sp dvs ∧ k ≤ j ∧ t σ H1 fun vs H2 => sp (.ref a :: (vs ++ dvs)) H2 Q (WE W σ)
def MethW (G : En) (j : Nat) (m : Str) (t : TA) (W : WX) (σ : Stt) (x : V) (H1 : Hp) (Q : VK) : Prop := MethG G j m t σ x H1 Q ∨ MethE G j m t W σ x H1 Q
def tMethW (G : En) (j : Nat) (m : Str) (ta : TE) (t : TA) (W : WX) : TE := fun σ H Q => ta σ H fun x H1 => MethW G j m t W σ x H1 Q
def tCmE (G : En) (j : Nat) (x m : Str) (t : TA) (W : WX) : TE := fun σ H Q => ∃ k sp dvs, CmE G k x m sp dvs ∧ k ≤ j ∧ t σ H fun vs H1 => sp (vs ++ dvs) H1 Q (WE W σ)
def tCmW (G : En) (j : Nat) (x m : Str) (t : TA) (W : WX) : TE := fun σ H Q => tCmQ G j x m t σ H Q ∨ tCmE G j x m t W σ H Q
def MakeE (C : Addr) (sp : Sp) (dvs vs : List V) (E : XK) (H1 : Hp) (Q : VK) : Prop := ∀ x dx, H1 x = none → H1 dx = none → dx ≠ x →
  sp (.ref x :: (vs ++ dvs)) (upd (upd H1 dx (.own x)) x (.ins C dx [])) (fun v H2 => v = .non ∧ Q (.ref x) H2) E
def tMakeE (G : En) (j : Nat) (x : Str) (t : TA) (W : WX) : TE := fun σ H Q => ∃ k C sp dvs, MakE G k x C sp dvs ∧ k + 1 ≤ j ∧ t σ H fun vs H1 => MakeE C sp dvs vs (WE W σ) H1 Q
def tMakeW (G : En) (j : Nat) (x : Str) (t : TA) (W : WX) : TE := fun σ H Q => tMakeQ G j x t σ H Q ∨ tMakeE G j x t W σ H Q
def tTry (K : PySem.W.Frag) (Wout : WX) (l : List Cls3) (tb : WX → TS) : TS := fun D σ H => tb (wCl K Wout D l) D σ H
def tRaise (C : Addr) (W : WX) : TS := fun _ σ H => W (.ref C) none σ H
abbrev W0 : WX := fun _ _ _ _ => False
theorem takesW0 {X : Cx} : Takes X W0 := takes_none5
abbrev WD (E : XK) : WX := fun cls d _ H => E cls d H
section
variable {X : Cx} {k j : Nat} {f C : Addr} {fd : FuncData} {ps : List Str} {ds : List Value} {dvs : List V} {sp : Sp} {W : WX} {x m : Str} {p pos apos : Pos} {e o : Expr} {es : List Expr} {ta : TE} {t : TA}
theorem run_fnE {pins : List (Addr × Obj)} {σ : Stt} {H : Hp} {s : Shared} {Q : VK} {us : List Value} {vs : List V} (F : FnOk X.prog X.w X.K X.mg X.base (L2.CX X.prog X.w) k f fd ps sp) (hr : Room k X.A) (hb : Binds X.K fd ps ds) (hd : Vals dvs ds) (tk : Takes X W)
    (I : Inv X pins σ H s) (r : Vals vs us) (h : sp (vs ++ dvs) H Q (WE W σ)) : wpAny (model X.prog X.w) X.A (call (.ref f) us) (EP X pins σ Q) X.xe s := by
  have rr := r.append hd
  have ll : (us ++ ds).length = ps.length := rr.length.symm.trans (F.len _ _ _ _ h)
  have cd := F.run X.A X.stack s H ⟨us, []⟩ (us ++ ds) (vs ++ dvs) Q (WE W σ) hr I.env0 (hb s us I.kIn ll) rr h
  refine wpAny_call (codeAny_mono cd fun rs s1 q => ?_)
  cases rs with
  | error e => exact passAt tk σ pins H s e s1 I q
  | ok fl => cases fl <;> first | exact I.after q | exact q.elim
theorem run_makeE {pins : List (Addr × Obj)} {σ : Stt} {H : Hp} {s : Shared} {Q : VK} {us : List Value} {vs : List V} (M : Mk X.K C f) (F : FnOk X.prog X.w X.K X.mg X.base (L2.CX X.prog X.w) k f fd ps sp) (hr : Room (k + 1) X.A) (hb : Binds X.K fd ps ds) (hd : Vals dvs ds) (tk : Takes X W)
    (I : Inv X pins σ H s) (r : Vals vs us) (h : MakeE C sp dvs vs (WE W σ) H Q) : wpAny (model X.prog X.w) X.A (call (.ref C) us) (EP X pins σ Q) X.xe s := by
  have lo := Nat.le_refl s.heap.objs.size
  have hq := h (s.heap.objs.size + 1) _ (I.hok.fresh (Nat.le_succ_of_le lo)) (I.hok.fresh lo) (Nat.succ_ne_self _).symm
  have J := Inv.made (C := C) I
  have rr := Paired.cons (show RelV (.ref (s.heap.objs.size + 1)) (.ref (s.heap.objs.size + 1)) from rfl) (r.append hd)
  have ll := rr.length.symm.trans (F.len _ _ _ _ hq)
  have cd := F.run _ X.stack _ _ ⟨Value.ref (s.heap.objs.size + 1) :: us, []⟩ _ _ _ (WE W σ) (hr.make C us []) (J.env0.make C us []) (hb _ (Value.ref (s.heap.objs.size + 1) :: us) J.kIn ll) rr hq
  refine wpAny_call (make_map (f := f) I.kIn M.makes M.init (beq_iff_eq.mp M.fn) (codeAny_mono cd fun rs s1 q => ?_))
  cases rs with
  | error e => exact passAt tk σ pins _ _ e s1 J q
  | ok fl =>
    cases fl with
    | ret u =>
      obtain ⟨v, H', J', rv, ev, q⟩ := J.after q
      subst ev
      exact ⟨rv, V.ref (s.heap.objs.size + 1), H', J', rfl, q⟩
    | next => exact q.elim
    | brk => exact q.elim
    | cont => exact q.elim
theorem e_callW (hr : Room j X.A) (hg : Gl X x) (tk : Takes X W) (ha : PA X (e :: es) t)
    (hdb : (x == ("__debug__" : Str)) = false := by decide) (he : starEach (e :: es) X.env = (false, eval e X.env) :: starEach es X.env := by rfl) (hpl : (backTo pos (starEach es X.env)).any (·.1) = false := by rfl) :
    PE X (.Call (.Name x p) (e :: es) [] pos) (tCallW (enOf X) j x t W) := by
  refine ⟨fun pins s σ H Q I h => ?_⟩
  rcases h with h | ⟨k, sp, dvs, c, hk, h⟩
  · exact (e_call hr hg ha hdb he hpl).run pins s σ H Q I h
  obtain ⟨f, fd, ps, ds, F, hm, kp, b, d⟩ := c.ex
  refine wpAny_Call_Name_kw (ld_glob I hg hm (PySem.W.callWith_K (h₀ := X.base) I.ok.mod.kin kp (thn (ha.run pos pins s σ H _ I h) fun us s1 ⟨vs, H1, J, r, q⟩ => ⟨J.kIn, ?_⟩) he hpl) hdb)
  exact run_fnE F (hr.mono hk) b d tk J r q
theorem e_makeW (hr : Room j X.A) (hg : Gl X x) (tk : Takes X W) (ha : PA X (e :: es) t)
    (hdb : (x == ("__debug__" : Str)) = false := by decide) (he : starEach (e :: es) X.env = (false, eval e X.env) :: starEach es X.env := by rfl) (hpl : (backTo pos (starEach es X.env)).any (·.1) = false := by rfl) :
    PE X (.Call (.Name x p) (e :: es) [] pos) (tMakeW (enOf X) j x t W) := by
  refine ⟨fun pins s σ H Q I h => ?_⟩
  rcases h with h | ⟨k, C, sp, dvs, c, hk, h⟩
  · exact (e_make hr hg ha hdb he hpl).run pins s σ H Q I h
  obtain ⟨f, fd, ps, ds, M, F, hm, b, d⟩ := c.ex
  refine wpAny_Call_Name_kw (ld_glob I hg hm (PySem.W.callWith_K (h₀ := X.base) I.ok.mod.kin M.kp (thn (ha.run pos pins s σ H _ I h) fun us s1 ⟨vs, H1, J, r, q⟩ => ⟨J.kIn, ?_⟩) he hpl) hdb)
  exact run_makeE M F (hr.mono hk) b d tk J r q
theorem e_methW {pl : Sem Bool} (hr : Room j X.A) (tk : Takes X W) (he : PE X o ta) (ha : PA X (e :: es) t)
    (hst : starEach (e :: es) X.env = (false, eval e X.env) :: starEach es X.env := by rfl) (hpl : (backTo pos (starEach es X.env)).any (·.1) = false := by rfl)
    (ht : eval (.Call (.Attribute o m apos) (e :: es) [] pos) X.env = (do
      let ov ← eval o X.env
      standAt apos.atName
      let (f, first) ← holding [ov] (getMethod ov m pl)
      callWith pos f first (backTo pos (starEach (e :: es) X.env)) (backToKw pos (keywordEach [] X.env))) := by rfl) :
    PE X (.Call (.Attribute o m apos) (e :: es) [] pos) (tMethW (enOf X) j m ta t W) := by
  refine ⟨fun pins s σ H Q I h => PySem.W.methodCall_KW (pl := pl) (thn (he.run pins s σ H _ I h) fun u s1 ⟨x, H1, J, rx, w⟩ => ?_) ht⟩
  rcases w with ⟨a, C, dx, fs, k, sp, dvs, rfl, ea, l, c, hk, q⟩ | ⟨a, C, dx, fs, k, sp, dvs, rfl, ea, l, c, hk, q⟩
  · obtain ⟨f, fd, ps, ds, cl, hm, F, b, d⟩ := c.ex
    cases rx
    refine getmeth_ok J ea cl hm l (PySem.W.callWith_K (first := [.ref a]) (h₀ := X.base) J.ok.mod.kin hm.kp (thn (ha.run pos pins s1 σ H1 _ J q) fun us s2 ⟨vs, H2, J2, r, q2⟩ => ⟨J2.kIn, ?_⟩) hst hpl)
    exact run_fn (us := .ref a :: us) (vs := .ref a :: vs) F (hr.mono hk) b d pass0 J2 (.cons rfl r) q2
  · obtain ⟨f, fd, ps, ds, cl, hm, F, b, d⟩ := c.ex
    cases rx
    refine getmeth_ok J ea cl hm l (PySem.W.callWith_K (first := [.ref a]) (h₀ := X.base) J.ok.mod.kin hm.kp (thn (ha.run pos pins s1 σ H1 _ J q) fun us s2 ⟨vs, H2, J2, r, q2⟩ => ⟨J2.kIn, ?_⟩) hst hpl)
    exact run_fnE (us := .ref a :: us) (vs := .ref a :: vs) F (hr.mono hk) b d tk J2 (.cons rfl r) q2
theorem e_methW0 {pl : Sem Bool} (hr : Room j X.A) (tk : Takes X W) (he : PE X o ta)
    (ht : eval (.Call (.Attribute o m apos) [] [] pos) X.env = (do
      let ov ← eval o X.env
      standAt apos.atName
      let (f, first) ← holding [ov] (getMethod ov m pl)
      callWith pos f first (backTo pos (starEach [] X.env)) (backToKw pos (keywordEach [] X.env))) := by rfl) :
    PE X (.Call (.Attribute o m apos) [] [] pos) (tMethW (enOf X) j m ta tNil W) := by
  refine ⟨fun pins s σ H Q I h => PySem.W.methodCall_KW (pl := pl) (thn (he.run pins s σ H _ I h) fun u s1 ⟨x, H1, J, rx, w⟩ => ?_) ht⟩
  rcases w with ⟨a, C, dx, fs, k, sp, dvs, rfl, ea, l, c, hk, q⟩ | ⟨a, C, dx, fs, k, sp, dvs, rfl, ea, l, c, hk, q⟩
  · obtain ⟨f, fd, ps, ds, cl, hm, F, b, d⟩ := c.ex
    cases rx
    exact getmeth_ok J ea cl hm l (PySem.W.callWith_K0 (first := [.ref a]) J.kIn hm.kp (run_fn (us := [.ref a]) (vs := [.ref a]) F (hr.mono hk) b d pass0 J (.cons rfl .nil) q))
  · obtain ⟨f, fd, ps, ds, cl, hm, F, b, d⟩ := c.ex
    cases rx
    exact getmeth_ok J ea cl hm l (PySem.W.callWith_K0 (first := [.ref a]) J.kIn hm.kp (run_fnE (us := [.ref a]) (vs := [.ref a]) F (hr.mono hk) b d tk J (.cons rfl .nil) q))
theorem e_cmW {pl : Sem Bool} (hr : Room j X.A) (hg : Gl X x) (tk : Takes X W) (ha : PA X (e :: es) t) (hdb : (x == ("__debug__" : Str)) = false := by decide)
    (hst : starEach (e :: es) X.env = (false, eval e X.env) :: starEach es X.env := by rfl) (hpl : (backTo pos (starEach es X.env)).any (·.1) = false := by rfl)
    (ht : eval (.Call (.Attribute (.Name x p) m apos) (e :: es) [] pos) X.env = (do
      let ov ← eval (.Name x p) X.env
      standAt apos.atName
      let (f, first) ← holding [ov] (getMethod ov m pl)
      callWith pos f first (backTo pos (starEach (e :: es) X.env)) (backToKw pos (keywordEach [] X.env))) := by rfl) :
    PE X (.Call (.Attribute (.Name x p) m apos) (e :: es) [] pos) (tCmW (enOf X) j x m t W) := by
  refine ⟨fun pins s σ H Q I h => ?_⟩
  rcases h with h | ⟨k, sp, dvs, c, hk, q⟩
  · exact (e_cm hr hg ha hdb hst hpl ht).run pins s σ H Q I h
  obtain ⟨C, f, mc, fd, ps, ds, hm, rd, cv, kp, F, b, d⟩ := c.ex
  refine PySem.W.methodCall_KW (pl := pl) (thn ((e_cls (pos := p) hg hm hdb).run pins s σ H (fun v H1 => v = .ref C ∧ H1 = H) I ⟨rfl, rfl⟩) fun u s1 ⟨v, H1, J, rx, ev, eH⟩ => ?_) ht
  subst ev eH
  cases rx
  refine PySem.W.method_cls J.kIn rd.ga (ClX.getcval_ok J rd cv fun s2 J2 => PySem.W.callWith_K (first := []) (h₀ := X.base) I.ok.mod.kin kp (thn (ha.run pos pins s2 σ _ _ J2 q) fun us s3 ⟨vs, H2, J3, r, q2⟩ => ⟨J3.kIn, ?_⟩) hst hpl)
  exact run_fnE (us := us) (vs := vs) F (hr.mono hk) b d tk J3 r q2
end
/-! ### a def by its body, where it may raise -/
section
variable {G : En} {x qual : Str} {st : Stmt} {dvs : List V} {f : Addr} {fd : FuncData} {N ps : List Str} {k : Nat} {sp : Sp} {t : WX → TS}
abbrev cxE (G : En) (N : List Str) (qual : Str) (st : Stmt) (f : Addr) (cdv : Value) (A : Around) (outer : List Env) (s : Shared) (H : Hp) (E : XK) : Cx :=
  cxOf (CXe G) G.prog G.w G.K G.mg G.base N qual (defScope st) f cdv A outer s H E
theorem takesE {cdv : Value} {A : Around} {outer : List Env} {s : Shared} {H : Hp} {E : XK} : Takes (cxE G N qual st f cdv A outer s H E) (WD E) := takes_of rfl rfl rfl rfl
theorem fn_okE (F : FnP G.K x qual st dvs f fd) (S : FnScope N ps (defScope st)) (len : ∀ vs H Q E, sp vs H Q E → vs.length = ps.length)
    (dv : ∀ (cdv : Value) (A : Around) (outer : List Env) (s : Shared) (H : Hp) (E : XK), rm0 k qual st f cdv A s → PSs (cxE G N qual st f cdv A outer s H E) (defBody st) (t (WD E)))
    (pure : ∀ vs H Q E, sp vs H Q E → t (WD E) { nx := fun _ H' => Q .non H', rt := Q } (start N vs) H) : FnE G (k + 1) f fd ps sp :=
  F.ok S len fun cdv A outer s H vs Q E hr h => ⟨t (WD E), dv cdv A outer s H E hr, pure vs H Q E h⟩
end
/-! ### the classes -/
def bmV : List Value := [.type "ValueError", .type "Exception", .type "BaseException", .type "object"]
def excB (K : PySem.W.Frag) (x : Str) : Bool :=
  PySem.W.excIn K (He.ga K x) bmV "ValueError.__new__" && (PySem.W.keepIn K (.ref (He.ga K x)) && ((PySem.W.subIn K (.ref (He.ga K x)) (.type "BaseException") == some true) && ((PySem.W.typeIn K (.ref (He.ga K x)) == some (.type "type")) &&
  ((PySem.W.findIn K (.ref (He.ga K x)) "__getattribute__" == some (some (.builtin "BaseException.__getattribute__"))) && ((PySem.W.findIn K (.ref (He.ga K x)) "__getattr__" == some none) && (PySem.W.hasDictIn K (He.ga K x) && ((PySem.W.findIn K (.ref (He.ga K x)) "__class__" == some (some (.builtin "object.__class__"))) &&
  ((PySem.W.specialIn K (.builtin "object.__class__") "__get__" == some (some (.builtin "getset_descriptor.__get__"))) && ((PySem.W.takesIn K (.builtin "object.__class__") == some true) && (PySem.W.mroIn K (He.ga K x) (.type "object") == some true))))))))))
structure ExK (K : PySem.W.Frag) (x : Str) : Prop where
  xc : PySem.W.excIn K (He.ga K x) bmV "ValueError.__new__" = true
  kp : PySem.W.keepIn K (.ref (He.ga K x)) = true
  sb : PySem.W.subIn K (.ref (He.ga K x)) (.type "BaseException") = some true
  ty : PySem.W.typeIn K (.ref (He.ga K x)) = some (.type "type")
  ec : ExcC K (He.ga K x)
theorem excB_ok {K : PySem.W.Frag} {x : Str} (h : excB K x = true) : ExK K x := by
  unfold excB at h
  simp only [Bool.and_eq_true, beq_iff_eq] at h
  obtain ⟨h1, h2, h3, h4, h5, h6, h7, h8, h9, h10, h11⟩ := h
  exact ⟨h1, h2, h3, h4, h5, h6, h3, h7, h8, h9, h10, h11⟩
/-- how the class x stands to the class c: in except, in isinstance -/
def relB (K : PySem.W.Frag) (x c : Str) (b : Bool) : Bool := (PySem.W.exmOne K (.ref (He.ga K x)) (.ref (He.ga K c)) == some b) && (PySem.W.kitOne K (.ref (He.ga K x)) (.ref (He.ga K c)) == some b)
structure RelK (K : PySem.W.Frag) (x c : Str) (b : Bool) : Prop where
  ex : PySem.W.exmOne K (.ref (He.ga K x)) (.ref (He.ga K c)) = some b
  ki : PySem.W.kitOne K (.ref (He.ga K x)) (.ref (He.ga K c)) = some b
theorem relB_ok {K : PySem.W.Frag} {x c : Str} {b : Bool} (h : relB K x c b = true) : RelK K x c b := by
  unfold relB at h
  simp only [Bool.and_eq_true, beq_iff_eq] at h
  exact ⟨h.1, h.2⟩
section
variable {X : Cx} {x c : Str} {W : WX} {p pos pos2 p2 : Pos} {m : Str} {i : Nat}
theorem s_raise (hc : X.calm = true) (tk : Takes X W) (F : ExK X.K x) (g : X.mg x = some (.ref (He.ga X.K x))) (hg : Gl X x) (hdb : (x == ("__debug__" : Str)) = false := by decide) :
    PS X (.Raise (some (.Call (.Name x p) [.Constant (.str m) i p2] [] pos)) none pos2) (tRaise (He.ga X.K x) W) :=
  ps_raise hc tk (pmk_own PySem.F.excBase_ValueError F.xc g F.kp (raises_own F.sb F.ty) hg hdb)
/-- isinstance(e, C), e kept from an except clause -/
def rIsX (K : PySem.W.Frag) : List V → Hp → VK → Prop := fun xs H Q => ∃ (a D : Addr) (c : V) (cv : Value) (b : Bool), xs = [.ref a, c] ∧ H a = some (ExT (.ref D) none a) ∧ ExcC K D ∧ ClsV c cv ∧ PySem.W.kitOne K (.ref D) cv = some b ∧ Q (.bl b) H
theorem c_isX : CallR X (.builtin "isinstance") (rIsX X.K) := by
  intro pins s σ H xs us Q I r h
  obtain ⟨a, D, c, cv, b, rfl, ha, C, kc, e, q⟩ := h
  cases r with
  | cons rx rr =>
    cases rr with
    | cons rt rr =>
      cases rr
      cases rx
      cases kc.eq rt
      obtain ⟨⟨oe, vs, g1, z, f⟩, _⟩ : _ ∧ _ := (show ObjOk X.prog X.w H s.heap a (ExT (.ref D) none a) from I.hok a _ ha)
      have J : PySem.W.InstAt s.heap a oe D none := by
        obtain ⟨oc, od, oda, osl⟩ := oe
        obtain ⟨z1, z2⟩ := z
        cases z1; cases z2; cases f
        exact ⟨g1, rfl, rfl, trivial⟩
      exact PySem.W.kia_one (PySem.W.handS_kitx_exc C.hg C.hk C.hs C.hd C.ha C.hn C.ht C.hm) I.kIn J e (fun z => nomatch z) fun tk => ⟨.bl b, H, I.kept (t' := tk) fun _ _ z => z, rfl, q⟩
theorem x_isX {K : PySem.W.Frag} {H : Hp} {Q : VK} {a D : Addr} {c : V} {cv : Value} {b : Bool} (ha : H a = some (ExT (.ref D) none a)) (C : ExcC K D) (kc : ClsV c cv) (e : PySem.W.kitOne K (.ref D) cv = some b) (q : Q (.bl b) H) : rIsX K [.ref a, c] H Q := ⟨a, D, c, cv, b, rfl, ha, C, kc, e, q⟩
end
/-! ### steps -/
section
variable {G : En} {j k : Nat} {f x m : Str} {sp : Sp} {dvs : List V} {t : TA} {ta : TE} {W : WX} {σ : Stt} {H : Hp} {Q : VK} {a C dx : Addr} {fs : List (Str × V)} {D : Ends} {cls : Value} {dd : Option Addr}
theorem x_callW0 (c : CalG G k f sp dvs) (hk : k ≤ j) (q : t σ H fun vs H1 => sp (vs ++ dvs) H1 Q E0) : tCallW G j f t W σ H Q := .inl ⟨k, sp, dvs, c, hk, q⟩
theorem x_callWE (c : CalE G k f sp dvs) (hk : k ≤ j) (q : t σ H fun vs H1 => sp (vs ++ dvs) H1 Q (WE W σ)) : tCallW G j f t W σ H Q := .inr ⟨k, sp, dvs, c, hk, q⟩
theorem x_cmW0 (c : CmG G k x m sp dvs) (hk : k ≤ j) (q : t σ H fun vs H1 => sp (vs ++ dvs) H1 Q E0) : tCmW G j x m t W σ H Q := .inl ⟨k, sp, dvs, c, hk, q⟩
theorem x_cmWE (c : CmE G k x m sp dvs) (hk : k ≤ j) (q : t σ H fun vs H1 => sp (vs ++ dvs) H1 Q (WE W σ)) : tCmW G j x m t W σ H Q := .inr ⟨k, sp, dvs, c, hk, q⟩
theorem x_makeW0 (c : MakG G k f C sp dvs) (hk : k + 1 ≤ j) (q : t σ H fun vs H1 => MakeG C sp dvs vs H1 Q) : tMakeW G j f t W σ H Q := .inl ⟨k, C, sp, dvs, c, hk, q⟩
theorem x_makeWE (c : MakE G k f C sp dvs) (hk : k + 1 ≤ j) (q : t σ H fun vs H1 => MakeE C sp dvs vs (WE W σ) H1 Q) : tMakeW G j f t W σ H Q := .inr ⟨k, C, sp, dvs, c, hk, q⟩
theorem x_methW (q : ta σ H fun x H1 => MethW G j m t W σ x H1 Q) : tMethW G j m ta t W σ H Q := q
theorem x_methW0 (h : H a = some (.ins C dx fs)) (c : MetG G k C m sp dvs) (hk : k ≤ j) (l : fs.lookup m = none) (q : t σ H fun vs H2 => sp (.ref a :: (vs ++ dvs)) H2 Q E0) : MethW G j m t W σ (.ref a) H Q := .inl ⟨a, C, dx, fs, k, sp, dvs, rfl, h, l, c, hk, q⟩
theorem x_methWE (h : H a = some (.ins C dx fs)) (c : MetE G k C m sp dvs) (hk : k ≤ j) (l : fs.lookup m = none) (q : t σ H fun vs H2 => sp (.ref a :: (vs ++ dvs)) H2 Q (WE W σ)) : MethW G j m t W σ (.ref a) H Q := .inr ⟨a, C, dx, fs, k, sp, dvs, rfl, h, l, c, hk, q⟩
theorem x_try {K : PySem.W.Frag} {Wout : WX} {l : List Cls3} {tb : WX → TS} (q : tb (wCl K Wout D l) D σ H) : tTry K Wout l tb D σ H := q
theorem x_raise (q : W (.ref C) none σ H) : tRaise C W D σ H := q
theorem wCl_yes {K : PySem.W.Frag} {Wout : WX} {q : Cls3} {r : List Cls3} (e : PySem.W.exmOne K cls q.1 = some true) (h : ∀ a, H a = none → q.2.2 a cls dd (endsT q.2.1 a cls dd D) (σ.set q.2.1 (some (.ref a))) H) : wCl K Wout D (q :: r) cls dd σ H := ⟨true, e, fun _ => h, fun z => nomatch z⟩
theorem wCl_no {K : PySem.W.Frag} {Wout : WX} {q : Cls3} {r : List Cls3} (e : PySem.W.exmOne K cls q.1 = some false) (h : wCl K Wout D r cls dd σ H) : wCl K Wout D (q :: r) cls dd σ H := ⟨false, e, (fun z => nomatch z), fun _ => h⟩
end

/-! ### exceptions that carry a thing -/
def oexB0 (K : PySem.W.Frag) (C : Addr) : Bool := match K.lookup C with
  | some ⟨.type "type", _, .cls cd, sl⟩ => (match cd.mro, sl.toList with
    | .ref C' :: bm, [_, _, _, _, some (.builtin n), _] => C' == C && (n == "ValueError.__new__" && (!cd.hasDel && (cd.hasDict && PySem.HandSPX.refsVE bm)))
    | _, _ => false)
  | _ => false
theorem oexB0_ok {K : PySem.W.Frag} {C : Addr} (q : oexB0 K C = true) : ∃ nm qn N bs bm sn sub ab col dd k0 k1 k2 k3 k5, K.lookup C = some (excClassObj nm qn C N bs bm true sn sub ab col dd k0 k1 k2 k3 k5 "ValueError.__new__") ∧ PySem.HandSPX.refsVE bm = true := by
  unfold oexB0 at q
  split at q
  · rename_i dd cd sl ho
    split at q
    · rename_i C' bm k0 k1 k2 k3 n k5 hm hs
      simp only [Bool.and_eq_true, beq_iff_eq, Bool.not_eq_true'] at q
      obtain ⟨rfl, rfl, hdel, hdict, hr⟩ := q
      obtain ⟨nm, bs, mro, ns, qn, hd, sn, sub, ab, col, del⟩ := cd
      dsimp only at hm hdel hdict
      subst hm hdel hdict
      have hsl : sl = #[k0, k1, k2, k3, some (.builtin "ValueError.__new__"), k5] := by
        obtain ⟨l⟩ := sl
        simp only at hs
        rw [hs]
      subst hsl
      exact ⟨nm, qn, ns, bs, bm, sn, sub, ab, col, dd, k0, k1, k2, k3, k5, ho, hr⟩
    · cases q
  · cases q
def oeB (K : PySem.W.Frag) (x f : Str) : Bool :=
  oexB0 K (He.ga K x) && ((PySem.W.findIn K (.ref (He.ga K x)) "__setattr__" == some (some (.builtin "object.__setattr__"))) && ((PySem.W.subIn K (.ref (He.ga K x)) (.type "BaseException") == some true) && ((PySem.W.typeIn K (.ref (He.ga K x)) == some (.type "type")) &&
  (PySem.W.keepIn K (.ref (He.ga K x)) && ((PySem.W.findIn K (.ref (He.ga K x)) "__getattribute__" == some (some (.builtin "BaseException.__getattribute__"))) && ((PySem.W.findIn K (.ref (He.ga K x)) "__getattr__" == some none) && (PySem.W.hasDictIn K (He.ga K x) &&
  ((PySem.W.findIn K (.ref (He.ga K x)) f == some none) && ((PySem.W.findIn K (.ref (He.ga K x)) "__init__" == some (some (.ref (He.ma K (He.ga K x) "__init__")))) && (PySem.W.typeIn K (.ref (He.ma K (He.ga K x) "__init__")) == some (.type "function")))))))))))
structure OeK (K : PySem.W.Frag) (x f : Str) : Prop where
  o : OexC K (He.ga K x)
  xf : XfC K (He.ga K x)
  nh : PySem.W.findIn K (.ref (He.ga K x)) f = some none
  iC : PySem.W.findIn K (.ref (He.ga K x)) "__init__" = some (some (.ref (He.ma K (He.ga K x) "__init__")))
  tI : PySem.W.typeIn K (.ref (He.ma K (He.ga K x) "__init__")) = some (.type "function")
theorem oeB_ok {K : PySem.W.Frag} {x f : Str} (h : oeB K x f = true) : OeK K x f := by
  unfold oeB at h
  simp only [Bool.and_eq_true, beq_iff_eq] at h
  obtain ⟨h1, h2, h3, h4, h5, h6, h7, h8, h9, h10, h11⟩ := h
  exact ⟨⟨oexB0_ok h1, h2, h3, h4, h5⟩, ⟨h6, h7, h3, h8⟩, h9, h10, h11⟩
/-- what __init__ does with the thing -/
def spOst (K : PySem.W.Frag) (f : Str) : Sp := fun vs H Q _ => ∃ (a C : Addr) (y : V), vs = [.ref a, y] ∧ OexC K C ∧ PySem.W.findIn K (.ref C) f = some none ∧ H a = some (exo a C none) ∧ ∀ dx, H dx = none → dx ≠ a → Q .non (upd (upd H dx (exd dx [(f, y)])) a (exo a C (some dx)))
theorem spOst_len {K : PySem.W.Frag} {f : Str} : ∀ vs H Q E, spOst K f vs H Q E → vs.length = 2 := fun vs H Q E h => by
  obtain ⟨a, C, y, rfl, _⟩ := h
  rfl
structure OexG (G : En) (k : Nat) (x f : Str) : Prop where
  ex : ∃ (fd : FuncData) (ps : List Str) (ds : List Value), OeK G.K x f ∧ FnG G CX0 k (He.ma G.K (He.ga G.K x) "__init__") fd ps (spOst G.K f) ∧ Binds G.K fd ps ds ∧ Vals [] ds ∧ G.mg x = some (.ref (He.ga G.K x))
def MkOG (C : Addr) (sp : Sp) (W : WX) (σ : Stt) (vs : List V) (H1 : Hp) : Prop := vs.length ≤ 1000 ∧ ∀ a, H1 a = none → sp (.ref a :: (vs ++ [])) (upd H1 a (exo a C none))
  (fun v H2 => v = .non ∧ ∃ (d : Addr) (fs : List (Str × V)), H2 a = some (exo a C (some d)) ∧ H2 d = some (exd d fs) ∧ H1 d = none ∧ W (.ref C) (some d) σ (upd (del H2 a) d (.xd fs))) (fun _ _ _ => False)
def tRaiseH (K : PySem.W.Frag) (C : Addr) (f : Str) (ta : TA) (W : WX) : TS := fun _ σ H => ta σ H fun vs H1 => MkOG C (spOst K f) W σ vs H1
section
variable {X : Cx} {x f : Str} {W : WX} {p pos pos2 : Pos} {e : Expr} {es : List Expr} {ta : TA} {j k : Nat}
theorem s_raiseH (hc : X.calm = true) (hr : Room j X.A) (tk : Takes X W) (O : OexG (enOf X) k x f) (hk : k + 1 ≤ j) (hg : Gl X x) (ha : PA X (e :: es) ta) (hdb : (x == ("__debug__" : Str)) = false := by decide)
    (he : starEach (e :: es) X.env = (false, eval e X.env) :: starEach es X.env := by rfl) (hpl : (backTo pos (starEach es X.env)).any (·.1) = false := by rfl) :
    PS X (.Raise (some (.Call (.Name x p) (e :: es) [] pos)) none pos2) (tRaiseH X.K (He.ga X.K x) f ta W) := by
  obtain ⟨fd, ps, ds, T, F1, hb, hd, hm⟩ := O.ex
  exact ps_raise hc tk (pmk_oex T.o T.iC T.tI F1 (hr.mono hk) hb hd pass0 hg hm ha hdb he hpl)
end
theorem x_raiseH {K : PySem.W.Frag} {C : Addr} {f : Str} {ta : TA} {W : WX} {D : Ends} {σ : Stt} {H : Hp} (k : ta σ H fun vs H1 => MkOG C (spOst K f) W σ vs H1) : tRaiseH K C f ta W D σ H := k
theorem x_mkO {K : PySem.W.Frag} {x f : Str} {W : WX} {σ : Stt} {H1 : Hp} {y : V} (T : OeK K x f) (k : ∀ d, H1 d = none → W (.ref (He.ga K x)) (some d) σ (upd H1 d (.xd [(f, y)]))) : MkOG (He.ga K x) (spOst K f) W σ [y] H1 := by
  refine ⟨Nat.le_of_ble_eq_true rfl, fun a ha => ⟨a, _, y, rfl, T.o, T.nh, upd_same, fun dx hdx dne => ⟨rfl, dx, [(f, y)], upd_same, ?_, ?_, ?_⟩⟩⟩
  · rw [upd_ne dne, upd_same]
  · rw [upd_ne dne] at hdx
    exact hdx
  · rw [upd_ne dne] at hdx
    have e : upd (del (upd (upd (upd H1 a (exo a (He.ga K x) none)) dx (exd dx [(f, y)])) a (exo a (He.ga K x) (some dx))) a) dx (.xd [(f, y)]) = upd H1 dx (.xd [(f, y)]) := by
      funext b
      by_cases c : b = dx
      · rw [c, upd_same, upd_same]
      · rw [upd_ne c, upd_ne c]
        by_cases c2 : b = a
        · rw [c2, del_same, ha]
        · rw [del_ne c2, upd_ne c2, upd_ne c, upd_ne c2]
    rw [e]
    exact k dx hdx
theorem e_xf {X Y : Cx} {a C : Addr} {oe : Obj} {cls : Value} {d : Option Addr} {pn : List (Addr × Obj)} {e : Expr} {te : TE} {pos : Pos} {n : Str} (he : PE Y e te) (hY : Y = X.suite a ((a, oe) :: pn)) (T : XfC X.K C) (hno : PySem.W.findIn X.K (.ref C) n = some none)
    (hz : Zc cls d oe) (hf : ∃ vs, oe.data = .fields vs) (hb : attributeBase e n Y.env (eval e Y.env) = eval e Y.env := by rfl) : PE Y (.Attribute e n pos) (tXf a cls d C n te) := by
  subst hY
  exact pe_xf T hno hz hf he hb
theorem x_xf {a C : Addr} {f : Str} {te : TE} {σ : Stt} {H : Hp} {Q : VK} {dd : Addr} (k : te σ H fun x H1 => x = .ref a ∧ ∃ (fs : List (Str × V)) (v : V), H1 dd = some (.xd fs) ∧ fs.lookup f = some v ∧ Q v H1) (mono : ∀ {Q1 Q2 : VK}, (∀ v H, Q1 v H → Q2 v H) → te σ H Q1 → te σ H Q2) : tXf a (.ref C) (some dd) C f te σ H Q :=
  mono (fun x H1 h => by
    obtain ⟨e, fs, v, h1, h2, h3⟩ := h
    exact ⟨e, rfl, dd, fs, v, rfl, h1, h2, h3⟩) k

/-! ### the text by places -/
def top (i : Nat) : Stmt := PySem.Challenge.pw_quietnet_k12_ring_passed.main.body.getD i (.Pass ⟨0, 0, 0, 0⟩)
abbrev s__wall : Stmt := top 0
abbrev s_Asleep_init : Stmt := inClass (top 6) 0
abbrev s_Awake_init : Stmt := inClass (top 7) 0
abbrev s_is_whole : Stmt := top 12
abbrev s_look_number : Stmt := top 13
abbrev s_look_start : Stmt := top 18
abbrev s_Net_init : Stmt := inClass (top 19) 0
abbrev s_Net_look_hand : Stmt := inClass (top 19) 1
abbrev s_Net_look_way : Stmt := inClass (top 19) 2
abbrev s_Net_put : Stmt := inClass (top 19) 3
abbrev s_Net_mark : Stmt := inClass (top 19) 4
abbrev s_Net_after_rest : Stmt := inClass (top 19) 5
abbrev s_Net_after_work : Stmt := inClass (top 19) 6
abbrev s_Net_after_control : Stmt := inClass (top 19) 7
abbrev s_Net_before_work : Stmt := inClass (top 19) 8
abbrev s_Net_send : Stmt := inClass (top 19) 9
abbrev s_Net_rest : Stmt := inClass (top 19) 10
abbrev s_Net_come : Stmt := inClass (top 19) 11
abbrev s_Net_awake : Stmt := inClass (top 19) 12
abbrev s_Net_purse : Stmt := inClass (top 19) 13
abbrev s_Net_on_way : Stmt := inClass (top 19) 14
abbrev s_Net_loads : Stmt := inClass (top 19) 15
abbrev s_Net_ways : Stmt := inClass (top 19) 16
abbrev s_Net_letters : Stmt := inClass (top 19) 17
abbrev s_Net_quiet : Stmt := inClass (top 19) 18
abbrev s_Ring_init : Stmt := inClass (top 22) 0
abbrev s_Ring_mark : Stmt := inClass (top 22) 1
abbrev s_Ring_after_work : Stmt := inClass (top 22) 2
abbrev s_Ring_after_control : Stmt := inClass (top 22) 3
abbrev s_Ring_pass_on : Stmt := inClass (top 22) 4
abbrev s_Ring_told : Stmt := inClass (top 22) 5
abbrev s_Ring_token : Stmt := inClass (top 22) 6
abbrev s_Ring_colour : Stmt := inClass (top 22) 7
abbrev s_Ring_more_sent : Stmt := inClass (top 22) 8
abbrev s__law_town : Stmt := top 24
abbrev s__law_draw : Stmt := top 25
abbrev s__law_pick : Stmt := top 26
abbrev s__law_refusal : Stmt := top 27
abbrev s__law_start : Stmt := top 28
abbrev s__law_other : Stmt := top 29
abbrev s__law_act : Stmt := top 30
abbrev s__law_let : Stmt := top 31
abbrev s__law_go : Stmt := top 32
abbrev s__law_pass : Stmt := top 33
abbrev s_law : Stmt := top 34
abbrev cl_NetError (K : PySem.W.Frag) : Addr := He.ga K "NetError"
abbrev cl_BadNumber (K : PySem.W.Frag) : Addr := He.ga K "BadNumber"
abbrev cl_BadStart (K : PySem.W.Frag) : Addr := He.ga K "BadStart"
abbrev cl_NoHand (K : PySem.W.Frag) : Addr := He.ga K "NoHand"
abbrev cl_Asleep (K : PySem.W.Frag) : Addr := He.ga K "Asleep"
abbrev cl_Awake (K : PySem.W.Frag) : Addr := He.ga K "Awake"
abbrev cl_TooMuch (K : PySem.W.Frag) : Addr := He.ga K "TooMuch"
abbrev cl_NoLetter (K : PySem.W.Frag) : Addr := He.ga K "NoLetter"
abbrev cl_NotNow (K : PySem.W.Frag) : Addr := He.ga K "NotNow"
abbrev cl_BadStory (K : PySem.W.Frag) : Addr := He.ga K "BadStory"
abbrev cl_Net (K : PySem.W.Frag) : Addr := He.ga K "Net"
abbrev cl_Ring (K : PySem.W.Frag) : Addr := He.ga K "Ring"
def d__wall : He.DefD := ⟨("_wall", none), "_wall", "_wall", defArgs s__wall, defBody s__wall, defScope s__wall, [], []⟩
def d_is_whole : He.DefD := ⟨("is_whole", none), "is_whole", "is_whole", defArgs s_is_whole, defBody s_is_whole, defScope s_is_whole, [], []⟩
def d_look_number : He.DefD := ⟨("look_number", none), "look_number", "look_number", defArgs s_look_number, defBody s_look_number, defScope s_look_number, [], []⟩
def d_look_start : He.DefD := ⟨("look_start", none), "look_start", "look_start", defArgs s_look_start, defBody s_look_start, defScope s_look_start, [], []⟩
def d__law_town : He.DefD := ⟨("_law_town", none), "_law_town", "_law_town", defArgs s__law_town, defBody s__law_town, defScope s__law_town, [], []⟩
def d__law_draw : He.DefD := ⟨("_law_draw", none), "_law_draw", "_law_draw", defArgs s__law_draw, defBody s__law_draw, defScope s__law_draw, [], []⟩
def d__law_pick : He.DefD := ⟨("_law_pick", none), "_law_pick", "_law_pick", defArgs s__law_pick, defBody s__law_pick, defScope s__law_pick, [], []⟩
def d__law_refusal : He.DefD := ⟨("_law_refusal", none), "_law_refusal", "_law_refusal", defArgs s__law_refusal, defBody s__law_refusal, defScope s__law_refusal, [], []⟩
def d__law_start : He.DefD := ⟨("_law_start", none), "_law_start", "_law_start", defArgs s__law_start, defBody s__law_start, defScope s__law_start, [], []⟩
def d__law_other : He.DefD := ⟨("_law_other", none), "_law_other", "_law_other", defArgs s__law_other, defBody s__law_other, defScope s__law_other, [], []⟩
def d__law_act : He.DefD := ⟨("_law_act", none), "_law_act", "_law_act", defArgs s__law_act, defBody s__law_act, defScope s__law_act, [], []⟩
def d__law_let : He.DefD := ⟨("_law_let", none), "_law_let", "_law_let", defArgs s__law_let, defBody s__law_let, defScope s__law_let, [], []⟩
def d__law_go : He.DefD := ⟨("_law_go", none), "_law_go", "_law_go", defArgs s__law_go, defBody s__law_go, defScope s__law_go, [], []⟩
def d__law_pass : He.DefD := ⟨("_law_pass", none), "_law_pass", "_law_pass", defArgs s__law_pass, defBody s__law_pass, defScope s__law_pass, [], []⟩
def d_law : He.DefD := ⟨("law", none), "law", "law", defArgs s_law, defBody s_law, defScope s_law, [], []⟩
def d_Net_init : He.DefD := ⟨("Net", some "__init__"), "__init__", "Net.__init__", defArgs s_Net_init, defBody s_Net_init, defScope s_Net_init, [], []⟩
def d_Net_look_hand : He.DefD := ⟨("Net", some "look_hand"), "look_hand", "Net.look_hand", defArgs s_Net_look_hand, defBody s_Net_look_hand, defScope s_Net_look_hand, [], []⟩
def d_Net_look_way : He.DefD := ⟨("Net", some "look_way"), "look_way", "Net.look_way", defArgs s_Net_look_way, defBody s_Net_look_way, defScope s_Net_look_way, [], []⟩
def d_Net_put : He.DefD := ⟨("Net", some "put"), "put", "Net.put", defArgs s_Net_put, defBody s_Net_put, defScope s_Net_put, [], []⟩
def d_Net_mark : He.DefD := ⟨("Net", some "mark"), "mark", "Net.mark", defArgs s_Net_mark, defBody s_Net_mark, defScope s_Net_mark, [], []⟩
def d_Net_after_rest : He.DefD := ⟨("Net", some "after_rest"), "after_rest", "Net.after_rest", defArgs s_Net_after_rest, defBody s_Net_after_rest, defScope s_Net_after_rest, [], []⟩
def d_Net_after_work : He.DefD := ⟨("Net", some "after_work"), "after_work", "Net.after_work", defArgs s_Net_after_work, defBody s_Net_after_work, defScope s_Net_after_work, [], []⟩
def d_Net_after_control : He.DefD := ⟨("Net", some "after_control"), "after_control", "Net.after_control", defArgs s_Net_after_control, defBody s_Net_after_control, defScope s_Net_after_control, [], []⟩
def d_Net_before_work : He.DefD := ⟨("Net", some "before_work"), "before_work", "Net.before_work", defArgs s_Net_before_work, defBody s_Net_before_work, defScope s_Net_before_work, [], []⟩
def d_Net_send : He.DefD := ⟨("Net", some "send"), "send", "Net.send", defArgs s_Net_send, defBody s_Net_send, defScope s_Net_send, [.int 0], []⟩
def d_Net_rest : He.DefD := ⟨("Net", some "rest"), "rest", "Net.rest", defArgs s_Net_rest, defBody s_Net_rest, defScope s_Net_rest, [], []⟩
def d_Net_come : He.DefD := ⟨("Net", some "come"), "come", "Net.come", defArgs s_Net_come, defBody s_Net_come, defScope s_Net_come, [], []⟩
def d_Net_awake : He.DefD := ⟨("Net", some "awake"), "awake", "Net.awake", defArgs s_Net_awake, defBody s_Net_awake, defScope s_Net_awake, [], []⟩
def d_Net_purse : He.DefD := ⟨("Net", some "purse"), "purse", "Net.purse", defArgs s_Net_purse, defBody s_Net_purse, defScope s_Net_purse, [], []⟩
def d_Net_on_way : He.DefD := ⟨("Net", some "on_way"), "on_way", "Net.on_way", defArgs s_Net_on_way, defBody s_Net_on_way, defScope s_Net_on_way, [], []⟩
def d_Net_loads : He.DefD := ⟨("Net", some "loads"), "loads", "Net.loads", defArgs s_Net_loads, defBody s_Net_loads, defScope s_Net_loads, [], []⟩
def d_Net_ways : He.DefD := ⟨("Net", some "ways"), "ways", "Net.ways", defArgs s_Net_ways, defBody s_Net_ways, defScope s_Net_ways, [], []⟩
def d_Net_letters : He.DefD := ⟨("Net", some "letters"), "letters", "Net.letters", defArgs s_Net_letters, defBody s_Net_letters, defScope s_Net_letters, [], []⟩
def d_Net_quiet : He.DefD := ⟨("Net", some "quiet"), "quiet", "Net.quiet", defArgs s_Net_quiet, defBody s_Net_quiet, defScope s_Net_quiet, [], []⟩
def d_Ring_init : He.DefD := ⟨("Ring", some "__init__"), "__init__", "Ring.__init__", defArgs s_Ring_init, defBody s_Ring_init, defScope s_Ring_init, [], []⟩
def d_Ring_look_hand : He.DefD := ⟨("Ring", some "look_hand"), "look_hand", "Net.look_hand", defArgs s_Net_look_hand, defBody s_Net_look_hand, defScope s_Net_look_hand, [], []⟩
def d_Ring_look_way : He.DefD := ⟨("Ring", some "look_way"), "look_way", "Net.look_way", defArgs s_Net_look_way, defBody s_Net_look_way, defScope s_Net_look_way, [], []⟩
def d_Ring_put : He.DefD := ⟨("Ring", some "put"), "put", "Net.put", defArgs s_Net_put, defBody s_Net_put, defScope s_Net_put, [], []⟩
def d_Ring_mark : He.DefD := ⟨("Ring", some "mark"), "mark", "Ring.mark", defArgs s_Ring_mark, defBody s_Ring_mark, defScope s_Ring_mark, [], []⟩
def d_Ring_after_rest : He.DefD := ⟨("Ring", some "after_rest"), "after_rest", "Net.after_rest", defArgs s_Net_after_rest, defBody s_Net_after_rest, defScope s_Net_after_rest, [], []⟩
def d_Ring_after_work : He.DefD := ⟨("Ring", some "after_work"), "after_work", "Ring.after_work", defArgs s_Ring_after_work, defBody s_Ring_after_work, defScope s_Ring_after_work, [], []⟩
def d_Ring_after_control : He.DefD := ⟨("Ring", some "after_control"), "after_control", "Ring.after_control", defArgs s_Ring_after_control, defBody s_Ring_after_control, defScope s_Ring_after_control, [], []⟩
def d_Ring_before_work : He.DefD := ⟨("Ring", some "before_work"), "before_work", "Net.before_work", defArgs s_Net_before_work, defBody s_Net_before_work, defScope s_Net_before_work, [], []⟩
def d_Ring_send : He.DefD := ⟨("Ring", some "send"), "send", "Net.send", defArgs s_Net_send, defBody s_Net_send, defScope s_Net_send, [.int 0], []⟩
def d_Ring_rest : He.DefD := ⟨("Ring", some "rest"), "rest", "Net.rest", defArgs s_Net_rest, defBody s_Net_rest, defScope s_Net_rest, [], []⟩
def d_Ring_come : He.DefD := ⟨("Ring", some "come"), "come", "Net.come", defArgs s_Net_come, defBody s_Net_come, defScope s_Net_come, [], []⟩
def d_Ring_awake : He.DefD := ⟨("Ring", some "awake"), "awake", "Net.awake", defArgs s_Net_awake, defBody s_Net_awake, defScope s_Net_awake, [], []⟩
def d_Ring_purse : He.DefD := ⟨("Ring", some "purse"), "purse", "Net.purse", defArgs s_Net_purse, defBody s_Net_purse, defScope s_Net_purse, [], []⟩
def d_Ring_on_way : He.DefD := ⟨("Ring", some "on_way"), "on_way", "Net.on_way", defArgs s_Net_on_way, defBody s_Net_on_way, defScope s_Net_on_way, [], []⟩
def d_Ring_loads : He.DefD := ⟨("Ring", some "loads"), "loads", "Net.loads", defArgs s_Net_loads, defBody s_Net_loads, defScope s_Net_loads, [], []⟩
def d_Ring_ways : He.DefD := ⟨("Ring", some "ways"), "ways", "Net.ways", defArgs s_Net_ways, defBody s_Net_ways, defScope s_Net_ways, [], []⟩
def d_Ring_letters : He.DefD := ⟨("Ring", some "letters"), "letters", "Net.letters", defArgs s_Net_letters, defBody s_Net_letters, defScope s_Net_letters, [], []⟩
def d_Ring_quiet : He.DefD := ⟨("Ring", some "quiet"), "quiet", "Net.quiet", defArgs s_Net_quiet, defBody s_Net_quiet, defScope s_Net_quiet, [], []⟩
def d_Ring_pass_on : He.DefD := ⟨("Ring", some "pass_on"), "pass_on", "Ring.pass_on", defArgs s_Ring_pass_on, defBody s_Ring_pass_on, defScope s_Ring_pass_on, [], []⟩
def d_Ring_told : He.DefD := ⟨("Ring", some "told"), "told", "Ring.told", defArgs s_Ring_told, defBody s_Ring_told, defScope s_Ring_told, [], []⟩
def d_Ring_token : He.DefD := ⟨("Ring", some "token"), "token", "Ring.token", defArgs s_Ring_token, defBody s_Ring_token, defScope s_Ring_token, [], []⟩
def d_Ring_colour : He.DefD := ⟨("Ring", some "colour"), "colour", "Ring.colour", defArgs s_Ring_colour, defBody s_Ring_colour, defScope s_Ring_colour, [], []⟩
def d_Ring_more_sent : He.DefD := ⟨("Ring", some "more_sent"), "more_sent", "Ring.more_sent", defArgs s_Ring_more_sent, defBody s_Ring_more_sent, defScope s_Ring_more_sent, [], []⟩
def d_Awake_init : He.DefD := ⟨("Awake", some "__init__"), "__init__", "Awake.__init__", defArgs s_Awake_init, defBody s_Awake_init, defScope s_Awake_init, [], []⟩
def fn : List He.DefD := [d__wall, d_is_whole, d_look_number, d_look_start, d__law_town, d__law_draw, d__law_pick, d__law_refusal, d__law_start, d__law_other, d__law_act, d__law_let, d__law_go, d__law_pass, d_law, d_Net_init, d_Net_look_hand, d_Net_look_way, d_Net_put, d_Net_mark, d_Net_after_rest, d_Net_after_work, d_Net_after_control, d_Net_before_work, d_Net_send, d_Net_rest, d_Net_come, d_Net_awake, d_Net_purse, d_Net_on_way] ++ [d_Net_loads, d_Net_ways, d_Net_letters, d_Net_quiet, d_Ring_init, d_Ring_look_hand, d_Ring_look_way, d_Ring_put, d_Ring_mark, d_Ring_after_rest, d_Ring_after_work, d_Ring_after_control, d_Ring_before_work, d_Ring_send, d_Ring_rest, d_Ring_come, d_Ring_awake, d_Ring_purse, d_Ring_on_way, d_Ring_loads, d_Ring_ways, d_Ring_letters, d_Ring_quiet, d_Ring_pass_on, d_Ring_told, d_Ring_token, d_Ring_colour, d_Ring_more_sent, d_Awake_init]
def fa : List He.Fa := [.glo "_wall",
  .glo "NetError",
  .glo "BadNumber",
  .glo "BadStart",
  .glo "NoHand",
  .glo "Asleep",
  .glo "Awake",
  .glo "TooMuch",
  .glo "NoLetter",
  .glo "NotNow",
  .glo "BadStory",
  .glo "is_whole",
  .glo "look_number",
  .int "MOST_HANDS" 8,
  .int "PURSE" 100,
  .str "WORK" "work",
  .glo "look_start",
  .glo "Net",
  .str "TOKEN" "token",
  .glo "Ring",
  .glo "_law_town",
  .glo "_law_draw",
  .glo "_law_pick",
  .glo "_law_refusal",
  .glo "_law_start",
  .glo "_law_other",
  .glo "_law_act",
  .glo "_law_let",
  .glo "_law_go",
  .glo "_law_pass"] ++ [.glo "law",
  .free "min",
  .free "range",
  .free "isinstance",
  .free "int",
  .free "list",
  .free "all",
  .free "sorted",
  .free "sum",
  .free "len",
  .free "bool",
  .free "set",
  .free "ValueError",
  .cls "Net",
  .mkr "Net",
  .noat "Net" "many",
  .noat "Net" "up",
  .noat "Net" "purses",
  .noat "Net" "rows",
  .meth "Net" "__init__",
  .meth "Net" "look_hand",
  .meth "Net" "look_way",
  .meth "Net" "put",
  .meth "Net" "mark",
  .meth "Net" "after_rest",
  .meth "Net" "after_work",
  .meth "Net" "after_control",
  .meth "Net" "before_work",
  .meth "Net" "send",
  .meth "Net" "rest"] ++ [.meth "Net" "come",
  .meth "Net" "awake",
  .meth "Net" "purse",
  .meth "Net" "on_way",
  .meth "Net" "loads",
  .meth "Net" "ways",
  .meth "Net" "letters",
  .meth "Net" "quiet",
  .cls "Ring",
  .mkr "Ring",
  .noat "Ring" "many",
  .noat "Ring" "up",
  .noat "Ring" "purses",
  .noat "Ring" "rows",
  .noat "Ring" "count",
  .noat "Ring" "black",
  .noat "Ring" "holder",
  .noat "Ring" "bears",
  .noat "Ring" "dark",
  .noat "Ring" "done",
  .meth "Ring" "__init__",
  .meth "Ring" "look_hand",
  .meth "Ring" "look_way",
  .meth "Ring" "put",
  .meth "Ring" "mark",
  .meth "Ring" "after_rest",
  .meth "Ring" "after_work",
  .meth "Ring" "after_control",
  .meth "Ring" "before_work",
  .meth "Ring" "send"] ++ [.meth "Ring" "rest",
  .meth "Ring" "come",
  .meth "Ring" "awake",
  .meth "Ring" "purse",
  .meth "Ring" "on_way",
  .meth "Ring" "loads",
  .meth "Ring" "ways",
  .meth "Ring" "letters",
  .meth "Ring" "quiet",
  .meth "Ring" "pass_on",
  .meth "Ring" "told",
  .meth "Ring" "token",
  .meth "Ring" "colour",
  .meth "Ring" "more_sent"]
def exK (K : PySem.W.Frag) : Bool := cmB K "Net" "__init__" && (excB K "NoHand" && (relB K "NoHand" "NetError" true && (relB K "NoHand" "BadNumber" false && (relB K "NoHand" "BadStart" false && (relB K "NoHand" "NoHand" true && (relB K "NoHand" "Asleep" false && (relB K "NoHand" "Awake" false && (relB K "NoHand" "TooMuch" false && (relB K "NoHand" "NoLetter" false && (relB K "NoHand" "NotNow" false && (relB K "NoHand" "BadStory" false && ((PySem.W.kitOne K (.ref (He.ga K "NoHand")) (.type "ValueError") == some true) && (excB K "NotNow" && (relB K "NotNow" "NetError" true && (relB K "NotNow" "BadNumber" false && (relB K "NotNow" "BadStart" false && (relB K "NotNow" "NoHand" false && (relB K "NotNow" "Asleep" false && (relB K "NotNow" "Awake" false && (relB K "NotNow" "TooMuch" false && (relB K "NotNow" "NoLetter" false && (relB K "NotNow" "NotNow" true && (relB K "NotNow" "BadStory" false && ((PySem.W.kitOne K (.ref (He.ga K "NotNow")) (.type "ValueError") == some true) && (oeB K "Awake" "hand" && (relB K "Awake" "NetError" true && (relB K "Awake" "BadNumber" false && (relB K "Awake" "BadStart" false && (relB K "Awake" "NoHand" false && (relB K "Awake" "Asleep" false && (relB K "Awake" "Awake" true && (relB K "Awake" "TooMuch" false && (relB K "Awake" "NoLetter" false && (relB K "Awake" "NotNow" false && (relB K "Awake" "BadStory" false && (true))))))))))))))))))))))))))))))))))))
structure ExAll (K : PySem.W.Frag) : Prop where
  e0 : cmB K "Net" "__init__" = true
  e1 : excB K "NoHand" = true
  e2 : relB K "NoHand" "NetError" true = true
  e3 : relB K "NoHand" "BadNumber" false = true
  e4 : relB K "NoHand" "BadStart" false = true
  e5 : relB K "NoHand" "NoHand" true = true
  e6 : relB K "NoHand" "Asleep" false = true
  e7 : relB K "NoHand" "Awake" false = true
  e8 : relB K "NoHand" "TooMuch" false = true
  e9 : relB K "NoHand" "NoLetter" false = true
  e10 : relB K "NoHand" "NotNow" false = true
  e11 : relB K "NoHand" "BadStory" false = true
  e12 : (PySem.W.kitOne K (.ref (He.ga K "NoHand")) (.type "ValueError") == some true) = true
  e13 : excB K "NotNow" = true
  e14 : relB K "NotNow" "NetError" true = true
  e15 : relB K "NotNow" "BadNumber" false = true
  e16 : relB K "NotNow" "BadStart" false = true
  e17 : relB K "NotNow" "NoHand" false = true
  e18 : relB K "NotNow" "Asleep" false = true
  e19 : relB K "NotNow" "Awake" false = true
  e20 : relB K "NotNow" "TooMuch" false = true
  e21 : relB K "NotNow" "NoLetter" false = true
  e22 : relB K "NotNow" "NotNow" true = true
  e23 : relB K "NotNow" "BadStory" false = true
  e24 : (PySem.W.kitOne K (.ref (He.ga K "NotNow")) (.type "ValueError") == some true) = true
  e25 : oeB K "Awake" "hand" = true
  e26 : relB K "Awake" "NetError" true = true
  e27 : relB K "Awake" "BadNumber" false = true
  e28 : relB K "Awake" "BadStart" false = true
  e29 : relB K "Awake" "NoHand" false = true
  e30 : relB K "Awake" "Asleep" false = true
  e31 : relB K "Awake" "Awake" true = true
  e32 : relB K "Awake" "TooMuch" false = true
  e33 : relB K "Awake" "NoLetter" false = true
  e34 : relB K "Awake" "NotNow" false = true
  e35 : relB K "Awake" "BadStory" false = true
theorem exK_all {K : PySem.W.Frag} (h : exK K = true) : ExAll K := by
  have p0 := Bool.and_eq_true_iff.mp h
  have p1 := Bool.and_eq_true_iff.mp p0.2
  have p2 := Bool.and_eq_true_iff.mp p1.2
  have p3 := Bool.and_eq_true_iff.mp p2.2
  have p4 := Bool.and_eq_true_iff.mp p3.2
  have p5 := Bool.and_eq_true_iff.mp p4.2
  have p6 := Bool.and_eq_true_iff.mp p5.2
  have p7 := Bool.and_eq_true_iff.mp p6.2
  have p8 := Bool.and_eq_true_iff.mp p7.2
  have p9 := Bool.and_eq_true_iff.mp p8.2
  have p10 := Bool.and_eq_true_iff.mp p9.2
  have p11 := Bool.and_eq_true_iff.mp p10.2
  have p12 := Bool.and_eq_true_iff.mp p11.2
  have p13 := Bool.and_eq_true_iff.mp p12.2
  have p14 := Bool.and_eq_true_iff.mp p13.2
  have p15 := Bool.and_eq_true_iff.mp p14.2
  have p16 := Bool.and_eq_true_iff.mp p15.2
  have p17 := Bool.and_eq_true_iff.mp p16.2
  have p18 := Bool.and_eq_true_iff.mp p17.2
  have p19 := Bool.and_eq_true_iff.mp p18.2
  have p20 := Bool.and_eq_true_iff.mp p19.2
  have p21 := Bool.and_eq_true_iff.mp p20.2
  have p22 := Bool.and_eq_true_iff.mp p21.2
  have p23 := Bool.and_eq_true_iff.mp p22.2
  have p24 := Bool.and_eq_true_iff.mp p23.2
  have p25 := Bool.and_eq_true_iff.mp p24.2
  have p26 := Bool.and_eq_true_iff.mp p25.2
  have p27 := Bool.and_eq_true_iff.mp p26.2
  have p28 := Bool.and_eq_true_iff.mp p27.2
  have p29 := Bool.and_eq_true_iff.mp p28.2
  have p30 := Bool.and_eq_true_iff.mp p29.2
  have p31 := Bool.and_eq_true_iff.mp p30.2
  have p32 := Bool.and_eq_true_iff.mp p31.2
  have p33 := Bool.and_eq_true_iff.mp p32.2
  have p34 := Bool.and_eq_true_iff.mp p33.2
  have p35 := Bool.and_eq_true_iff.mp p34.2
  exact ⟨p0.1, p1.1, p2.1, p3.1, p4.1, p5.1, p6.1, p7.1, p8.1, p9.1, p10.1, p11.1, p12.1, p13.1, p14.1, p15.1, p16.1, p17.1, p18.1, p19.1, p20.1, p21.1, p22.1, p23.1, p24.1, p25.1, p26.1, p27.1, p28.1, p29.1, p30.1, p31.1, p32.1, p33.1, p34.1, p35.1⟩
/-! ### what the top has left -/
structure Wd (G : En) : Prop where
  g__wall : G.mg "_wall" = some (.ref (He.ga G.K "_wall"))
  g_NetError : G.mg "NetError" = some (.ref (He.ga G.K "NetError"))
  g_BadNumber : G.mg "BadNumber" = some (.ref (He.ga G.K "BadNumber"))
  g_BadStart : G.mg "BadStart" = some (.ref (He.ga G.K "BadStart"))
  g_NoHand : G.mg "NoHand" = some (.ref (He.ga G.K "NoHand"))
  g_Asleep : G.mg "Asleep" = some (.ref (He.ga G.K "Asleep"))
  g_Awake : G.mg "Awake" = some (.ref (He.ga G.K "Awake"))
  g_TooMuch : G.mg "TooMuch" = some (.ref (He.ga G.K "TooMuch"))
  g_NoLetter : G.mg "NoLetter" = some (.ref (He.ga G.K "NoLetter"))
  g_NotNow : G.mg "NotNow" = some (.ref (He.ga G.K "NotNow"))
  g_BadStory : G.mg "BadStory" = some (.ref (He.ga G.K "BadStory"))
  g_is_whole : G.mg "is_whole" = some (.ref (He.ga G.K "is_whole"))
  g_look_number : G.mg "look_number" = some (.ref (He.ga G.K "look_number"))
  k_MOST_HANDS : ∃ t, G.mg "MOST_HANDS" = some (.int 8 t)
  k_PURSE : ∃ t, G.mg "PURSE" = some (.int 100 t)
  k_WORK : ∃ t, G.mg "WORK" = some (.str "work" t)
  g_look_start : G.mg "look_start" = some (.ref (He.ga G.K "look_start"))
  g_Net : G.mg "Net" = some (.ref (He.ga G.K "Net"))
  k_TOKEN : ∃ t, G.mg "TOKEN" = some (.str "token" t)
  g_Ring : G.mg "Ring" = some (.ref (He.ga G.K "Ring"))
  g__law_town : G.mg "_law_town" = some (.ref (He.ga G.K "_law_town"))
  g__law_draw : G.mg "_law_draw" = some (.ref (He.ga G.K "_law_draw"))
  g__law_pick : G.mg "_law_pick" = some (.ref (He.ga G.K "_law_pick"))
  g__law_refusal : G.mg "_law_refusal" = some (.ref (He.ga G.K "_law_refusal"))
  g__law_start : G.mg "_law_start" = some (.ref (He.ga G.K "_law_start"))
  g__law_other : G.mg "_law_other" = some (.ref (He.ga G.K "_law_other"))
  g__law_act : G.mg "_law_act" = some (.ref (He.ga G.K "_law_act"))
  g__law_let : G.mg "_law_let" = some (.ref (He.ga G.K "_law_let"))
  g__law_go : G.mg "_law_go" = some (.ref (He.ga G.K "_law_go"))
  g__law_pass : G.mg "_law_pass" = some (.ref (He.ga G.K "_law_pass"))
  g_law : G.mg "law" = some (.ref (He.ga G.K "law"))
  z_min : G.mg "min" = none
  z_range : G.mg "range" = none
  z_isinstance : G.mg "isinstance" = none
  z_int : G.mg "int" = none
  z_list : G.mg "list" = none
  z_all : G.mg "all" = none
  z_sorted : G.mg "sorted" = none
  z_sum : G.mg "sum" = none
  z_len : G.mg "len" = none
  z_bool : G.mg "bool" = none
  z_set : G.mg "set" = none
  z_ValueError : G.mg "ValueError" = none
  c_Net : Cls G.K (cl_Net G.K)
  mk_Net : Mk G.K (cl_Net G.K) (He.ma G.K (cl_Net G.K) "__init__")
  na_Net_many : NoAttr G.K (cl_Net G.K) "many"
  na_Net_up : NoAttr G.K (cl_Net G.K) "up"
  na_Net_purses : NoAttr G.K (cl_Net G.K) "purses"
  na_Net_rows : NoAttr G.K (cl_Net G.K) "rows"
  m_Net_init : Meth G.K (cl_Net G.K) "__init__" (He.ma G.K (cl_Net G.K) "__init__")
  m_Net_look_hand : Meth G.K (cl_Net G.K) "look_hand" (He.ma G.K (cl_Net G.K) "look_hand")
  m_Net_look_way : Meth G.K (cl_Net G.K) "look_way" (He.ma G.K (cl_Net G.K) "look_way")
  m_Net_put : Meth G.K (cl_Net G.K) "put" (He.ma G.K (cl_Net G.K) "put")
  m_Net_mark : Meth G.K (cl_Net G.K) "mark" (He.ma G.K (cl_Net G.K) "mark")
  m_Net_after_rest : Meth G.K (cl_Net G.K) "after_rest" (He.ma G.K (cl_Net G.K) "after_rest")
  m_Net_after_work : Meth G.K (cl_Net G.K) "after_work" (He.ma G.K (cl_Net G.K) "after_work")
  m_Net_after_control : Meth G.K (cl_Net G.K) "after_control" (He.ma G.K (cl_Net G.K) "after_control")
  m_Net_before_work : Meth G.K (cl_Net G.K) "before_work" (He.ma G.K (cl_Net G.K) "before_work")
  m_Net_send : Meth G.K (cl_Net G.K) "send" (He.ma G.K (cl_Net G.K) "send")
  m_Net_rest : Meth G.K (cl_Net G.K) "rest" (He.ma G.K (cl_Net G.K) "rest")
  m_Net_come : Meth G.K (cl_Net G.K) "come" (He.ma G.K (cl_Net G.K) "come")
  m_Net_awake : Meth G.K (cl_Net G.K) "awake" (He.ma G.K (cl_Net G.K) "awake")
  m_Net_purse : Meth G.K (cl_Net G.K) "purse" (He.ma G.K (cl_Net G.K) "purse")
  m_Net_on_way : Meth G.K (cl_Net G.K) "on_way" (He.ma G.K (cl_Net G.K) "on_way")
  m_Net_loads : Meth G.K (cl_Net G.K) "loads" (He.ma G.K (cl_Net G.K) "loads")
  m_Net_ways : Meth G.K (cl_Net G.K) "ways" (He.ma G.K (cl_Net G.K) "ways")
  m_Net_letters : Meth G.K (cl_Net G.K) "letters" (He.ma G.K (cl_Net G.K) "letters")
  m_Net_quiet : Meth G.K (cl_Net G.K) "quiet" (He.ma G.K (cl_Net G.K) "quiet")
  c_Ring : Cls G.K (cl_Ring G.K)
  mk_Ring : Mk G.K (cl_Ring G.K) (He.ma G.K (cl_Ring G.K) "__init__")
  na_Ring_many : NoAttr G.K (cl_Ring G.K) "many"
  na_Ring_up : NoAttr G.K (cl_Ring G.K) "up"
  na_Ring_purses : NoAttr G.K (cl_Ring G.K) "purses"
  na_Ring_rows : NoAttr G.K (cl_Ring G.K) "rows"
  na_Ring_count : NoAttr G.K (cl_Ring G.K) "count"
  na_Ring_black : NoAttr G.K (cl_Ring G.K) "black"
  na_Ring_holder : NoAttr G.K (cl_Ring G.K) "holder"
  na_Ring_bears : NoAttr G.K (cl_Ring G.K) "bears"
  na_Ring_dark : NoAttr G.K (cl_Ring G.K) "dark"
  na_Ring_done : NoAttr G.K (cl_Ring G.K) "done"
  m_Ring_init : Meth G.K (cl_Ring G.K) "__init__" (He.ma G.K (cl_Ring G.K) "__init__")
  m_Ring_look_hand : Meth G.K (cl_Ring G.K) "look_hand" (He.ma G.K (cl_Ring G.K) "look_hand")
  m_Ring_look_way : Meth G.K (cl_Ring G.K) "look_way" (He.ma G.K (cl_Ring G.K) "look_way")
  m_Ring_put : Meth G.K (cl_Ring G.K) "put" (He.ma G.K (cl_Ring G.K) "put")
  m_Ring_mark : Meth G.K (cl_Ring G.K) "mark" (He.ma G.K (cl_Ring G.K) "mark")
  m_Ring_after_rest : Meth G.K (cl_Ring G.K) "after_rest" (He.ma G.K (cl_Ring G.K) "after_rest")
  m_Ring_after_work : Meth G.K (cl_Ring G.K) "after_work" (He.ma G.K (cl_Ring G.K) "after_work")
  m_Ring_after_control : Meth G.K (cl_Ring G.K) "after_control" (He.ma G.K (cl_Ring G.K) "after_control")
  m_Ring_before_work : Meth G.K (cl_Ring G.K) "before_work" (He.ma G.K (cl_Ring G.K) "before_work")
  m_Ring_send : Meth G.K (cl_Ring G.K) "send" (He.ma G.K (cl_Ring G.K) "send")
  m_Ring_rest : Meth G.K (cl_Ring G.K) "rest" (He.ma G.K (cl_Ring G.K) "rest")
  m_Ring_come : Meth G.K (cl_Ring G.K) "come" (He.ma G.K (cl_Ring G.K) "come")
  m_Ring_awake : Meth G.K (cl_Ring G.K) "awake" (He.ma G.K (cl_Ring G.K) "awake")
  m_Ring_purse : Meth G.K (cl_Ring G.K) "purse" (He.ma G.K (cl_Ring G.K) "purse")
  m_Ring_on_way : Meth G.K (cl_Ring G.K) "on_way" (He.ma G.K (cl_Ring G.K) "on_way")
  m_Ring_loads : Meth G.K (cl_Ring G.K) "loads" (He.ma G.K (cl_Ring G.K) "loads")
  m_Ring_ways : Meth G.K (cl_Ring G.K) "ways" (He.ma G.K (cl_Ring G.K) "ways")
  m_Ring_letters : Meth G.K (cl_Ring G.K) "letters" (He.ma G.K (cl_Ring G.K) "letters")
  m_Ring_quiet : Meth G.K (cl_Ring G.K) "quiet" (He.ma G.K (cl_Ring G.K) "quiet")
  m_Ring_pass_on : Meth G.K (cl_Ring G.K) "pass_on" (He.ma G.K (cl_Ring G.K) "pass_on")
  m_Ring_told : Meth G.K (cl_Ring G.K) "told" (He.ma G.K (cl_Ring G.K) "told")
  m_Ring_token : Meth G.K (cl_Ring G.K) "token" (He.ma G.K (cl_Ring G.K) "token")
  m_Ring_colour : Meth G.K (cl_Ring G.K) "colour" (He.ma G.K (cl_Ring G.K) "colour")
  m_Ring_more_sent : Meth G.K (cl_Ring G.K) "more_sent" (He.ma G.K (cl_Ring G.K) "more_sent")
  f__wall : ∃ fd, FnP G.K "_wall" "_wall" s__wall [] (He.ga G.K "_wall") fd
  f_is_whole : ∃ fd, FnP G.K "is_whole" "is_whole" s_is_whole [] (He.ga G.K "is_whole") fd
  f_look_number : ∃ fd, FnP G.K "look_number" "look_number" s_look_number [] (He.ga G.K "look_number") fd
  f_look_start : ∃ fd, FnP G.K "look_start" "look_start" s_look_start [] (He.ga G.K "look_start") fd
  f__law_town : ∃ fd, FnP G.K "_law_town" "_law_town" s__law_town [] (He.ga G.K "_law_town") fd
  f__law_draw : ∃ fd, FnP G.K "_law_draw" "_law_draw" s__law_draw [] (He.ga G.K "_law_draw") fd
  f__law_pick : ∃ fd, FnP G.K "_law_pick" "_law_pick" s__law_pick [] (He.ga G.K "_law_pick") fd
  f__law_refusal : ∃ fd, FnP G.K "_law_refusal" "_law_refusal" s__law_refusal [] (He.ga G.K "_law_refusal") fd
  f__law_start : ∃ fd, FnP G.K "_law_start" "_law_start" s__law_start [] (He.ga G.K "_law_start") fd
  f__law_other : ∃ fd, FnP G.K "_law_other" "_law_other" s__law_other [] (He.ga G.K "_law_other") fd
  f__law_act : ∃ fd, FnP G.K "_law_act" "_law_act" s__law_act [] (He.ga G.K "_law_act") fd
  f__law_let : ∃ fd, FnP G.K "_law_let" "_law_let" s__law_let [] (He.ga G.K "_law_let") fd
  f__law_go : ∃ fd, FnP G.K "_law_go" "_law_go" s__law_go [] (He.ga G.K "_law_go") fd
  f__law_pass : ∃ fd, FnP G.K "_law_pass" "_law_pass" s__law_pass [] (He.ga G.K "_law_pass") fd
  f_law : ∃ fd, FnP G.K "law" "law" s_law [] (He.ga G.K "law") fd
  f_Net_init : ∃ fd, FnP G.K "__init__" "Net.__init__" s_Net_init [] (He.ma G.K (cl_Net G.K) "__init__") fd
  f_Net_look_hand : ∃ fd, FnP G.K "look_hand" "Net.look_hand" s_Net_look_hand [] (He.ma G.K (cl_Net G.K) "look_hand") fd
  f_Net_look_way : ∃ fd, FnP G.K "look_way" "Net.look_way" s_Net_look_way [] (He.ma G.K (cl_Net G.K) "look_way") fd
  f_Net_put : ∃ fd, FnP G.K "put" "Net.put" s_Net_put [] (He.ma G.K (cl_Net G.K) "put") fd
  f_Net_mark : ∃ fd, FnP G.K "mark" "Net.mark" s_Net_mark [] (He.ma G.K (cl_Net G.K) "mark") fd
  f_Net_after_rest : ∃ fd, FnP G.K "after_rest" "Net.after_rest" s_Net_after_rest [] (He.ma G.K (cl_Net G.K) "after_rest") fd
  f_Net_after_work : ∃ fd, FnP G.K "after_work" "Net.after_work" s_Net_after_work [] (He.ma G.K (cl_Net G.K) "after_work") fd
  f_Net_after_control : ∃ fd, FnP G.K "after_control" "Net.after_control" s_Net_after_control [] (He.ma G.K (cl_Net G.K) "after_control") fd
  f_Net_before_work : ∃ fd, FnP G.K "before_work" "Net.before_work" s_Net_before_work [] (He.ma G.K (cl_Net G.K) "before_work") fd
  f_Net_send : ∃ fd, FnP G.K "send" "Net.send" s_Net_send [.int 0] (He.ma G.K (cl_Net G.K) "send") fd
  f_Net_rest : ∃ fd, FnP G.K "rest" "Net.rest" s_Net_rest [] (He.ma G.K (cl_Net G.K) "rest") fd
  f_Net_come : ∃ fd, FnP G.K "come" "Net.come" s_Net_come [] (He.ma G.K (cl_Net G.K) "come") fd
  f_Net_awake : ∃ fd, FnP G.K "awake" "Net.awake" s_Net_awake [] (He.ma G.K (cl_Net G.K) "awake") fd
  f_Net_purse : ∃ fd, FnP G.K "purse" "Net.purse" s_Net_purse [] (He.ma G.K (cl_Net G.K) "purse") fd
  f_Net_on_way : ∃ fd, FnP G.K "on_way" "Net.on_way" s_Net_on_way [] (He.ma G.K (cl_Net G.K) "on_way") fd
  f_Net_loads : ∃ fd, FnP G.K "loads" "Net.loads" s_Net_loads [] (He.ma G.K (cl_Net G.K) "loads") fd
  f_Net_ways : ∃ fd, FnP G.K "ways" "Net.ways" s_Net_ways [] (He.ma G.K (cl_Net G.K) "ways") fd
  f_Net_letters : ∃ fd, FnP G.K "letters" "Net.letters" s_Net_letters [] (He.ma G.K (cl_Net G.K) "letters") fd
  f_Net_quiet : ∃ fd, FnP G.K "quiet" "Net.quiet" s_Net_quiet [] (He.ma G.K (cl_Net G.K) "quiet") fd
  f_Ring_init : ∃ fd, FnP G.K "__init__" "Ring.__init__" s_Ring_init [] (He.ma G.K (cl_Ring G.K) "__init__") fd
  f_Ring_look_hand : ∃ fd, FnP G.K "look_hand" "Net.look_hand" s_Net_look_hand [] (He.ma G.K (cl_Ring G.K) "look_hand") fd
  f_Ring_look_way : ∃ fd, FnP G.K "look_way" "Net.look_way" s_Net_look_way [] (He.ma G.K (cl_Ring G.K) "look_way") fd
  f_Ring_put : ∃ fd, FnP G.K "put" "Net.put" s_Net_put [] (He.ma G.K (cl_Ring G.K) "put") fd
  f_Ring_mark : ∃ fd, FnP G.K "mark" "Ring.mark" s_Ring_mark [] (He.ma G.K (cl_Ring G.K) "mark") fd
  f_Ring_after_rest : ∃ fd, FnP G.K "after_rest" "Net.after_rest" s_Net_after_rest [] (He.ma G.K (cl_Ring G.K) "after_rest") fd
  f_Ring_after_work : ∃ fd, FnP G.K "after_work" "Ring.after_work" s_Ring_after_work [] (He.ma G.K (cl_Ring G.K) "after_work") fd
  f_Ring_after_control : ∃ fd, FnP G.K "after_control" "Ring.after_control" s_Ring_after_control [] (He.ma G.K (cl_Ring G.K) "after_control") fd
  f_Ring_before_work : ∃ fd, FnP G.K "before_work" "Net.before_work" s_Net_before_work [] (He.ma G.K (cl_Ring G.K) "before_work") fd
  f_Ring_send : ∃ fd, FnP G.K "send" "Net.send" s_Net_send [.int 0] (He.ma G.K (cl_Ring G.K) "send") fd
  f_Ring_rest : ∃ fd, FnP G.K "rest" "Net.rest" s_Net_rest [] (He.ma G.K (cl_Ring G.K) "rest") fd
  f_Ring_come : ∃ fd, FnP G.K "come" "Net.come" s_Net_come [] (He.ma G.K (cl_Ring G.K) "come") fd
  f_Ring_awake : ∃ fd, FnP G.K "awake" "Net.awake" s_Net_awake [] (He.ma G.K (cl_Ring G.K) "awake") fd
  f_Ring_purse : ∃ fd, FnP G.K "purse" "Net.purse" s_Net_purse [] (He.ma G.K (cl_Ring G.K) "purse") fd
  f_Ring_on_way : ∃ fd, FnP G.K "on_way" "Net.on_way" s_Net_on_way [] (He.ma G.K (cl_Ring G.K) "on_way") fd
  f_Ring_loads : ∃ fd, FnP G.K "loads" "Net.loads" s_Net_loads [] (He.ma G.K (cl_Ring G.K) "loads") fd
  f_Ring_ways : ∃ fd, FnP G.K "ways" "Net.ways" s_Net_ways [] (He.ma G.K (cl_Ring G.K) "ways") fd
  f_Ring_letters : ∃ fd, FnP G.K "letters" "Net.letters" s_Net_letters [] (He.ma G.K (cl_Ring G.K) "letters") fd
  f_Ring_quiet : ∃ fd, FnP G.K "quiet" "Net.quiet" s_Net_quiet [] (He.ma G.K (cl_Ring G.K) "quiet") fd
  f_Ring_pass_on : ∃ fd, FnP G.K "pass_on" "Ring.pass_on" s_Ring_pass_on [] (He.ma G.K (cl_Ring G.K) "pass_on") fd
  f_Ring_told : ∃ fd, FnP G.K "told" "Ring.told" s_Ring_told [] (He.ma G.K (cl_Ring G.K) "told") fd
  f_Ring_token : ∃ fd, FnP G.K "token" "Ring.token" s_Ring_token [] (He.ma G.K (cl_Ring G.K) "token") fd
  f_Ring_colour : ∃ fd, FnP G.K "colour" "Ring.colour" s_Ring_colour [] (He.ma G.K (cl_Ring G.K) "colour") fd
  f_Ring_more_sent : ∃ fd, FnP G.K "more_sent" "Ring.more_sent" s_Ring_more_sent [] (He.ma G.K (cl_Ring G.K) "more_sent") fd
  f_Awake_init : ∃ fd, FnP G.K "__init__" "Awake.__init__" s_Awake_init [] (He.ma G.K (cl_Awake G.K) "__init__") fd
  cm_Net : CmK G.K "Net" "__init__"
  x_NoHand : ExK G.K "NoHand"
  r_NoHand_NetError : RelK G.K "NoHand" "NetError" true
  r_NoHand_BadNumber : RelK G.K "NoHand" "BadNumber" false
  r_NoHand_BadStart : RelK G.K "NoHand" "BadStart" false
  r_NoHand_NoHand : RelK G.K "NoHand" "NoHand" true
  r_NoHand_Asleep : RelK G.K "NoHand" "Asleep" false
  r_NoHand_Awake : RelK G.K "NoHand" "Awake" false
  r_NoHand_TooMuch : RelK G.K "NoHand" "TooMuch" false
  r_NoHand_NoLetter : RelK G.K "NoHand" "NoLetter" false
  r_NoHand_NotNow : RelK G.K "NoHand" "NotNow" false
  r_NoHand_BadStory : RelK G.K "NoHand" "BadStory" false
  v_NoHand : PySem.W.kitOne G.K (.ref (He.ga G.K "NoHand")) (.type "ValueError") = some true
  x_NotNow : ExK G.K "NotNow"
  r_NotNow_NetError : RelK G.K "NotNow" "NetError" true
  r_NotNow_BadNumber : RelK G.K "NotNow" "BadNumber" false
  r_NotNow_BadStart : RelK G.K "NotNow" "BadStart" false
  r_NotNow_NoHand : RelK G.K "NotNow" "NoHand" false
  r_NotNow_Asleep : RelK G.K "NotNow" "Asleep" false
  r_NotNow_Awake : RelK G.K "NotNow" "Awake" false
  r_NotNow_TooMuch : RelK G.K "NotNow" "TooMuch" false
  r_NotNow_NoLetter : RelK G.K "NotNow" "NoLetter" false
  r_NotNow_NotNow : RelK G.K "NotNow" "NotNow" true
  r_NotNow_BadStory : RelK G.K "NotNow" "BadStory" false
  v_NotNow : PySem.W.kitOne G.K (.ref (He.ga G.K "NotNow")) (.type "ValueError") = some true
  o_Awake : OeK G.K "Awake" "hand"
  r_Awake_NetError : RelK G.K "Awake" "NetError" true
  r_Awake_BadNumber : RelK G.K "Awake" "BadNumber" false
  r_Awake_BadStart : RelK G.K "Awake" "BadStart" false
  r_Awake_NoHand : RelK G.K "Awake" "NoHand" false
  r_Awake_Asleep : RelK G.K "Awake" "Asleep" false
  r_Awake_Awake : RelK G.K "Awake" "Awake" true
  r_Awake_TooMuch : RelK G.K "Awake" "TooMuch" false
  r_Awake_NoLetter : RelK G.K "Awake" "NoLetter" false
  r_Awake_NotNow : RelK G.K "Awake" "NotNow" false
  r_Awake_BadStory : RelK G.K "Awake" "BadStory" false
theorem wd_of {G : En} {h : Heap} (X : G.K.In h) (N : h.Ns mainGlobals G.mg) (c : He.SaysD fa fn G.K) (ce : exK G.K = true) : Wd G where
  g__wall := He.glo_ok X N (c.fact 0 (f := .glo "_wall") rfl)
  g_NetError := He.glo_ok X N (c.fact 1 (f := .glo "NetError") rfl)
  g_BadNumber := He.glo_ok X N (c.fact 2 (f := .glo "BadNumber") rfl)
  g_BadStart := He.glo_ok X N (c.fact 3 (f := .glo "BadStart") rfl)
  g_NoHand := He.glo_ok X N (c.fact 4 (f := .glo "NoHand") rfl)
  g_Asleep := He.glo_ok X N (c.fact 5 (f := .glo "Asleep") rfl)
  g_Awake := He.glo_ok X N (c.fact 6 (f := .glo "Awake") rfl)
  g_TooMuch := He.glo_ok X N (c.fact 7 (f := .glo "TooMuch") rfl)
  g_NoLetter := He.glo_ok X N (c.fact 8 (f := .glo "NoLetter") rfl)
  g_NotNow := He.glo_ok X N (c.fact 9 (f := .glo "NotNow") rfl)
  g_BadStory := He.glo_ok X N (c.fact 10 (f := .glo "BadStory") rfl)
  g_is_whole := He.glo_ok X N (c.fact 11 (f := .glo "is_whole") rfl)
  g_look_number := He.glo_ok X N (c.fact 12 (f := .glo "look_number") rfl)
  k_MOST_HANDS := He.int_ok X N (c.fact 13 (f := .int "MOST_HANDS" 8) rfl)
  k_PURSE := He.int_ok X N (c.fact 14 (f := .int "PURSE" 100) rfl)
  k_WORK := He.str_ok X N (c.fact 15 (f := .str "WORK" "work") rfl)
  g_look_start := He.glo_ok X N (c.fact 16 (f := .glo "look_start") rfl)
  g_Net := He.glo_ok X N (c.fact 17 (f := .glo "Net") rfl)
  k_TOKEN := He.str_ok X N (c.fact 18 (f := .str "TOKEN" "token") rfl)
  g_Ring := He.glo_ok X N (c.fact 19 (f := .glo "Ring") rfl)
  g__law_town := He.glo_ok X N (c.fact 20 (f := .glo "_law_town") rfl)
  g__law_draw := He.glo_ok X N (c.fact 21 (f := .glo "_law_draw") rfl)
  g__law_pick := He.glo_ok X N (c.fact 22 (f := .glo "_law_pick") rfl)
  g__law_refusal := He.glo_ok X N (c.fact 23 (f := .glo "_law_refusal") rfl)
  g__law_start := He.glo_ok X N (c.fact 24 (f := .glo "_law_start") rfl)
  g__law_other := He.glo_ok X N (c.fact 25 (f := .glo "_law_other") rfl)
  g__law_act := He.glo_ok X N (c.fact 26 (f := .glo "_law_act") rfl)
  g__law_let := He.glo_ok X N (c.fact 27 (f := .glo "_law_let") rfl)
  g__law_go := He.glo_ok X N (c.fact 28 (f := .glo "_law_go") rfl)
  g__law_pass := He.glo_ok X N (c.fact 29 (f := .glo "_law_pass") rfl)
  g_law := He.glo_ok X N (c.fact 30 (f := .glo "law") rfl)
  z_min := He.free_ok X N (c.fact 31 (f := .free "min") rfl)
  z_range := He.free_ok X N (c.fact 32 (f := .free "range") rfl)
  z_isinstance := He.free_ok X N (c.fact 33 (f := .free "isinstance") rfl)
  z_int := He.free_ok X N (c.fact 34 (f := .free "int") rfl)
  z_list := He.free_ok X N (c.fact 35 (f := .free "list") rfl)
  z_all := He.free_ok X N (c.fact 36 (f := .free "all") rfl)
  z_sorted := He.free_ok X N (c.fact 37 (f := .free "sorted") rfl)
  z_sum := He.free_ok X N (c.fact 38 (f := .free "sum") rfl)
  z_len := He.free_ok X N (c.fact 39 (f := .free "len") rfl)
  z_bool := He.free_ok X N (c.fact 40 (f := .free "bool") rfl)
  z_set := He.free_ok X N (c.fact 41 (f := .free "set") rfl)
  z_ValueError := He.free_ok X N (c.fact 42 (f := .free "ValueError") rfl)
  c_Net := He.cls_ok (c.fact 43 (f := .cls "Net") rfl)
  mk_Net := He.mkr_ok (c.fact 44 (f := .mkr "Net") rfl)
  na_Net_many := He.noat_ok (c.fact 45 (f := .noat "Net" "many") rfl)
  na_Net_up := He.noat_ok (c.fact 46 (f := .noat "Net" "up") rfl)
  na_Net_purses := He.noat_ok (c.fact 47 (f := .noat "Net" "purses") rfl)
  na_Net_rows := He.noat_ok (c.fact 48 (f := .noat "Net" "rows") rfl)
  m_Net_init := He.meth_ok (c.fact 49 (f := .meth "Net" "__init__") rfl)
  m_Net_look_hand := He.meth_ok (c.fact 50 (f := .meth "Net" "look_hand") rfl)
  m_Net_look_way := He.meth_ok (c.fact 51 (f := .meth "Net" "look_way") rfl)
  m_Net_put := He.meth_ok (c.fact 52 (f := .meth "Net" "put") rfl)
  m_Net_mark := He.meth_ok (c.fact 53 (f := .meth "Net" "mark") rfl)
  m_Net_after_rest := He.meth_ok (c.fact 54 (f := .meth "Net" "after_rest") rfl)
  m_Net_after_work := He.meth_ok (c.fact 55 (f := .meth "Net" "after_work") rfl)
  m_Net_after_control := He.meth_ok (c.fact 56 (f := .meth "Net" "after_control") rfl)
  m_Net_before_work := He.meth_ok (c.fact 57 (f := .meth "Net" "before_work") rfl)
  m_Net_send := He.meth_ok (c.fact 58 (f := .meth "Net" "send") rfl)
  m_Net_rest := He.meth_ok (c.fact 59 (f := .meth "Net" "rest") rfl)
  m_Net_come := He.meth_ok (c.fact 60 (f := .meth "Net" "come") rfl)
  m_Net_awake := He.meth_ok (c.fact 61 (f := .meth "Net" "awake") rfl)
  m_Net_purse := He.meth_ok (c.fact 62 (f := .meth "Net" "purse") rfl)
  m_Net_on_way := He.meth_ok (c.fact 63 (f := .meth "Net" "on_way") rfl)
  m_Net_loads := He.meth_ok (c.fact 64 (f := .meth "Net" "loads") rfl)
  m_Net_ways := He.meth_ok (c.fact 65 (f := .meth "Net" "ways") rfl)
  m_Net_letters := He.meth_ok (c.fact 66 (f := .meth "Net" "letters") rfl)
  m_Net_quiet := He.meth_ok (c.fact 67 (f := .meth "Net" "quiet") rfl)
  c_Ring := He.cls_ok (c.fact 68 (f := .cls "Ring") rfl)
  mk_Ring := He.mkr_ok (c.fact 69 (f := .mkr "Ring") rfl)
  na_Ring_many := He.noat_ok (c.fact 70 (f := .noat "Ring" "many") rfl)
  na_Ring_up := He.noat_ok (c.fact 71 (f := .noat "Ring" "up") rfl)
  na_Ring_purses := He.noat_ok (c.fact 72 (f := .noat "Ring" "purses") rfl)
  na_Ring_rows := He.noat_ok (c.fact 73 (f := .noat "Ring" "rows") rfl)
  na_Ring_count := He.noat_ok (c.fact 74 (f := .noat "Ring" "count") rfl)
  na_Ring_black := He.noat_ok (c.fact 75 (f := .noat "Ring" "black") rfl)
  na_Ring_holder := He.noat_ok (c.fact 76 (f := .noat "Ring" "holder") rfl)
  na_Ring_bears := He.noat_ok (c.fact 77 (f := .noat "Ring" "bears") rfl)
  na_Ring_dark := He.noat_ok (c.fact 78 (f := .noat "Ring" "dark") rfl)
  na_Ring_done := He.noat_ok (c.fact 79 (f := .noat "Ring" "done") rfl)
  m_Ring_init := He.meth_ok (c.fact 80 (f := .meth "Ring" "__init__") rfl)
  m_Ring_look_hand := He.meth_ok (c.fact 81 (f := .meth "Ring" "look_hand") rfl)
  m_Ring_look_way := He.meth_ok (c.fact 82 (f := .meth "Ring" "look_way") rfl)
  m_Ring_put := He.meth_ok (c.fact 83 (f := .meth "Ring" "put") rfl)
  m_Ring_mark := He.meth_ok (c.fact 84 (f := .meth "Ring" "mark") rfl)
  m_Ring_after_rest := He.meth_ok (c.fact 85 (f := .meth "Ring" "after_rest") rfl)
  m_Ring_after_work := He.meth_ok (c.fact 86 (f := .meth "Ring" "after_work") rfl)
  m_Ring_after_control := He.meth_ok (c.fact 87 (f := .meth "Ring" "after_control") rfl)
  m_Ring_before_work := He.meth_ok (c.fact 88 (f := .meth "Ring" "before_work") rfl)
  m_Ring_send := He.meth_ok (c.fact 89 (f := .meth "Ring" "send") rfl)
  m_Ring_rest := He.meth_ok (c.fact 90 (f := .meth "Ring" "rest") rfl)
  m_Ring_come := He.meth_ok (c.fact 91 (f := .meth "Ring" "come") rfl)
  m_Ring_awake := He.meth_ok (c.fact 92 (f := .meth "Ring" "awake") rfl)
  m_Ring_purse := He.meth_ok (c.fact 93 (f := .meth "Ring" "purse") rfl)
  m_Ring_on_way := He.meth_ok (c.fact 94 (f := .meth "Ring" "on_way") rfl)
  m_Ring_loads := He.meth_ok (c.fact 95 (f := .meth "Ring" "loads") rfl)
  m_Ring_ways := He.meth_ok (c.fact 96 (f := .meth "Ring" "ways") rfl)
  m_Ring_letters := He.meth_ok (c.fact 97 (f := .meth "Ring" "letters") rfl)
  m_Ring_quiet := He.meth_ok (c.fact 98 (f := .meth "Ring" "quiet") rfl)
  m_Ring_pass_on := He.meth_ok (c.fact 99 (f := .meth "Ring" "pass_on") rfl)
  m_Ring_told := He.meth_ok (c.fact 100 (f := .meth "Ring" "told") rfl)
  m_Ring_token := He.meth_ok (c.fact 101 (f := .meth "Ring" "token") rfl)
  m_Ring_colour := He.meth_ok (c.fact 102 (f := .meth "Ring" "colour") rfl)
  m_Ring_more_sent := He.meth_ok (c.fact 103 (f := .meth "Ring" "more_sent") rfl)
  f__wall := c.def_ 0 (d := d__wall) rfl
  f_is_whole := c.def_ 1 (d := d_is_whole) rfl
  f_look_number := c.def_ 2 (d := d_look_number) rfl
  f_look_start := c.def_ 3 (d := d_look_start) rfl
  f__law_town := c.def_ 4 (d := d__law_town) rfl
  f__law_draw := c.def_ 5 (d := d__law_draw) rfl
  f__law_pick := c.def_ 6 (d := d__law_pick) rfl
  f__law_refusal := c.def_ 7 (d := d__law_refusal) rfl
  f__law_start := c.def_ 8 (d := d__law_start) rfl
  f__law_other := c.def_ 9 (d := d__law_other) rfl
  f__law_act := c.def_ 10 (d := d__law_act) rfl
  f__law_let := c.def_ 11 (d := d__law_let) rfl
  f__law_go := c.def_ 12 (d := d__law_go) rfl
  f__law_pass := c.def_ 13 (d := d__law_pass) rfl
  f_law := c.def_ 14 (d := d_law) rfl
  f_Net_init := c.def_ 15 (d := d_Net_init) rfl
  f_Net_look_hand := c.def_ 16 (d := d_Net_look_hand) rfl
  f_Net_look_way := c.def_ 17 (d := d_Net_look_way) rfl
  f_Net_put := c.def_ 18 (d := d_Net_put) rfl
  f_Net_mark := c.def_ 19 (d := d_Net_mark) rfl
  f_Net_after_rest := c.def_ 20 (d := d_Net_after_rest) rfl
  f_Net_after_work := c.def_ 21 (d := d_Net_after_work) rfl
  f_Net_after_control := c.def_ 22 (d := d_Net_after_control) rfl
  f_Net_before_work := c.def_ 23 (d := d_Net_before_work) rfl
  f_Net_send := c.def_ 24 (d := d_Net_send) rfl
  f_Net_rest := c.def_ 25 (d := d_Net_rest) rfl
  f_Net_come := c.def_ 26 (d := d_Net_come) rfl
  f_Net_awake := c.def_ 27 (d := d_Net_awake) rfl
  f_Net_purse := c.def_ 28 (d := d_Net_purse) rfl
  f_Net_on_way := c.def_ 29 (d := d_Net_on_way) rfl
  f_Net_loads := c.def_ 30 (d := d_Net_loads) rfl
  f_Net_ways := c.def_ 31 (d := d_Net_ways) rfl
  f_Net_letters := c.def_ 32 (d := d_Net_letters) rfl
  f_Net_quiet := c.def_ 33 (d := d_Net_quiet) rfl
  f_Ring_init := c.def_ 34 (d := d_Ring_init) rfl
  f_Ring_look_hand := c.def_ 35 (d := d_Ring_look_hand) rfl
  f_Ring_look_way := c.def_ 36 (d := d_Ring_look_way) rfl
  f_Ring_put := c.def_ 37 (d := d_Ring_put) rfl
  f_Ring_mark := c.def_ 38 (d := d_Ring_mark) rfl
  f_Ring_after_rest := c.def_ 39 (d := d_Ring_after_rest) rfl
  f_Ring_after_work := c.def_ 40 (d := d_Ring_after_work) rfl
  f_Ring_after_control := c.def_ 41 (d := d_Ring_after_control) rfl
  f_Ring_before_work := c.def_ 42 (d := d_Ring_before_work) rfl
  f_Ring_send := c.def_ 43 (d := d_Ring_send) rfl
  f_Ring_rest := c.def_ 44 (d := d_Ring_rest) rfl
  f_Ring_come := c.def_ 45 (d := d_Ring_come) rfl
  f_Ring_awake := c.def_ 46 (d := d_Ring_awake) rfl
  f_Ring_purse := c.def_ 47 (d := d_Ring_purse) rfl
  f_Ring_on_way := c.def_ 48 (d := d_Ring_on_way) rfl
  f_Ring_loads := c.def_ 49 (d := d_Ring_loads) rfl
  f_Ring_ways := c.def_ 50 (d := d_Ring_ways) rfl
  f_Ring_letters := c.def_ 51 (d := d_Ring_letters) rfl
  f_Ring_quiet := c.def_ 52 (d := d_Ring_quiet) rfl
  f_Ring_pass_on := c.def_ 53 (d := d_Ring_pass_on) rfl
  f_Ring_told := c.def_ 54 (d := d_Ring_told) rfl
  f_Ring_token := c.def_ 55 (d := d_Ring_token) rfl
  f_Ring_colour := c.def_ 56 (d := d_Ring_colour) rfl
  f_Ring_more_sent := c.def_ 57 (d := d_Ring_more_sent) rfl
  f_Awake_init := c.def_ 58 (d := d_Awake_init) rfl
  cm_Net := cmB_ok (exK_all ce).e0
  x_NoHand := excB_ok (exK_all ce).e1
  r_NoHand_NetError := relB_ok (exK_all ce).e2
  r_NoHand_BadNumber := relB_ok (exK_all ce).e3
  r_NoHand_BadStart := relB_ok (exK_all ce).e4
  r_NoHand_NoHand := relB_ok (exK_all ce).e5
  r_NoHand_Asleep := relB_ok (exK_all ce).e6
  r_NoHand_Awake := relB_ok (exK_all ce).e7
  r_NoHand_TooMuch := relB_ok (exK_all ce).e8
  r_NoHand_NoLetter := relB_ok (exK_all ce).e9
  r_NoHand_NotNow := relB_ok (exK_all ce).e10
  r_NoHand_BadStory := relB_ok (exK_all ce).e11
  v_NoHand := beq_iff_eq.mp (exK_all ce).e12
  x_NotNow := excB_ok (exK_all ce).e13
  r_NotNow_NetError := relB_ok (exK_all ce).e14
  r_NotNow_BadNumber := relB_ok (exK_all ce).e15
  r_NotNow_BadStart := relB_ok (exK_all ce).e16
  r_NotNow_NoHand := relB_ok (exK_all ce).e17
  r_NotNow_Asleep := relB_ok (exK_all ce).e18
  r_NotNow_Awake := relB_ok (exK_all ce).e19
  r_NotNow_TooMuch := relB_ok (exK_all ce).e20
  r_NotNow_NoLetter := relB_ok (exK_all ce).e21
  r_NotNow_NotNow := relB_ok (exK_all ce).e22
  r_NotNow_BadStory := relB_ok (exK_all ce).e23
  v_NotNow := beq_iff_eq.mp (exK_all ce).e24
  o_Awake := oeB_ok (exK_all ce).e25
  r_Awake_NetError := relB_ok (exK_all ce).e26
  r_Awake_BadNumber := relB_ok (exK_all ce).e27
  r_Awake_BadStart := relB_ok (exK_all ce).e28
  r_Awake_NoHand := relB_ok (exK_all ce).e29
  r_Awake_Asleep := relB_ok (exK_all ce).e30
  r_Awake_Awake := relB_ok (exK_all ce).e31
  r_Awake_TooMuch := relB_ok (exK_all ce).e32
  r_Awake_NoLetter := relB_ok (exK_all ce).e33
  r_Awake_NotNow := relB_ok (exK_all ce).e34
  r_Awake_BadStory := relB_ok (exK_all ce).e35
abbrev R : PySem.W.OpenRow := PySem.W.OpenLaw.row PySem.Challenge.rw_quietnet_k12_ring_passed
abbrev hk : PySem.W.Hook := hookE 4 fa fn exK
def ob (s : PySem.W.SharedT) : He.AlD × Bool := obEG 4 fa fn exK (HandSHeadRun.getT s)
theorem ob_eq (s : PySem.W.SharedT) : ob s = hk.obs s.abs := obEG_eq (HandSHeadRun.getT_eq s)
def loose : List PySem.Str := (["_wall", "NetError", "BadNumber", "BadStart", "NoHand", "Asleep", "Awake", "TooMuch", "NoLetter", "NotNow", "BadStory", "is_whole", "look_number", "MOST_HANDS", "PURSE", "WORK", "look_start", "Net", "TOKEN", "Ring", "_law_town", "_law_draw", "_law_pick", "_law_refusal", "_law_start", "_law_other", "_law_act", "_law_let", "_law_go", "_law_pass"] : List PySem.Str)
theorem run (w : World) : HandSHeadRun.RunEq R (PySem.W.view R.prog [34]) hk ob 30000 loose w := by
  intro os
  kernel_rfl

/-! ### readings and derivations -/
def N_Awake_init : List Str := ["self", "hand"]
theorem sc_Awake_init : FnScope N_Awake_init ["self", "hand"] (defScope s_Awake_init) := ⟨rfl, rfl, rfl, by decide +kernel, rfl, by decide +kernel, by decide +kernel⟩
def t_Awake_init (G : En) : TS := tOst G.K "hand" (tVar 0) (tVar 1)
theorem oex_Awake {G : En} (W : Wd G) : OexG G 1 "Awake" "hand" := by
  obtain ⟨fd, F⟩ := W.f_Awake_init
  refine ⟨⟨fd, ["self", "hand"], [], W.o_Awake, fn_ok0 F sc_Awake_init spOst_len (fun cdv A outer s H E hr => (show PSs (cx0 G N_Awake_init _ s_Awake_init _ cdv A outer s H E) (defBody s_Awake_init) (t_Awake_init G) from pss_one (ps_ost (pv 0) (pv 1)))) (fun vs H Q E h => ?_), (F.bindsN (ps := ["self", "hand"]) fun _ _ _ _ _ _ us hl => match us, hl with | [_, _], _ => rfl), .nil, W.g_Awake⟩⟩
  obtain ⟨a, C, y, rfl, T, no, ea, k⟩ := h
  exact ⟨y, rfl, .ref a, rfl, a, C, rfl, T, no, .inl ⟨ea, fun dx h1 h2 => k dx h1 h2⟩⟩
def N_is_whole : List Str := ["thing", "low", "high"]
theorem sc_is_whole : FnScope N_is_whole ["thing", "low", "high"] (defScope s_is_whole) := ⟨rfl, rfl, rfl, by decide +kernel, rfl, by decide +kernel, by decide +kernel⟩
def t_is_whole (G : En) : TS :=
    (tRet (tAndVQ (tCB (rIsi G.K) (tCons (tVar 0) (tCons (tC (.ty "int")) tNil))) (tAndVQ (tNotVQ (tCB (rIsi G.K) (tCons (tVar 0) (tCons (tC (.ty "bool")) tNil)))) (tChainQ (rI0 fun i j => .bl (decide (i ≤ j))) (rI0 fun i j => .bl (decide (i ≤ j))) (tVar 1) (tVar 0) (tVar 2)))))
theorem dv_is_whole {G : En} (W : Wd G) {qual : Str} {f : Addr} {cdv : Value} {A : Around} {outer : List Env} {s : Shared} {H : Hp} {E : XK} (hr : rm0 0 qual s_is_whole f cdv A s) : PSs (cx0 G N_is_whole qual s_is_whole f cdv A outer s H E) (defBody s_is_whole) (t_is_whole G) :=
    (pss_one (ps_ret (e_and (pe_callB call_isi (by rfl) W.z_isinstance (by decide +kernel) (pa_cons (pv 0) (pa_cons (e_ty (by rfl) W.z_int (by decide +kernel)) pa_nil))) (e_and (e_not (pe_callB call_isi (by rfl) W.z_isinstance (by decide +kernel) (pa_cons (pv 0) (pa_cons (e_ty (by rfl) W.z_bool (by decide +kernel)) pa_nil)))) (pe_one (e_chain op_le op_le (pv 1) (pv 0) (pv 2)))))))
theorem run_is_whole {G : En} (W : Wd G) {sp : Sp} (len : ∀ vs H Q E, sp vs H Q E → vs.length = 3) (pure : ∀ vs H Q E, sp vs H Q E → t_is_whole G { nx := fun _ H' => Q .non H', rt := Q } (start N_is_whole vs) H) : CalG G 1 "is_whole" sp [] := by
  obtain ⟨fd, F⟩ := W.f_is_whole
  exact ⟨⟨_, fd, ["thing", "low", "high"], [], fn_ok0 F sc_is_whole len (fun _ _ _ _ _ _ hr => dv_is_whole W hr) pure, W.g_is_whole, F.kp, (F.bindsN (ps := ["thing", "low", "high"]) fun _ _ _ _ _ _ us hl => match us, hl with | [_, _, _], _ => rfl), .nil⟩⟩
def N_look_number : List Str := ["thing", "low", "high"]
theorem sc_look_number : FnScope N_look_number ["thing", "low", "high"] (defScope s_look_number) := ⟨rfl, rfl, rfl, by decide +kernel, rfl, by decide +kernel, by decide +kernel⟩
def t_look_number (G : En) : TS :=
    (tIfS (tNot (tTestQ (tCallQ G 1 "is_whole" (tCons (tVar 0) (tCons (tVar 1) (tCons (tVar 2) tNil)))))) tNever tNext)
theorem dv_look_number {G : En} (W : Wd G) {qual : Str} {f : Addr} {cdv : Value} {A : Around} {outer : List Env} {s : Shared} {H : Hp} {E : XK} (hr : rm0 1 qual s_look_number f cdv A s) : PSs (cx0 G N_look_number qual s_look_number f cdv A outer s H E) (defBody s_look_number) (t_look_number G) :=
    (pss_one (ps_if (pt_not (b_val (e_call hr (by rfl) (pa_cons (pv 0) (pa_cons (pv 1) (pa_cons (pv 2) pa_nil)))))) (pss_one ps_never) pss_nil))
theorem run_look_number {G : En} (W : Wd G) {sp : Sp} (len : ∀ vs H Q E, sp vs H Q E → vs.length = 3) (pure : ∀ vs H Q E, sp vs H Q E → t_look_number G { nx := fun _ H' => Q .non H', rt := Q } (start N_look_number vs) H) : CalG G 2 "look_number" sp [] := by
  obtain ⟨fd, F⟩ := W.f_look_number
  exact ⟨⟨_, fd, ["thing", "low", "high"], [], fn_ok0 F sc_look_number len (fun _ _ _ _ _ _ hr => dv_look_number W hr) pure, W.g_look_number, F.kp, (F.bindsN (ps := ["thing", "low", "high"]) fun _ _ _ _ _ _ us hl => match us, hl with | [_, _, _], _ => rfl), .nil⟩⟩
def N_look_start : List Str := ["start", "many", "fine", "hand"]
theorem sc_look_start : FnScope N_look_start ["start", "many"] (defScope s_look_start) := ⟨rfl, rfl, rfl, by decide +kernel, rfl, by decide +kernel, by decide +kernel⟩
def t_look_start (G : En) : TS :=
    (tSeq (tAsg (tAndVQ (tCB (rIsi G.K) (tCons (tVar 0) (tCons (tC (.ty "list")) tNil))) (tAndVQ (tOp (rNeD G.K) (tVar 0) (tLstQ tNil)) (tCB (rAll G.K) (tCons (tLcQ (iListQ G.K (tVar 0)) (gName 3) tYes (tCallQ G 1 "is_whole" (tCons (tVar 3) (tCons (tC (.int 0)) (tCons (tOp (rI0 fun i j => .int (i - j)) (tVar 1) (tC (.int 1))) tNil)))) [3]) tNil)))) (gName 2))
    (tIfS (tOr (tNot (tTestQ (tVar 2))) (tTestQ (tOp (rNeD G.K) (tCB (rSortedSet G.w) (tCons (tCB (rSetOf G.K G.w) (tCons (tVar 0) tNil)) tNil)) (tVar 0)))) tNever tNext))
theorem dv_look_start {G : En} (W : Wd G) {qual : Str} {f : Addr} {cdv : Value} {A : Around} {outer : List Env} {s : Shared} {H : Hp} {E : XK} (hr : rm0 1 qual s_look_start f cdv A s) : PSs (cx0 G N_look_start qual s_look_start f cdv A outer s H E) (defBody s_look_start) (t_look_start G) :=
    (pss_cons (ps_set (i := 2) sc_look_start.nd rfl (Or.inl rfl) (e_and (pe_callB call_isi (by rfl) W.z_isinstance (by decide +kernel) (pa_cons (pv 0) (pa_cons (e_ty (by rfl) W.z_list (by decide +kernel)) pa_nil))) (e_and (e_cmp (op_neD hr.units) (pv 0) (e_lst pa_nil) (nomark _)) (pe_one (pe_callB (cr_all rfl) (by rfl) W.z_all (by decide +kernel) (pa_cons (e_lc (own := [("hand", 3)]) (g := (gName 3)) rfl sc_look_start.nd (i_list (pv 0)) (blkOk_by (own := [("hand", 3)]) (N := N_look_start) (sc := defScope s_look_start) (by decide +kernel)) (fun _ _ _ _ _ => (pg_name (i := 3) sc_look_start.nd rfl (Or.inl rfl))) (fun _ _ _ _ _ => pts_nil) (fun _ _ _ _ _ => (e_call hr (by rfl) (pa_cons (pv 3) (pa_cons pe_int (pa_cons (pe_op op_sub (pv 1) pe_int) pa_nil)))))) pa_nil))))))
    (pss_one (ps_if (PW.pt (pw_or (pt_not (b_val (pv 2))) (pw_or1 (b_cmp (op_neD hr.units) (pe_callB (cr_sortedSet rfl) (by rfl) W.z_sorted (by decide +kernel) (pa_cons (pe_callTy (c_set rfl) (by rfl) W.z_set (by decide +kernel) (pa_cons (pv 0) pa_nil)) pa_nil)) (pv 0) (nomark _))))) (pss_one ps_never) pss_nil)))
theorem run_look_start {G : En} (W : Wd G) {sp : Sp} (len : ∀ vs H Q E, sp vs H Q E → vs.length = 2) (pure : ∀ vs H Q E, sp vs H Q E → t_look_start G { nx := fun _ H' => Q .non H', rt := Q } (start N_look_start vs) H) : CalG G 2 "look_start" sp [] := by
  obtain ⟨fd, F⟩ := W.f_look_start
  exact ⟨⟨_, fd, ["start", "many"], [], fn_ok0 F sc_look_start len (fun _ _ _ _ _ _ hr => dv_look_start W hr) pure, W.g_look_start, F.kp, (F.bindsN (ps := ["start", "many"]) fun _ _ _ _ _ _ us hl => match us, hl with | [_, _], _ => rfl), .nil⟩⟩
def N_Net_init : List Str := ["self", "many", "start", "hand", "other"]
theorem sc_Net_init : FnScope N_Net_init ["self", "many", "start"] (defScope s_Net_init) := ⟨rfl, rfl, rfl, by decide +kernel, rfl, by decide +kernel, by decide +kernel⟩
def t_Net_init (G : En) : TS :=
    (tSeq (tDrop (tCallQ G 2 "look_number" (tCons (tVar 1) (tCons (tC (.int 2)) (tCons (tC (.int 8)) tNil)))))
    (tSeq (tDrop (tCallQ G 2 "look_start" (tCons (tVar 2) (tCons (tVar 1) tNil))))
    (tSeq (sFldQ G.K (tVar 0) (tVar 1) "many")
    (tSeq (sFldQ G.K (tVar 0) (tLcQ (iRng1Q (tCons (tVar 1) tNil)) (gName 3) tYes (tOp (rIn G.K false) (tVar 3) (tVar 2)) [3]) "up")
    (tSeq (sFldQ G.K (tVar 0) (tOp rRep (tLstQ (tCons (tC (.int 100)) tNil)) (tVar 1)) "purses")
    (tSeq (sFldQ G.K (tVar 0) tDNewT "rows")
    (tForQ (iRng1Q (tCons (tVar 1) tNil)) (gName 3) (tForQ (iRng1Q (tCons (tVar 1) tNil)) (gName 4) (sDPutQ (tFldQ G.K (tVar 0) "rows") (tTupQ (tCons (tVar 3) (tCons (tVar 4) tNil))) (tLstQ tNil))))))))))
theorem dv_Net_init {G : En} (W : Wd G) {qual : Str} {f : Addr} {cdv : Value} {A : Around} {outer : List Env} {s : Shared} {H : Hp} {E : XK} (hr : rm0 2 qual s_Net_init f cdv A s) : PSs (cx0 G N_Net_init qual s_Net_init f cdv A outer s H E) (defBody s_Net_init) (t_Net_init G) :=
    (pss_cons (ps_expr (e_call hr (by rfl) (pa_cons (pv 1) (pa_cons pe_int (pa_cons (e_gint (by rfl) W.k_MOST_HANDS) pa_nil)))))
    (pss_cons (ps_expr (e_call hr (by rfl) (pa_cons (pv 2) (pa_cons (pv 1) pa_nil))))
    (pss_cons (s_fld (pv 0) (pv 1))
    (pss_cons (s_fld (pv 0) (e_lc (own := [("hand", 3)]) (g := (gName 3)) rfl sc_Net_init.nd (i_rng1 (by rfl) W.z_range (pa_cons (pv 1) pa_nil)) (blkOk_by (own := [("hand", 3)]) (N := N_Net_init) (sc := defScope s_Net_init) (by decide +kernel)) (fun _ _ _ _ _ => (pg_name (i := 3) sc_Net_init.nd rfl (Or.inl rfl))) (fun _ _ _ _ _ => pts_nil) (fun _ _ _ _ _ => (e_cmp op_in_seq (pv 3) (pv 2) (by rfl)))))
    (pss_cons (s_fld (pv 0) (pe_op op_rep (e_lst (pa_cons (e_gint (by rfl) W.k_PURSE) pa_nil)) (pv 1)))
    (pss_cons (s_fld (pv 0) pe_dnewT)
    (pss_one (s_for PassesOwn.never rfl (i_rng1 (by rfl) W.z_range (pa_cons (pv 1) pa_nil)) (pg_name (i := 3) sc_Net_init.nd rfl (Or.inl rfl)) (pss_one (s_for PassesOwn.never rfl (i_rng1 (by rfl) W.z_range (pa_cons (pv 1) pa_nil)) (pg_name (i := 4) sc_Net_init.nd rfl (Or.inl rfl)) (pss_one (s_dput (hu_of hr) (e_fld (pv 0)) (e_tup (pa_cons (pv 3) (pa_cons (pv 4) pa_nil))) (e_lst pa_nil)))))))))))))
theorem run_Net_init {G : En} (W : Wd G) {sp : Sp} (len : ∀ vs H Q E, sp vs H Q E → vs.length = 3) (pure : ∀ vs H Q E, sp vs H Q E → t_Net_init G { nx := fun _ H' => Q .non H', rt := Q } (start N_Net_init vs) H) : MakG G 3 "Net" (cl_Net G.K) sp [] := by
  obtain ⟨fd, F⟩ := W.f_Net_init
  exact ⟨⟨_, fd, ["self", "many", "start"], [], W.mk_Net, fn_ok0 F sc_Net_init len (fun _ _ _ _ _ _ hr => dv_Net_init W hr) pure, W.g_Net, (F.bindsN (ps := ["self", "many", "start"]) fun _ _ _ _ _ _ us hl => match us, hl with | [_, _, _], _ => rfl), .nil⟩⟩
theorem runc_Net_init {G : En} (W : Wd G) {sp : Sp} (len : ∀ vs H Q E, sp vs H Q E → vs.length = 3) (pure : ∀ vs H Q E, sp vs H Q E → t_Net_init G { nx := fun _ H' => Q .non H', rt := Q } (start N_Net_init vs) H) : CmG G 3 "Net" "__init__" sp [] := by
  obtain ⟨fd, F⟩ := W.f_Net_init
  exact ⟨⟨_, _, _, fd, ["self", "many", "start"], [], W.g_Net, W.cm_Net.rd, W.cm_Net.at_, W.cm_Net.kp, fn_ok0 F sc_Net_init len (fun _ _ _ _ _ _ hr => dv_Net_init W hr) pure, (F.bindsN (ps := ["self", "many", "start"]) fun _ _ _ _ _ _ us hl => match us, hl with | [_, _, _], _ => rfl), .nil⟩⟩
def N_Net_look_hand : List Str := ["self", "hand"]
theorem sc_Net_look_hand : FnScope N_Net_look_hand ["self", "hand"] (defScope s_Net_look_hand) := ⟨rfl, rfl, rfl, by decide +kernel, rfl, by decide +kernel, by decide +kernel⟩
def t_Net_look_hand (G : En) : TS :=
    (tIfS (tNot (tTestQ (tCallQ G 1 "is_whole" (tCons (tVar 1) (tCons (tC (.int 0)) (tCons (tOp (rI0 fun i j => .int (i - j)) (tFldQ G.K (tVar 0) "many") (tC (.int 1))) tNil)))))) tNever tNext)
theorem dv_Net_look_hand {G : En} (W : Wd G) {qual : Str} {f : Addr} {cdv : Value} {A : Around} {outer : List Env} {s : Shared} {H : Hp} {E : XK} (hr : rm0 1 qual s_Net_look_hand f cdv A s) : PSs (cx0 G N_Net_look_hand qual s_Net_look_hand f cdv A outer s H E) (defBody s_Net_look_hand) (t_Net_look_hand G) :=
    (pss_one (ps_if (pt_not (b_val (e_call hr (by rfl) (pa_cons (pv 1) (pa_cons pe_int (pa_cons (pe_op op_sub (e_fld (pv 0)) pe_int) pa_nil)))))) (pss_one ps_never) pss_nil))
theorem run_Net_look_hand {G : En} (W : Wd G) {sp : Sp} (len : ∀ vs H Q E, sp vs H Q E → vs.length = 2) (pure : ∀ vs H Q E, sp vs H Q E → t_Net_look_hand G { nx := fun _ H' => Q .non H', rt := Q } (start N_Net_look_hand vs) H) : MetG G 2 (cl_Net G.K) "look_hand" sp [] := by
  obtain ⟨fd, F⟩ := W.f_Net_look_hand
  exact ⟨⟨_, fd, ["self", "hand"], [], W.c_Net, W.m_Net_look_hand, fn_ok0 F sc_Net_look_hand len (fun _ _ _ _ _ _ hr => dv_Net_look_hand W hr) pure, (F.bindsN (ps := ["self", "hand"]) fun _ _ _ _ _ _ us hl => match us, hl with | [_, _], _ => rfl), .nil⟩⟩
theorem run_Ring_look_hand {G : En} (W : Wd G) {sp : Sp} (len : ∀ vs H Q E, sp vs H Q E → vs.length = 2) (pure : ∀ vs H Q E, sp vs H Q E → t_Net_look_hand G { nx := fun _ H' => Q .non H', rt := Q } (start N_Net_look_hand vs) H) : MetG G 2 (cl_Ring G.K) "look_hand" sp [] := by
  obtain ⟨fd, F⟩ := W.f_Ring_look_hand
  exact ⟨⟨_, fd, ["self", "hand"], [], W.c_Ring, W.m_Ring_look_hand, fn_ok0 F sc_Net_look_hand len (fun _ _ _ _ _ _ hr => dv_Net_look_hand W hr) pure, (F.bindsN (ps := ["self", "hand"]) fun _ _ _ _ _ _ us hl => match us, hl with | [_, _], _ => rfl), .nil⟩⟩
def tE_Net_look_hand (G : En) (Wx : WX) : TS :=
    (tIfS (tNot (tTestQ (tCallQ G 1 "is_whole" (tCons (tVar 1) (tCons (tC (.int 0)) (tCons (tOp (rI0 fun i j => .int (i - j)) (tFldQ G.K (tVar 0) "many") (tC (.int 1))) tNil)))))) (tRaise (He.ga G.K "NoHand") Wx) tNext)
theorem dvE_Net_look_hand {G : En} (W : Wd G) {qual : Str} {f : Addr} {cdv : Value} {A : Around} {outer : List Env} {s : Shared} {H : Hp} {E : XK} (hr : rm0 1 qual s_Net_look_hand f cdv A s) : PSs (cxE G N_Net_look_hand qual s_Net_look_hand f cdv A outer s H E) (defBody s_Net_look_hand) (tE_Net_look_hand G (WD E)) :=
    have tk : Takes (cxE G N_Net_look_hand qual s_Net_look_hand f cdv A outer s H E) (WD E) := takesE
    (pss_one (ps_if (pt_not (b_val (e_call hr (by rfl) (pa_cons (pv 1) (pa_cons pe_int (pa_cons (pe_op op_sub (e_fld (pv 0)) pe_int) pa_nil)))))) (pss_one (s_raise rfl tk W.x_NoHand W.g_NoHand (by rfl))) pss_nil))
theorem runE_Net_look_hand {G : En} (W : Wd G) {sp : Sp} (len : ∀ vs H Q E, sp vs H Q E → vs.length = 2) (pure : ∀ vs H Q E, sp vs H Q E → tE_Net_look_hand G (WD E) { nx := fun _ H' => Q .non H', rt := Q } (start N_Net_look_hand vs) H) : MetE G 2 (cl_Net G.K) "look_hand" sp [] := by
  obtain ⟨fd, F⟩ := W.f_Net_look_hand
  exact ⟨⟨_, fd, ["self", "hand"], [], W.c_Net, W.m_Net_look_hand, fn_okE (t := tE_Net_look_hand G) F sc_Net_look_hand len (fun _ _ _ _ _ _ hr => dvE_Net_look_hand W hr) pure, (F.bindsN (ps := ["self", "hand"]) fun _ _ _ _ _ _ us hl => match us, hl with | [_, _], _ => rfl), .nil⟩⟩
theorem runE_Ring_look_hand {G : En} (W : Wd G) {sp : Sp} (len : ∀ vs H Q E, sp vs H Q E → vs.length = 2) (pure : ∀ vs H Q E, sp vs H Q E → tE_Net_look_hand G (WD E) { nx := fun _ H' => Q .non H', rt := Q } (start N_Net_look_hand vs) H) : MetE G 2 (cl_Ring G.K) "look_hand" sp [] := by
  obtain ⟨fd, F⟩ := W.f_Ring_look_hand
  exact ⟨⟨_, fd, ["self", "hand"], [], W.c_Ring, W.m_Ring_look_hand, fn_okE (t := tE_Net_look_hand G) F sc_Net_look_hand len (fun _ _ _ _ _ _ hr => dvE_Net_look_hand W hr) pure, (F.bindsN (ps := ["self", "hand"]) fun _ _ _ _ _ _ us hl => match us, hl with | [_, _], _ => rfl), .nil⟩⟩
def N_Net_look_way : List Str := ["self", "hand", "other"]
theorem sc_Net_look_way : FnScope N_Net_look_way ["self", "hand", "other"] (defScope s_Net_look_way) := ⟨rfl, rfl, rfl, by decide +kernel, rfl, by decide +kernel, by decide +kernel⟩
def t_Net_look_way (G : En) : TS :=
    (tSeq (tDrop (tMethQ G 2 "look_hand" (tVar 0) (tCons (tVar 1) tNil)))
    (tSeq (tDrop (tMethQ G 2 "look_hand" (tVar 0) (tCons (tVar 2) tNil)))
    (tIfS (tTestQ (tOp rEq (tVar 1) (tVar 2))) tNever tNext)))
theorem dv_Net_look_way {G : En} (W : Wd G) {qual : Str} {f : Addr} {cdv : Value} {A : Around} {outer : List Env} {s : Shared} {H : Hp} {E : XK} (hr : rm0 2 qual s_Net_look_way f cdv A s) : PSs (cx0 G N_Net_look_way qual s_Net_look_way f cdv A outer s H E) (defBody s_Net_look_way) (t_Net_look_way G) :=
    (pss_cons (ps_expr (e_meth hr (pv 0) (pa_cons (pv 1) pa_nil)))
    (pss_cons (ps_expr (e_meth hr (pv 0) (pa_cons (pv 2) pa_nil)))
    (pss_one (ps_if (b_cmp op_eq (pv 1) (pv 2) (nomark _)) (pss_one ps_never) pss_nil))))
theorem run_Net_look_way {G : En} (W : Wd G) {sp : Sp} (len : ∀ vs H Q E, sp vs H Q E → vs.length = 3) (pure : ∀ vs H Q E, sp vs H Q E → t_Net_look_way G { nx := fun _ H' => Q .non H', rt := Q } (start N_Net_look_way vs) H) : MetG G 3 (cl_Net G.K) "look_way" sp [] := by
  obtain ⟨fd, F⟩ := W.f_Net_look_way
  exact ⟨⟨_, fd, ["self", "hand", "other"], [], W.c_Net, W.m_Net_look_way, fn_ok0 F sc_Net_look_way len (fun _ _ _ _ _ _ hr => dv_Net_look_way W hr) pure, (F.bindsN (ps := ["self", "hand", "other"]) fun _ _ _ _ _ _ us hl => match us, hl with | [_, _, _], _ => rfl), .nil⟩⟩
theorem run_Ring_look_way {G : En} (W : Wd G) {sp : Sp} (len : ∀ vs H Q E, sp vs H Q E → vs.length = 3) (pure : ∀ vs H Q E, sp vs H Q E → t_Net_look_way G { nx := fun _ H' => Q .non H', rt := Q } (start N_Net_look_way vs) H) : MetG G 3 (cl_Ring G.K) "look_way" sp [] := by
  obtain ⟨fd, F⟩ := W.f_Ring_look_way
  exact ⟨⟨_, fd, ["self", "hand", "other"], [], W.c_Ring, W.m_Ring_look_way, fn_ok0 F sc_Net_look_way len (fun _ _ _ _ _ _ hr => dv_Net_look_way W hr) pure, (F.bindsN (ps := ["self", "hand", "other"]) fun _ _ _ _ _ _ us hl => match us, hl with | [_, _, _], _ => rfl), .nil⟩⟩
def N_Net_put : List Str := ["self", "hand", "other", "word", "what"]
theorem sc_Net_put : FnScope N_Net_put ["self", "hand", "other", "word", "what"] (defScope s_Net_put) := ⟨rfl, rfl, rfl, by decide +kernel, rfl, by decide +kernel, by decide +kernel⟩
def t_Net_put (G : En) : TS :=
    (tDrop (tBMQ G.K "list" rAppend (tDGetQ (tFldQ G.K (tVar 0) "rows") (tTupQ (tCons (tVar 1) (tCons (tVar 2) tNil)))) (tCons (tTupQ (tCons (tVar 3) (tCons (tVar 4) tNil))) tNil)))
theorem dv_Net_put {G : En} (W : Wd G) {qual : Str} {f : Addr} {cdv : Value} {A : Around} {outer : List Env} {s : Shared} {H : Hp} {E : XK} (hr : rm0 0 qual s_Net_put f cdv A s) : PSs (cx0 G N_Net_put qual s_Net_put f cdv A outer s H E) (defBody s_Net_put) (t_Net_put G) :=
    (pss_one (ps_expr (e_bm PySem.F.plainAttrs_list PySem.F.slot_list_append PySem.F.type_list_append mt_append (e_dget (hu_of hr) (e_fld (pv 0)) (e_tup (pa_cons (pv 1) (pa_cons (pv 2) pa_nil)))) (pa_cons (e_tup (pa_cons (pv 3) (pa_cons (pv 4) pa_nil))) pa_nil))))
theorem run_Net_put {G : En} (W : Wd G) {sp : Sp} (len : ∀ vs H Q E, sp vs H Q E → vs.length = 5) (pure : ∀ vs H Q E, sp vs H Q E → t_Net_put G { nx := fun _ H' => Q .non H', rt := Q } (start N_Net_put vs) H) : MetG G 1 (cl_Net G.K) "put" sp [] := by
  obtain ⟨fd, F⟩ := W.f_Net_put
  exact ⟨⟨_, fd, ["self", "hand", "other", "word", "what"], [], W.c_Net, W.m_Net_put, fn_ok0 F sc_Net_put len (fun _ _ _ _ _ _ hr => dv_Net_put W hr) pure, (F.bindsN (ps := ["self", "hand", "other", "word", "what"]) fun _ _ _ _ _ _ us hl => match us, hl with | [_, _, _, _, _], _ => rfl), .nil⟩⟩
theorem run_Ring_put {G : En} (W : Wd G) {sp : Sp} (len : ∀ vs H Q E, sp vs H Q E → vs.length = 5) (pure : ∀ vs H Q E, sp vs H Q E → t_Net_put G { nx := fun _ H' => Q .non H', rt := Q } (start N_Net_put vs) H) : MetG G 1 (cl_Ring G.K) "put" sp [] := by
  obtain ⟨fd, F⟩ := W.f_Ring_put
  exact ⟨⟨_, fd, ["self", "hand", "other", "word", "what"], [], W.c_Ring, W.m_Ring_put, fn_ok0 F sc_Net_put len (fun _ _ _ _ _ _ hr => dv_Net_put W hr) pure, (F.bindsN (ps := ["self", "hand", "other", "word", "what"]) fun _ _ _ _ _ _ us hl => match us, hl with | [_, _, _, _, _], _ => rfl), .nil⟩⟩
def N_Net_mark : List Str := ["self", "hand", "other"]
theorem sc_Net_mark : FnScope N_Net_mark ["self", "hand", "other"] (defScope s_Net_mark) := ⟨rfl, rfl, rfl, by decide +kernel, rfl, by decide +kernel, by decide +kernel⟩
def t_Net_mark (G : En) : TS :=
    (tRet (tC .non))
theorem dv_Net_mark {G : En} (W : Wd G) {qual : Str} {f : Addr} {cdv : Value} {A : Around} {outer : List Env} {s : Shared} {H : Hp} {E : XK} (hr : rm0 0 qual s_Net_mark f cdv A s) : PSs (cx0 G N_Net_mark qual s_Net_mark f cdv A outer s H E) (defBody s_Net_mark) (t_Net_mark G) :=
    (pss_one (ps_ret pe_non))
theorem run_Net_mark {G : En} (W : Wd G) {sp : Sp} (len : ∀ vs H Q E, sp vs H Q E → vs.length = 3) (pure : ∀ vs H Q E, sp vs H Q E → t_Net_mark G { nx := fun _ H' => Q .non H', rt := Q } (start N_Net_mark vs) H) : MetG G 1 (cl_Net G.K) "mark" sp [] := by
  obtain ⟨fd, F⟩ := W.f_Net_mark
  exact ⟨⟨_, fd, ["self", "hand", "other"], [], W.c_Net, W.m_Net_mark, fn_ok0 F sc_Net_mark len (fun _ _ _ _ _ _ hr => dv_Net_mark W hr) pure, (F.bindsN (ps := ["self", "hand", "other"]) fun _ _ _ _ _ _ us hl => match us, hl with | [_, _, _], _ => rfl), .nil⟩⟩
def N_Net_after_rest : List Str := ["self", "hand"]
theorem sc_Net_after_rest : FnScope N_Net_after_rest ["self", "hand"] (defScope s_Net_after_rest) := ⟨rfl, rfl, rfl, by decide +kernel, rfl, by decide +kernel, by decide +kernel⟩
def t_Net_after_rest (G : En) : TS :=
    (tRet (tC .non))
theorem dv_Net_after_rest {G : En} (W : Wd G) {qual : Str} {f : Addr} {cdv : Value} {A : Around} {outer : List Env} {s : Shared} {H : Hp} {E : XK} (hr : rm0 0 qual s_Net_after_rest f cdv A s) : PSs (cx0 G N_Net_after_rest qual s_Net_after_rest f cdv A outer s H E) (defBody s_Net_after_rest) (t_Net_after_rest G) :=
    (pss_one (ps_ret pe_non))
theorem run_Net_after_rest {G : En} (W : Wd G) {sp : Sp} (len : ∀ vs H Q E, sp vs H Q E → vs.length = 2) (pure : ∀ vs H Q E, sp vs H Q E → t_Net_after_rest G { nx := fun _ H' => Q .non H', rt := Q } (start N_Net_after_rest vs) H) : MetG G 1 (cl_Net G.K) "after_rest" sp [] := by
  obtain ⟨fd, F⟩ := W.f_Net_after_rest
  exact ⟨⟨_, fd, ["self", "hand"], [], W.c_Net, W.m_Net_after_rest, fn_ok0 F sc_Net_after_rest len (fun _ _ _ _ _ _ hr => dv_Net_after_rest W hr) pure, (F.bindsN (ps := ["self", "hand"]) fun _ _ _ _ _ _ us hl => match us, hl with | [_, _], _ => rfl), .nil⟩⟩
theorem run_Ring_after_rest {G : En} (W : Wd G) {sp : Sp} (len : ∀ vs H Q E, sp vs H Q E → vs.length = 2) (pure : ∀ vs H Q E, sp vs H Q E → t_Net_after_rest G { nx := fun _ H' => Q .non H', rt := Q } (start N_Net_after_rest vs) H) : MetG G 1 (cl_Ring G.K) "after_rest" sp [] := by
  obtain ⟨fd, F⟩ := W.f_Ring_after_rest
  exact ⟨⟨_, fd, ["self", "hand"], [], W.c_Ring, W.m_Ring_after_rest, fn_ok0 F sc_Net_after_rest len (fun _ _ _ _ _ _ hr => dv_Net_after_rest W hr) pure, (F.bindsN (ps := ["self", "hand"]) fun _ _ _ _ _ _ us hl => match us, hl with | [_, _], _ => rfl), .nil⟩⟩
def N_Net_after_work : List Str := ["self", "hand", "other", "load", "extra"]
theorem sc_Net_after_work : FnScope N_Net_after_work ["self", "hand", "other", "load", "extra"] (defScope s_Net_after_work) := ⟨rfl, rfl, rfl, by decide +kernel, rfl, by decide +kernel, by decide +kernel⟩
def t_Net_after_work (G : En) : TS :=
    (tRet (tC .non))
theorem dv_Net_after_work {G : En} (W : Wd G) {qual : Str} {f : Addr} {cdv : Value} {A : Around} {outer : List Env} {s : Shared} {H : Hp} {E : XK} (hr : rm0 0 qual s_Net_after_work f cdv A s) : PSs (cx0 G N_Net_after_work qual s_Net_after_work f cdv A outer s H E) (defBody s_Net_after_work) (t_Net_after_work G) :=
    (pss_one (ps_ret pe_non))
theorem run_Net_after_work {G : En} (W : Wd G) {sp : Sp} (len : ∀ vs H Q E, sp vs H Q E → vs.length = 5) (pure : ∀ vs H Q E, sp vs H Q E → t_Net_after_work G { nx := fun _ H' => Q .non H', rt := Q } (start N_Net_after_work vs) H) : MetG G 1 (cl_Net G.K) "after_work" sp [] := by
  obtain ⟨fd, F⟩ := W.f_Net_after_work
  exact ⟨⟨_, fd, ["self", "hand", "other", "load", "extra"], [], W.c_Net, W.m_Net_after_work, fn_ok0 F sc_Net_after_work len (fun _ _ _ _ _ _ hr => dv_Net_after_work W hr) pure, (F.bindsN (ps := ["self", "hand", "other", "load", "extra"]) fun _ _ _ _ _ _ us hl => match us, hl with | [_, _, _, _, _], _ => rfl), .nil⟩⟩
def N_Net_after_control : List Str := ["self", "hand", "other", "word", "what"]
theorem sc_Net_after_control : FnScope N_Net_after_control ["self", "hand", "other", "word", "what"] (defScope s_Net_after_control) := ⟨rfl, rfl, rfl, by decide +kernel, rfl, by decide +kernel, by decide +kernel⟩
def t_Net_after_control (G : En) : TS :=
    (tRet (tC .non))
theorem dv_Net_after_control {G : En} (W : Wd G) {qual : Str} {f : Addr} {cdv : Value} {A : Around} {outer : List Env} {s : Shared} {H : Hp} {E : XK} (hr : rm0 0 qual s_Net_after_control f cdv A s) : PSs (cx0 G N_Net_after_control qual s_Net_after_control f cdv A outer s H E) (defBody s_Net_after_control) (t_Net_after_control G) :=
    (pss_one (ps_ret pe_non))
theorem run_Net_after_control {G : En} (W : Wd G) {sp : Sp} (len : ∀ vs H Q E, sp vs H Q E → vs.length = 5) (pure : ∀ vs H Q E, sp vs H Q E → t_Net_after_control G { nx := fun _ H' => Q .non H', rt := Q } (start N_Net_after_control vs) H) : MetG G 1 (cl_Net G.K) "after_control" sp [] := by
  obtain ⟨fd, F⟩ := W.f_Net_after_control
  exact ⟨⟨_, fd, ["self", "hand", "other", "word", "what"], [], W.c_Net, W.m_Net_after_control, fn_ok0 F sc_Net_after_control len (fun _ _ _ _ _ _ hr => dv_Net_after_control W hr) pure, (F.bindsN (ps := ["self", "hand", "other", "word", "what"]) fun _ _ _ _ _ _ us hl => match us, hl with | [_, _, _, _, _], _ => rfl), .nil⟩⟩
def N_Net_before_work : List Str := ["self", "hand", "other", "load"]
theorem sc_Net_before_work : FnScope N_Net_before_work ["self", "hand", "other", "load"] (defScope s_Net_before_work) := ⟨rfl, rfl, rfl, by decide +kernel, rfl, by decide +kernel, by decide +kernel⟩
def t_Net_before_work (G : En) : TS :=
    (tRet (tC .non))
theorem dv_Net_before_work {G : En} (W : Wd G) {qual : Str} {f : Addr} {cdv : Value} {A : Around} {outer : List Env} {s : Shared} {H : Hp} {E : XK} (hr : rm0 0 qual s_Net_before_work f cdv A s) : PSs (cx0 G N_Net_before_work qual s_Net_before_work f cdv A outer s H E) (defBody s_Net_before_work) (t_Net_before_work G) :=
    (pss_one (ps_ret pe_non))
theorem run_Net_before_work {G : En} (W : Wd G) {sp : Sp} (len : ∀ vs H Q E, sp vs H Q E → vs.length = 4) (pure : ∀ vs H Q E, sp vs H Q E → t_Net_before_work G { nx := fun _ H' => Q .non H', rt := Q } (start N_Net_before_work vs) H) : MetG G 1 (cl_Net G.K) "before_work" sp [] := by
  obtain ⟨fd, F⟩ := W.f_Net_before_work
  exact ⟨⟨_, fd, ["self", "hand", "other", "load"], [], W.c_Net, W.m_Net_before_work, fn_ok0 F sc_Net_before_work len (fun _ _ _ _ _ _ hr => dv_Net_before_work W hr) pure, (F.bindsN (ps := ["self", "hand", "other", "load"]) fun _ _ _ _ _ _ us hl => match us, hl with | [_, _, _, _], _ => rfl), .nil⟩⟩
theorem run_Ring_before_work {G : En} (W : Wd G) {sp : Sp} (len : ∀ vs H Q E, sp vs H Q E → vs.length = 4) (pure : ∀ vs H Q E, sp vs H Q E → t_Net_before_work G { nx := fun _ H' => Q .non H', rt := Q } (start N_Net_before_work vs) H) : MetG G 1 (cl_Ring G.K) "before_work" sp [] := by
  obtain ⟨fd, F⟩ := W.f_Ring_before_work
  exact ⟨⟨_, fd, ["self", "hand", "other", "load"], [], W.c_Ring, W.m_Ring_before_work, fn_ok0 F sc_Net_before_work len (fun _ _ _ _ _ _ hr => dv_Net_before_work W hr) pure, (F.bindsN (ps := ["self", "hand", "other", "load"]) fun _ _ _ _ _ _ us hl => match us, hl with | [_, _, _, _], _ => rfl), .nil⟩⟩
def N_Net_send : List Str := ["self", "hand", "other", "load"]
theorem sc_Net_send : FnScope N_Net_send ["self", "hand", "other", "load"] (defScope s_Net_send) := ⟨rfl, rfl, rfl, by decide +kernel, rfl, by decide +kernel, by decide +kernel⟩
def t_Net_send (G : En) : TS :=
    (tSeq (tDrop (tMethQ G 3 "look_way" (tVar 0) (tCons (tVar 1) (tCons (tVar 2) tNil))))
    (tSeq (tIfS (tNot (tTestQ (tOp (rIxL G.K) (tFldQ G.K (tVar 0) "up") (tVar 1)))) tNever tNext)
    (tSeq (tDrop (tCallQ G 3 "look_number" (tCons (tVar 3) (tCons (tC (.int 0)) (tCons (tOp (rI CMul fun i j => .int (i * j)) (tC (.int 100)) (tC (.int 8))) tNil)))))
    (tSeq (tIfS (tTestQ (tOp (rI0 fun i j => .bl (decide (j < i))) (tVar 3) (tOp (rIxL G.K) (tFldQ G.K (tVar 0) "purses") (tVar 1)))) tNever tNext)
    (tSeq (tAsg (tOp (rI0 fun i j => .int (i - j)) (tOp (rIxL G.K) (tFldQ G.K (tVar 0) "purses") (tVar 1)) (tVar 3)) (gSub (tFldQ G.K (tVar 0) "purses") (tVar 1) rSetL))
    (tDrop (tMethQ G 3 "put" (tVar 0) (tCons (tVar 1) (tCons (tVar 2) (tCons (tC (.str "work")) (tCons (tTupQ (tCons (tVar 3) (tCons (tMethQ G 3 "mark" (tVar 0) (tCons (tVar 1) (tCons (tVar 2) tNil))) tNil))) tNil)))))))))))
theorem dv_Net_send {G : En} (W : Wd G) {qual : Str} {f : Addr} {cdv : Value} {A : Around} {outer : List Env} {s : Shared} {H : Hp} {E : XK} (hr : rm0 3 qual s_Net_send f cdv A s) : PSs (cx0 G N_Net_send qual s_Net_send f cdv A outer s H E) (defBody s_Net_send) (t_Net_send G) :=
    (pss_cons (ps_expr (e_meth hr (pv 0) (pa_cons (pv 1) (pa_cons (pv 2) pa_nil))))
    (pss_cons (ps_if (pt_not (b_val (pe_ix ix_list (e_fld (pv 0)) (pv 1) (fun _ _ => rfl)))) (pss_one ps_never) pss_nil)
    (pss_cons (ps_expr (e_call hr (by rfl) (pa_cons (pv 3) (pa_cons pe_int (pa_cons (pe_op op_mul (e_gint (by rfl) W.k_PURSE) (e_gint (by rfl) W.k_MOST_HANDS)) pa_nil)))))
    (pss_cons (ps_if (b_cmp op_gt (pv 3) (pe_ix ix_list (e_fld (pv 0)) (pv 1) (fun _ _ => rfl)) (nomark _)) (pss_one ps_never) pss_nil)
    (pss_cons (ps_asg (pe_op op_sub (pe_ix ix_list (e_fld (pv 0)) (pv 1) (fun _ _ => rfl)) (pv 3)) (pg_sub (e_fld (pv 0)) (pv 1) set_list))
    (pss_one (ps_expr (e_meth hr (pv 0) (pa_cons (pv 1) (pa_cons (pv 2) (pa_cons (e_gstr (by rfl) W.k_WORK) (pa_cons (e_tup (pa_cons (pv 3) (pa_cons (e_meth hr (pv 0) (pa_cons (pv 1) (pa_cons (pv 2) pa_nil))) pa_nil))) pa_nil))))))))))))
theorem run_Net_send {G : En} (W : Wd G) {sp : Sp} (len : ∀ vs H Q E, sp vs H Q E → vs.length = 4) (pure : ∀ vs H Q E, sp vs H Q E → t_Net_send G { nx := fun _ H' => Q .non H', rt := Q } (start N_Net_send vs) H) : MetG G 4 (cl_Net G.K) "send" sp [] := by
  obtain ⟨fd, F⟩ := W.f_Net_send
  obtain ⟨ds, hv, hb⟩ := FunD.binds1 (ps := ["self", "hand", "other", "load"]) F 4 1 (by simp) rfl fun _ _ _ _ _ _ _ us its hl hi => match us, its, hl, hi with | [_, _, _, _], [_], _, _ => ⟨_, rfl, rfl⟩
  exact ⟨⟨_, fd, ["self", "hand", "other", "load"], ds, W.c_Net, W.m_Net_send, fn_ok0 F sc_Net_send len (fun _ _ _ _ _ _ hr => dv_Net_send W hr) pure, hb, hv⟩⟩
theorem run_Ring_send {G : En} (W : Wd G) {sp : Sp} (len : ∀ vs H Q E, sp vs H Q E → vs.length = 4) (pure : ∀ vs H Q E, sp vs H Q E → t_Net_send G { nx := fun _ H' => Q .non H', rt := Q } (start N_Net_send vs) H) : MetG G 4 (cl_Ring G.K) "send" sp [] := by
  obtain ⟨fd, F⟩ := W.f_Ring_send
  obtain ⟨ds, hv, hb⟩ := FunD.binds1 (ps := ["self", "hand", "other", "load"]) F 4 1 (by simp) rfl fun _ _ _ _ _ _ _ us its hl hi => match us, its, hl, hi with | [_, _, _, _], [_], _, _ => ⟨_, rfl, rfl⟩
  exact ⟨⟨_, fd, ["self", "hand", "other", "load"], ds, W.c_Ring, W.m_Ring_send, fn_ok0 F sc_Net_send len (fun _ _ _ _ _ _ hr => dv_Net_send W hr) pure, hb, hv⟩⟩
theorem run_Net_send_d1 {G : En} (W : Wd G) {sp : Sp} (len : ∀ vs H Q E, sp vs H Q E → vs.length = 4) (pure : ∀ vs H Q E, sp vs H Q E → t_Net_send G { nx := fun _ H' => Q .non H', rt := Q } (start N_Net_send vs) H) : MetG G 4 (cl_Net G.K) "send" sp [.int 0] := by
  obtain ⟨fd, F⟩ := W.f_Net_send
  obtain ⟨ds, hv, hb⟩ := FunD.binds1 (ps := ["self", "hand", "other", "load"]) F 3 0 (by simp) rfl fun _ _ _ _ _ _ _ us its hl hi => match us, its, hl, hi with | [_, _, _], [_], _, _ => ⟨_, rfl, rfl⟩
  exact ⟨⟨_, fd, ["self", "hand", "other", "load"], ds, W.c_Net, W.m_Net_send, fn_ok0 F sc_Net_send len (fun _ _ _ _ _ _ hr => dv_Net_send W hr) pure, hb, hv⟩⟩
theorem run_Ring_send_d1 {G : En} (W : Wd G) {sp : Sp} (len : ∀ vs H Q E, sp vs H Q E → vs.length = 4) (pure : ∀ vs H Q E, sp vs H Q E → t_Net_send G { nx := fun _ H' => Q .non H', rt := Q } (start N_Net_send vs) H) : MetG G 4 (cl_Ring G.K) "send" sp [.int 0] := by
  obtain ⟨fd, F⟩ := W.f_Ring_send
  obtain ⟨ds, hv, hb⟩ := FunD.binds1 (ps := ["self", "hand", "other", "load"]) F 3 0 (by simp) rfl fun _ _ _ _ _ _ _ us its hl hi => match us, its, hl, hi with | [_, _, _], [_], _, _ => ⟨_, rfl, rfl⟩
  exact ⟨⟨_, fd, ["self", "hand", "other", "load"], ds, W.c_Ring, W.m_Ring_send, fn_ok0 F sc_Net_send len (fun _ _ _ _ _ _ hr => dv_Net_send W hr) pure, hb, hv⟩⟩
def N_Net_rest : List Str := ["self", "hand"]
theorem sc_Net_rest : FnScope N_Net_rest ["self", "hand"] (defScope s_Net_rest) := ⟨rfl, rfl, rfl, by decide +kernel, rfl, by decide +kernel, by decide +kernel⟩
def t_Net_rest (G : En) : TS :=
    (tSeq (tDrop (tMethQ G 2 "look_hand" (tVar 0) (tCons (tVar 1) tNil)))
    (tSeq (tIfS (tNot (tTestQ (tOp (rIxL G.K) (tFldQ G.K (tVar 0) "up") (tVar 1)))) tNever tNext)
    (tSeq (tAsg (tC (.bl false)) (gSub (tFldQ G.K (tVar 0) "up") (tVar 1) rSetL))
    (tDrop (tMethQ G 2 "after_rest" (tVar 0) (tCons (tVar 1) tNil))))))
theorem dv_Net_rest {G : En} (W : Wd G) {qual : Str} {f : Addr} {cdv : Value} {A : Around} {outer : List Env} {s : Shared} {H : Hp} {E : XK} (hr : rm0 2 qual s_Net_rest f cdv A s) : PSs (cx0 G N_Net_rest qual s_Net_rest f cdv A outer s H E) (defBody s_Net_rest) (t_Net_rest G) :=
    (pss_cons (ps_expr (e_meth hr (pv 0) (pa_cons (pv 1) pa_nil)))
    (pss_cons (ps_if (pt_not (b_val (pe_ix ix_list (e_fld (pv 0)) (pv 1) (fun _ _ => rfl)))) (pss_one ps_never) pss_nil)
    (pss_cons (ps_asg pe_bl (pg_sub (e_fld (pv 0)) (pv 1) set_list))
    (pss_one (ps_expr (e_meth hr (pv 0) (pa_cons (pv 1) pa_nil)))))))
theorem run_Net_rest {G : En} (W : Wd G) {sp : Sp} (len : ∀ vs H Q E, sp vs H Q E → vs.length = 2) (pure : ∀ vs H Q E, sp vs H Q E → t_Net_rest G { nx := fun _ H' => Q .non H', rt := Q } (start N_Net_rest vs) H) : MetG G 3 (cl_Net G.K) "rest" sp [] := by
  obtain ⟨fd, F⟩ := W.f_Net_rest
  exact ⟨⟨_, fd, ["self", "hand"], [], W.c_Net, W.m_Net_rest, fn_ok0 F sc_Net_rest len (fun _ _ _ _ _ _ hr => dv_Net_rest W hr) pure, (F.bindsN (ps := ["self", "hand"]) fun _ _ _ _ _ _ us hl => match us, hl with | [_, _], _ => rfl), .nil⟩⟩
theorem run_Ring_rest {G : En} (W : Wd G) {sp : Sp} (len : ∀ vs H Q E, sp vs H Q E → vs.length = 2) (pure : ∀ vs H Q E, sp vs H Q E → t_Net_rest G { nx := fun _ H' => Q .non H', rt := Q } (start N_Net_rest vs) H) : MetG G 3 (cl_Ring G.K) "rest" sp [] := by
  obtain ⟨fd, F⟩ := W.f_Ring_rest
  exact ⟨⟨_, fd, ["self", "hand"], [], W.c_Ring, W.m_Ring_rest, fn_ok0 F sc_Net_rest len (fun _ _ _ _ _ _ hr => dv_Net_rest W hr) pure, (F.bindsN (ps := ["self", "hand"]) fun _ _ _ _ _ _ us hl => match us, hl with | [_, _], _ => rfl), .nil⟩⟩
def N_Net_come : List Str := ["self", "hand", "other", "word", "what", "load", "extra"]
theorem sc_Net_come : FnScope N_Net_come ["self", "hand", "other"] (defScope s_Net_come) := ⟨rfl, rfl, rfl, by decide +kernel, rfl, by decide +kernel, by decide +kernel⟩
def t_Net_come (G : En) : TS :=
    (tSeq (tDrop (tMethQ G 3 "look_way" (tVar 0) (tCons (tVar 1) (tCons (tVar 2) tNil))))
    (tSeq (tIfS (tTestQ (tOp (rEqD G.K) (tDGetQ (tFldQ G.K (tVar 0) "rows") (tTupQ (tCons (tVar 1) (tCons (tVar 2) tNil)))) (tLstQ tNil))) tNever tNext)
    (tSeq (tAsg (tBMQ G.K "list" rPopAt (tDGetQ (tFldQ G.K (tVar 0) "rows") (tTupQ (tCons (tVar 1) (tCons (tVar 2) tNil)))) (tCons (tC (.int 0)) tNil)) (gTup G.K 2 (gCons (gName 3) (gCons (gName 4) gNil))))
    (tSeq (tIfS (tTestQ (tOp rNe (tVar 3) (tC (.str "work")))) (tSeq (tDrop (tMethQ G 3 "after_control" (tVar 0) (tCons (tVar 1) (tCons (tVar 2) (tCons (tVar 3) (tCons (tVar 4) tNil))))))
    (tRet (tVar 3))) tNext)
    (tSeq (tAsg (tVar 4) (gTup G.K 2 (gCons (gName 5) (gCons (gName 6) gNil))))
    (tSeq (tDrop (tMethQ G 3 "before_work" (tVar 0) (tCons (tVar 1) (tCons (tVar 2) (tCons (tVar 5) tNil)))))
    (tSeq (tAsg (tC (.bl true)) (gSub (tFldQ G.K (tVar 0) "up") (tVar 2) rSetL))
    (tSeq (tAsg (tOp (rI0 fun i j => .int (i + j)) (tOp (rIxL G.K) (tFldQ G.K (tVar 0) "purses") (tVar 2)) (tVar 5)) (gSub (tFldQ G.K (tVar 0) "purses") (tVar 2) rSetL))
    (tSeq (tDrop (tMethQ G 3 "after_work" (tVar 0) (tCons (tVar 1) (tCons (tVar 2) (tCons (tVar 5) (tCons (tVar 6) tNil))))))
    (tRet (tVar 3)))))))))))
theorem dv_Net_come {G : En} (W : Wd G) {qual : Str} {f : Addr} {cdv : Value} {A : Around} {outer : List Env} {s : Shared} {H : Hp} {E : XK} (hr : rm0 3 qual s_Net_come f cdv A s) : PSs (cx0 G N_Net_come qual s_Net_come f cdv A outer s H E) (defBody s_Net_come) (t_Net_come G) :=
    (pss_cons (ps_expr (e_meth hr (pv 0) (pa_cons (pv 1) (pa_cons (pv 2) pa_nil))))
    (pss_cons (ps_if (b_cmp (op_eqD hr.units) (e_dget (hu_of hr) (e_fld (pv 0)) (e_tup (pa_cons (pv 1) (pa_cons (pv 2) pa_nil)))) (e_lst pa_nil) (nomark _)) (pss_one ps_never) pss_nil)
    (pss_cons (ps_asg (e_bm PySem.F.plainAttrs_list PySem.F.slot_list_pop PySem.F.type_list_pop mt_popAt (e_dget (hu_of hr) (e_fld (pv 0)) (e_tup (pa_cons (pv 1) (pa_cons (pv 2) pa_nil)))) (pa_cons pe_int pa_nil)) (pg_tup rfl (pgs_cons (pg_name (i := 3) sc_Net_come.nd rfl (Or.inl rfl)) (pgs_cons (pg_name (i := 4) sc_Net_come.nd rfl (Or.inl rfl)) pgs_nil))))
    (pss_cons (ps_if (b_cmp op_ne (pv 3) (e_gstr (by rfl) W.k_WORK) (nomark _)) (pss_cons (ps_expr (e_meth hr (pv 0) (pa_cons (pv 1) (pa_cons (pv 2) (pa_cons (pv 3) (pa_cons (pv 4) pa_nil))))))
    (pss_one (ps_ret (pv 3)))) pss_nil)
    (pss_cons (ps_asg (pv 4) (pg_tup rfl (pgs_cons (pg_name (i := 5) sc_Net_come.nd rfl (Or.inl rfl)) (pgs_cons (pg_name (i := 6) sc_Net_come.nd rfl (Or.inl rfl)) pgs_nil))))
    (pss_cons (ps_expr (e_meth hr (pv 0) (pa_cons (pv 1) (pa_cons (pv 2) (pa_cons (pv 5) pa_nil)))))
    (pss_cons (ps_asg pe_bl (pg_sub (e_fld (pv 0)) (pv 2) set_list))
    (pss_cons (ps_asg (pe_op op_add (pe_ix ix_list (e_fld (pv 0)) (pv 2) (fun _ _ => rfl)) (pv 5)) (pg_sub (e_fld (pv 0)) (pv 2) set_list))
    (pss_cons (ps_expr (e_meth hr (pv 0) (pa_cons (pv 1) (pa_cons (pv 2) (pa_cons (pv 5) (pa_cons (pv 6) pa_nil))))))
    (pss_one (ps_ret (pv 3))))))))))))
theorem run_Net_come {G : En} (W : Wd G) {sp : Sp} (len : ∀ vs H Q E, sp vs H Q E → vs.length = 3) (pure : ∀ vs H Q E, sp vs H Q E → t_Net_come G { nx := fun _ H' => Q .non H', rt := Q } (start N_Net_come vs) H) : MetG G 4 (cl_Net G.K) "come" sp [] := by
  obtain ⟨fd, F⟩ := W.f_Net_come
  exact ⟨⟨_, fd, ["self", "hand", "other"], [], W.c_Net, W.m_Net_come, fn_ok0 F sc_Net_come len (fun _ _ _ _ _ _ hr => dv_Net_come W hr) pure, (F.bindsN (ps := ["self", "hand", "other"]) fun _ _ _ _ _ _ us hl => match us, hl with | [_, _, _], _ => rfl), .nil⟩⟩
theorem run_Ring_come {G : En} (W : Wd G) {sp : Sp} (len : ∀ vs H Q E, sp vs H Q E → vs.length = 3) (pure : ∀ vs H Q E, sp vs H Q E → t_Net_come G { nx := fun _ H' => Q .non H', rt := Q } (start N_Net_come vs) H) : MetG G 4 (cl_Ring G.K) "come" sp [] := by
  obtain ⟨fd, F⟩ := W.f_Ring_come
  exact ⟨⟨_, fd, ["self", "hand", "other"], [], W.c_Ring, W.m_Ring_come, fn_ok0 F sc_Net_come len (fun _ _ _ _ _ _ hr => dv_Net_come W hr) pure, (F.bindsN (ps := ["self", "hand", "other"]) fun _ _ _ _ _ _ us hl => match us, hl with | [_, _, _], _ => rfl), .nil⟩⟩
def N_Net_awake : List Str := ["self", "hand"]
theorem sc_Net_awake : FnScope N_Net_awake ["self"] (defScope s_Net_awake) := ⟨rfl, rfl, rfl, by decide +kernel, rfl, by decide +kernel, by decide +kernel⟩
def t_Net_awake (G : En) : TS :=
    (tRet (tLcQ (iRng1Q (tCons (tFldQ G.K (tVar 0) "many") tNil)) (gName 1) (tTestQ (tOp (rIxL G.K) (tFldQ G.K (tVar 0) "up") (tVar 1))) (tVar 1) [1]))
theorem dv_Net_awake {G : En} (W : Wd G) {qual : Str} {f : Addr} {cdv : Value} {A : Around} {outer : List Env} {s : Shared} {H : Hp} {E : XK} (hr : rm0 0 qual s_Net_awake f cdv A s) : PSs (cx0 G N_Net_awake qual s_Net_awake f cdv A outer s H E) (defBody s_Net_awake) (t_Net_awake G) :=
    (pss_one (ps_ret (e_lc (own := [("hand", 1)]) (g := (gName 1)) rfl sc_Net_awake.nd (i_rng1 (by rfl) W.z_range (pa_cons (e_fld (pv 0)) pa_nil)) (blkOk_by (own := [("hand", 1)]) (N := N_Net_awake) (sc := defScope s_Net_awake) (by decide +kernel)) (fun _ _ _ _ _ => (pg_name (i := 1) sc_Net_awake.nd rfl (Or.inl rfl))) (fun _ _ _ _ _ => (pts_one (b_val (pe_ix ix_list (e_fld (pv 0)) (pv 1) (fun _ _ => rfl))))) (fun _ _ _ _ _ => (pv 1)))))
theorem run_Net_awake {G : En} (W : Wd G) {sp : Sp} (len : ∀ vs H Q E, sp vs H Q E → vs.length = 1) (pure : ∀ vs H Q E, sp vs H Q E → t_Net_awake G { nx := fun _ H' => Q .non H', rt := Q } (start N_Net_awake vs) H) : MetG G 1 (cl_Net G.K) "awake" sp [] := by
  obtain ⟨fd, F⟩ := W.f_Net_awake
  exact ⟨⟨_, fd, ["self"], [], W.c_Net, W.m_Net_awake, fn_ok0 F sc_Net_awake len (fun _ _ _ _ _ _ hr => dv_Net_awake W hr) pure, (F.bindsN (ps := ["self"]) fun _ _ _ _ _ _ us hl => match us, hl with | [_], _ => rfl), .nil⟩⟩
theorem run_Ring_awake {G : En} (W : Wd G) {sp : Sp} (len : ∀ vs H Q E, sp vs H Q E → vs.length = 1) (pure : ∀ vs H Q E, sp vs H Q E → t_Net_awake G { nx := fun _ H' => Q .non H', rt := Q } (start N_Net_awake vs) H) : MetG G 1 (cl_Ring G.K) "awake" sp [] := by
  obtain ⟨fd, F⟩ := W.f_Ring_awake
  exact ⟨⟨_, fd, ["self"], [], W.c_Ring, W.m_Ring_awake, fn_ok0 F sc_Net_awake len (fun _ _ _ _ _ _ hr => dv_Net_awake W hr) pure, (F.bindsN (ps := ["self"]) fun _ _ _ _ _ _ us hl => match us, hl with | [_], _ => rfl), .nil⟩⟩
def N_Net_purse : List Str := ["self", "hand"]
theorem sc_Net_purse : FnScope N_Net_purse ["self", "hand"] (defScope s_Net_purse) := ⟨rfl, rfl, rfl, by decide +kernel, rfl, by decide +kernel, by decide +kernel⟩
def t_Net_purse (G : En) : TS :=
    (tSeq (tDrop (tMethQ G 2 "look_hand" (tVar 0) (tCons (tVar 1) tNil)))
    (tRet (tOp (rIxL G.K) (tFldQ G.K (tVar 0) "purses") (tVar 1))))
theorem dv_Net_purse {G : En} (W : Wd G) {qual : Str} {f : Addr} {cdv : Value} {A : Around} {outer : List Env} {s : Shared} {H : Hp} {E : XK} (hr : rm0 2 qual s_Net_purse f cdv A s) : PSs (cx0 G N_Net_purse qual s_Net_purse f cdv A outer s H E) (defBody s_Net_purse) (t_Net_purse G) :=
    (pss_cons (ps_expr (e_meth hr (pv 0) (pa_cons (pv 1) pa_nil)))
    (pss_one (ps_ret (pe_ix ix_list (e_fld (pv 0)) (pv 1) (fun _ _ => rfl)))))
theorem run_Net_purse {G : En} (W : Wd G) {sp : Sp} (len : ∀ vs H Q E, sp vs H Q E → vs.length = 2) (pure : ∀ vs H Q E, sp vs H Q E → t_Net_purse G { nx := fun _ H' => Q .non H', rt := Q } (start N_Net_purse vs) H) : MetG G 3 (cl_Net G.K) "purse" sp [] := by
  obtain ⟨fd, F⟩ := W.f_Net_purse
  exact ⟨⟨_, fd, ["self", "hand"], [], W.c_Net, W.m_Net_purse, fn_ok0 F sc_Net_purse len (fun _ _ _ _ _ _ hr => dv_Net_purse W hr) pure, (F.bindsN (ps := ["self", "hand"]) fun _ _ _ _ _ _ us hl => match us, hl with | [_, _], _ => rfl), .nil⟩⟩
theorem run_Ring_purse {G : En} (W : Wd G) {sp : Sp} (len : ∀ vs H Q E, sp vs H Q E → vs.length = 2) (pure : ∀ vs H Q E, sp vs H Q E → t_Net_purse G { nx := fun _ H' => Q .non H', rt := Q } (start N_Net_purse vs) H) : MetG G 3 (cl_Ring G.K) "purse" sp [] := by
  obtain ⟨fd, F⟩ := W.f_Ring_purse
  exact ⟨⟨_, fd, ["self", "hand"], [], W.c_Ring, W.m_Ring_purse, fn_ok0 F sc_Net_purse len (fun _ _ _ _ _ _ hr => dv_Net_purse W hr) pure, (F.bindsN (ps := ["self", "hand"]) fun _ _ _ _ _ _ us hl => match us, hl with | [_, _], _ => rfl), .nil⟩⟩
def N_Net_on_way : List Str := ["self", "hand", "other", "word", "what"]
theorem sc_Net_on_way : FnScope N_Net_on_way ["self", "hand", "other"] (defScope s_Net_on_way) := ⟨rfl, rfl, rfl, by decide +kernel, rfl, by decide +kernel, by decide +kernel⟩
def t_Net_on_way (G : En) : TS :=
    (tSeq (tDrop (tMethQ G 3 "look_way" (tVar 0) (tCons (tVar 1) (tCons (tVar 2) tNil))))
    (tRet (tLcQ (iListQ G.K (tDGetQ (tFldQ G.K (tVar 0) "rows") (tTupQ (tCons (tVar 1) (tCons (tVar 2) tNil))))) (gTup G.K 2 (gCons (gName 3) (gCons (gName 4) gNil))) tYes (tVar 3) [3, 4])))
theorem dv_Net_on_way {G : En} (W : Wd G) {qual : Str} {f : Addr} {cdv : Value} {A : Around} {outer : List Env} {s : Shared} {H : Hp} {E : XK} (hr : rm0 3 qual s_Net_on_way f cdv A s) : PSs (cx0 G N_Net_on_way qual s_Net_on_way f cdv A outer s H E) (defBody s_Net_on_way) (t_Net_on_way G) :=
    (pss_cons (ps_expr (e_meth hr (pv 0) (pa_cons (pv 1) (pa_cons (pv 2) pa_nil))))
    (pss_one (ps_ret (e_lc (own := [("word", 3), ("what", 4)]) (g := (gTup G.K 2 (gCons (gName 3) (gCons (gName 4) gNil)))) rfl sc_Net_on_way.nd (i_list (e_dget (hu_of hr) (e_fld (pv 0)) (e_tup (pa_cons (pv 1) (pa_cons (pv 2) pa_nil))))) (blkOk_by (own := [("word", 3), ("what", 4)]) (N := N_Net_on_way) (sc := defScope s_Net_on_way) (by decide +kernel)) (fun _ _ _ _ _ => (pg_tup rfl (pgs_cons (pg_name (i := 3) sc_Net_on_way.nd rfl (Or.inl rfl)) (pgs_cons (pg_name (i := 4) sc_Net_on_way.nd rfl (Or.inl rfl)) pgs_nil)))) (fun _ _ _ _ _ => pts_nil) (fun _ _ _ _ _ => (pv 3))))))
theorem run_Net_on_way {G : En} (W : Wd G) {sp : Sp} (len : ∀ vs H Q E, sp vs H Q E → vs.length = 3) (pure : ∀ vs H Q E, sp vs H Q E → t_Net_on_way G { nx := fun _ H' => Q .non H', rt := Q } (start N_Net_on_way vs) H) : MetG G 4 (cl_Net G.K) "on_way" sp [] := by
  obtain ⟨fd, F⟩ := W.f_Net_on_way
  exact ⟨⟨_, fd, ["self", "hand", "other"], [], W.c_Net, W.m_Net_on_way, fn_ok0 F sc_Net_on_way len (fun _ _ _ _ _ _ hr => dv_Net_on_way W hr) pure, (F.bindsN (ps := ["self", "hand", "other"]) fun _ _ _ _ _ _ us hl => match us, hl with | [_, _, _], _ => rfl), .nil⟩⟩
theorem run_Ring_on_way {G : En} (W : Wd G) {sp : Sp} (len : ∀ vs H Q E, sp vs H Q E → vs.length = 3) (pure : ∀ vs H Q E, sp vs H Q E → t_Net_on_way G { nx := fun _ H' => Q .non H', rt := Q } (start N_Net_on_way vs) H) : MetG G 4 (cl_Ring G.K) "on_way" sp [] := by
  obtain ⟨fd, F⟩ := W.f_Ring_on_way
  exact ⟨⟨_, fd, ["self", "hand", "other"], [], W.c_Ring, W.m_Ring_on_way, fn_ok0 F sc_Net_on_way len (fun _ _ _ _ _ _ hr => dv_Net_on_way W hr) pure, (F.bindsN (ps := ["self", "hand", "other"]) fun _ _ _ _ _ _ us hl => match us, hl with | [_, _, _], _ => rfl), .nil⟩⟩
def N_Net_ways : List Str := ["self", "way"]
theorem sc_Net_ways : FnScope N_Net_ways ["self"] (defScope s_Net_ways) := ⟨rfl, rfl, rfl, by decide +kernel, rfl, by decide +kernel, by decide +kernel⟩
def t_Net_ways (G : En) : TS :=
    (tRet (tCB (rSortedPO G.K) (tCons (tLockQ (tLcQ (iKeysQ (tFldQ G.K (tVar 0) "rows")) (gName 1) (tTestQ (tOp (rNeD G.K) (tDGetQ (tFldQ G.K (tVar 0) "rows") (tVar 1)) (tLstQ tNil))) (tVar 1) [1])) tNil)))
theorem dv_Net_ways {G : En} (W : Wd G) {qual : Str} {f : Addr} {cdv : Value} {A : Around} {outer : List Env} {s : Shared} {H : Hp} {E : XK} (hr : rm0 0 qual s_Net_ways f cdv A s) : PSs (cx0 G N_Net_ways qual s_Net_ways f cdv A outer s H E) (defBody s_Net_ways) (t_Net_ways G) :=
    (pss_one (ps_ret (pe_callB cr_sortedPO (by rfl) W.z_sorted (by decide +kernel) (pa_cons (e_lock (e_lc (own := [("way", 1)]) (g := (gName 1)) rfl sc_Net_ways.nd (i_keysQ (e_fld (pv 0))) (blkOk_by (own := [("way", 1)]) (N := N_Net_ways) (sc := defScope s_Net_ways) (by decide +kernel)) (fun _ _ _ _ _ => (pg_name (i := 1) sc_Net_ways.nd rfl (Or.inl rfl))) (fun _ _ _ _ _ => (pts_one (b_cmp (op_neD hr.units) (e_dget (hu_of hr) (e_fld (pv 0)) (pv 1)) (e_lst pa_nil) (nomark _)))) (fun _ _ _ _ _ => (pv 1)))) pa_nil))))
theorem run_Net_ways {G : En} (W : Wd G) {sp : Sp} (len : ∀ vs H Q E, sp vs H Q E → vs.length = 1) (pure : ∀ vs H Q E, sp vs H Q E → t_Net_ways G { nx := fun _ H' => Q .non H', rt := Q } (start N_Net_ways vs) H) : MetG G 1 (cl_Net G.K) "ways" sp [] := by
  obtain ⟨fd, F⟩ := W.f_Net_ways
  exact ⟨⟨_, fd, ["self"], [], W.c_Net, W.m_Net_ways, fn_ok0 F sc_Net_ways len (fun _ _ _ _ _ _ hr => dv_Net_ways W hr) pure, (F.bindsN (ps := ["self"]) fun _ _ _ _ _ _ us hl => match us, hl with | [_], _ => rfl), .nil⟩⟩
theorem run_Ring_ways {G : En} (W : Wd G) {sp : Sp} (len : ∀ vs H Q E, sp vs H Q E → vs.length = 1) (pure : ∀ vs H Q E, sp vs H Q E → t_Net_ways G { nx := fun _ H' => Q .non H', rt := Q } (start N_Net_ways vs) H) : MetG G 1 (cl_Ring G.K) "ways" sp [] := by
  obtain ⟨fd, F⟩ := W.f_Ring_ways
  exact ⟨⟨_, fd, ["self"], [], W.c_Ring, W.m_Ring_ways, fn_ok0 F sc_Net_ways len (fun _ _ _ _ _ _ hr => dv_Net_ways W hr) pure, (F.bindsN (ps := ["self"]) fun _ _ _ _ _ _ us hl => match us, hl with | [_], _ => rfl), .nil⟩⟩
def N_Net_letters : List Str := ["self", "word", "one", "what", "row"]
theorem sc_Net_letters : FnScope N_Net_letters ["self", "word"] (defScope s_Net_letters) := ⟨rfl, rfl, rfl, by decide +kernel, rfl, by decide +kernel, by decide +kernel⟩
def t_Net_letters (G : En) : TS :=
    (tRet (tCB (rSum G.K) (tCons (tLockQ (tLcQ (iValsTQ (tFldQ G.K (tVar 0) "rows")) (gName 4) tYes (tCB (rLen G.K) (tCons (tLcQ (iListQ G.K (tVar 4)) (gTup G.K 2 (gCons (gName 2) (gCons (gName 3) gNil))) (tTestQ (tOp rEq (tVar 2) (tVar 1))) (tVar 2) [2, 3]) tNil)) [4])) tNil)))
theorem dv_Net_letters {G : En} (W : Wd G) {qual : Str} {f : Addr} {cdv : Value} {A : Around} {outer : List Env} {s : Shared} {H : Hp} {E : XK} (hr : rm0 0 qual s_Net_letters f cdv A s) : PSs (cx0 G N_Net_letters qual s_Net_letters f cdv A outer s H E) (defBody s_Net_letters) (t_Net_letters G) :=
    (pss_one (ps_ret (pe_callB (cr_sum rfl) (by rfl) W.z_sum (by decide +kernel) (pa_cons (e_lock (e_lc (own := [("row", 4)]) (g := (gName 4)) rfl sc_Net_letters.nd (i_valsT (e_fld (pv 0))) (blkOk_by (own := [("row", 4)]) (N := N_Net_letters) (sc := defScope s_Net_letters) (by decide +kernel)) (fun _ _ _ _ _ => (pg_name (i := 4) sc_Net_letters.nd rfl (Or.inl rfl))) (fun _ _ _ _ _ => pts_nil) (fun _ _ _ _ _ => (pe_callB c_len (by rfl) W.z_len (by decide +kernel) (pa_cons (e_lc (own := [("one", 2), ("what", 3)]) (g := (gTup G.K 2 (gCons (gName 2) (gCons (gName 3) gNil)))) rfl sc_Net_letters.nd (i_list (pv 4)) (blkOk_by (own := [("one", 2), ("what", 3)]) (N := N_Net_letters) (by rfl)) (fun _ _ _ _ _ => (pg_tup rfl (pgs_cons (pg_name (i := 2) sc_Net_letters.nd rfl (Or.inl rfl)) (pgs_cons (pg_name (i := 3) sc_Net_letters.nd rfl (Or.inl rfl)) pgs_nil)))) (fun _ _ _ _ _ => (pts_one (b_cmp op_eq (pv 2) (pv 1) (nomark _)))) (fun _ _ _ _ _ => (pv 2))) pa_nil))))) pa_nil))))
theorem run_Net_letters {G : En} (W : Wd G) {sp : Sp} (len : ∀ vs H Q E, sp vs H Q E → vs.length = 2) (pure : ∀ vs H Q E, sp vs H Q E → t_Net_letters G { nx := fun _ H' => Q .non H', rt := Q } (start N_Net_letters vs) H) : MetG G 1 (cl_Net G.K) "letters" sp [] := by
  obtain ⟨fd, F⟩ := W.f_Net_letters
  exact ⟨⟨_, fd, ["self", "word"], [], W.c_Net, W.m_Net_letters, fn_ok0 F sc_Net_letters len (fun _ _ _ _ _ _ hr => dv_Net_letters W hr) pure, (F.bindsN (ps := ["self", "word"]) fun _ _ _ _ _ _ us hl => match us, hl with | [_, _], _ => rfl), .nil⟩⟩
theorem run_Ring_letters {G : En} (W : Wd G) {sp : Sp} (len : ∀ vs H Q E, sp vs H Q E → vs.length = 2) (pure : ∀ vs H Q E, sp vs H Q E → t_Net_letters G { nx := fun _ H' => Q .non H', rt := Q } (start N_Net_letters vs) H) : MetG G 1 (cl_Ring G.K) "letters" sp [] := by
  obtain ⟨fd, F⟩ := W.f_Ring_letters
  exact ⟨⟨_, fd, ["self", "word"], [], W.c_Ring, W.m_Ring_letters, fn_ok0 F sc_Net_letters len (fun _ _ _ _ _ _ hr => dv_Net_letters W hr) pure, (F.bindsN (ps := ["self", "word"]) fun _ _ _ _ _ _ us hl => match us, hl with | [_, _], _ => rfl), .nil⟩⟩
def N_Net_quiet : List Str := ["self"]
theorem sc_Net_quiet : FnScope N_Net_quiet ["self"] (defScope s_Net_quiet) := ⟨rfl, rfl, rfl, by decide +kernel, rfl, by decide +kernel, by decide +kernel⟩
def t_Net_quiet (G : En) : TS :=
    (tRet (tAndVQ (tOp (rEqD G.K) (tMethQ G 1 "awake" (tVar 0) tNil) (tLstQ tNil)) (tOp rEq (tMethQ G 1 "letters" (tVar 0) (tCons (tC (.str "work")) tNil)) (tC (.int 0)))))
theorem dv_Net_quiet {G : En} (W : Wd G) {qual : Str} {f : Addr} {cdv : Value} {A : Around} {outer : List Env} {s : Shared} {H : Hp} {E : XK} (hr : rm0 1 qual s_Net_quiet f cdv A s) : PSs (cx0 G N_Net_quiet qual s_Net_quiet f cdv A outer s H E) (defBody s_Net_quiet) (t_Net_quiet G) :=
    (pss_one (ps_ret (e_and (e_cmp (op_eqD hr.units) (e_meth0 hr (pv 0)) (e_lst pa_nil) (nomark _)) (pe_one (e_cmp op_eq (e_meth hr (pv 0) (pa_cons (e_gstr (by rfl) W.k_WORK) pa_nil)) pe_int (nomark _))))))
theorem run_Net_quiet {G : En} (W : Wd G) {sp : Sp} (len : ∀ vs H Q E, sp vs H Q E → vs.length = 1) (pure : ∀ vs H Q E, sp vs H Q E → t_Net_quiet G { nx := fun _ H' => Q .non H', rt := Q } (start N_Net_quiet vs) H) : MetG G 2 (cl_Net G.K) "quiet" sp [] := by
  obtain ⟨fd, F⟩ := W.f_Net_quiet
  exact ⟨⟨_, fd, ["self"], [], W.c_Net, W.m_Net_quiet, fn_ok0 F sc_Net_quiet len (fun _ _ _ _ _ _ hr => dv_Net_quiet W hr) pure, (F.bindsN (ps := ["self"]) fun _ _ _ _ _ _ us hl => match us, hl with | [_], _ => rfl), .nil⟩⟩
theorem run_Ring_quiet {G : En} (W : Wd G) {sp : Sp} (len : ∀ vs H Q E, sp vs H Q E → vs.length = 1) (pure : ∀ vs H Q E, sp vs H Q E → t_Net_quiet G { nx := fun _ H' => Q .non H', rt := Q } (start N_Net_quiet vs) H) : MetG G 2 (cl_Ring G.K) "quiet" sp [] := by
  obtain ⟨fd, F⟩ := W.f_Ring_quiet
  exact ⟨⟨_, fd, ["self"], [], W.c_Ring, W.m_Ring_quiet, fn_ok0 F sc_Net_quiet len (fun _ _ _ _ _ _ hr => dv_Net_quiet W hr) pure, (F.bindsN (ps := ["self"]) fun _ _ _ _ _ _ us hl => match us, hl with | [_], _ => rfl), .nil⟩⟩
def N_Ring_init : List Str := ["self", "many", "start"]
theorem sc_Ring_init : FnScope N_Ring_init ["self", "many", "start"] (defScope s_Ring_init) := ⟨rfl, rfl, rfl, by decide +kernel, rfl, by decide +kernel, by decide +kernel⟩
def t_Ring_init (G : En) : TS :=
    (tSeq (tDrop (tCmQ G 4 "Net" "__init__" (tCons (tVar 0) (tCons (tVar 1) (tCons (tVar 2) tNil)))))
    (tSeq (sFldQ G.K (tVar 0) (tOp rRep (tLstQ (tCons (tC (.int 0)) tNil)) (tVar 1)) "count")
    (tSeq (sFldQ G.K (tVar 0) (tOp rRep (tLstQ (tCons (tC (.bl false)) tNil)) (tVar 1)) "black")
    (tSeq (sFldQ G.K (tVar 0) (tC (.int 0)) "holder")
    (tSeq (sFldQ G.K (tVar 0) (tC (.int 0)) "bears")
    (tSeq (sFldQ G.K (tVar 0) (tC (.bl true)) "dark")
    (sFldQ G.K (tVar 0) (tC (.bl false)) "done")))))))
theorem dv_Ring_init {G : En} (W : Wd G) {qual : Str} {f : Addr} {cdv : Value} {A : Around} {outer : List Env} {s : Shared} {H : Hp} {E : XK} (hr : rm0 4 qual s_Ring_init f cdv A s) : PSs (cx0 G N_Ring_init qual s_Ring_init f cdv A outer s H E) (defBody s_Ring_init) (t_Ring_init G) :=
    (pss_cons (ps_expr (e_cm hr (by rfl) (pa_cons (pv 0) (pa_cons (pv 1) (pa_cons (pv 2) pa_nil)))))
    (pss_cons (s_fld (pv 0) (pe_op op_rep (e_lst (pa_cons pe_int pa_nil)) (pv 1)))
    (pss_cons (s_fld (pv 0) (pe_op op_rep (e_lst (pa_cons pe_bl pa_nil)) (pv 1)))
    (pss_cons (s_fld (pv 0) pe_int)
    (pss_cons (s_fld (pv 0) pe_int)
    (pss_cons (s_fld (pv 0) pe_bl)
    (pss_one (s_fld (pv 0) pe_bl))))))))
theorem run_Ring_init {G : En} (W : Wd G) {sp : Sp} (len : ∀ vs H Q E, sp vs H Q E → vs.length = 3) (pure : ∀ vs H Q E, sp vs H Q E → t_Ring_init G { nx := fun _ H' => Q .non H', rt := Q } (start N_Ring_init vs) H) : MakG G 5 "Ring" (cl_Ring G.K) sp [] := by
  obtain ⟨fd, F⟩ := W.f_Ring_init
  exact ⟨⟨_, fd, ["self", "many", "start"], [], W.mk_Ring, fn_ok0 F sc_Ring_init len (fun _ _ _ _ _ _ hr => dv_Ring_init W hr) pure, W.g_Ring, (F.bindsN (ps := ["self", "many", "start"]) fun _ _ _ _ _ _ us hl => match us, hl with | [_, _, _], _ => rfl), .nil⟩⟩
def N_Ring_mark : List Str := ["self", "hand", "other"]
theorem sc_Ring_mark : FnScope N_Ring_mark ["self", "hand", "other"] (defScope s_Ring_mark) := ⟨rfl, rfl, rfl, by decide +kernel, rfl, by decide +kernel, by decide +kernel⟩
def t_Ring_mark (G : En) : TS :=
    (tSeq (tAsg (tOp (rI0 fun i j => .int (i + j)) (tOp (rIxL G.K) (tFldQ G.K (tVar 0) "count") (tVar 1)) (tC (.int 1))) (gSub (tFldQ G.K (tVar 0) "count") (tVar 1) rSetL))
    (tRet (tC .non)))
theorem dv_Ring_mark {G : En} (W : Wd G) {qual : Str} {f : Addr} {cdv : Value} {A : Around} {outer : List Env} {s : Shared} {H : Hp} {E : XK} (hr : rm0 0 qual s_Ring_mark f cdv A s) : PSs (cx0 G N_Ring_mark qual s_Ring_mark f cdv A outer s H E) (defBody s_Ring_mark) (t_Ring_mark G) :=
    (pss_cons (ps_asg (pe_op op_add (pe_ix ix_list (e_fld (pv 0)) (pv 1) (fun _ _ => rfl)) pe_int) (pg_sub (e_fld (pv 0)) (pv 1) set_list))
    (pss_one (ps_ret pe_non)))
theorem run_Ring_mark {G : En} (W : Wd G) {sp : Sp} (len : ∀ vs H Q E, sp vs H Q E → vs.length = 3) (pure : ∀ vs H Q E, sp vs H Q E → t_Ring_mark G { nx := fun _ H' => Q .non H', rt := Q } (start N_Ring_mark vs) H) : MetG G 1 (cl_Ring G.K) "mark" sp [] := by
  obtain ⟨fd, F⟩ := W.f_Ring_mark
  exact ⟨⟨_, fd, ["self", "hand", "other"], [], W.c_Ring, W.m_Ring_mark, fn_ok0 F sc_Ring_mark len (fun _ _ _ _ _ _ hr => dv_Ring_mark W hr) pure, (F.bindsN (ps := ["self", "hand", "other"]) fun _ _ _ _ _ _ us hl => match us, hl with | [_, _, _], _ => rfl), .nil⟩⟩
def N_Ring_after_work : List Str := ["self", "hand", "other", "load", "extra"]
theorem sc_Ring_after_work : FnScope N_Ring_after_work ["self", "hand", "other", "load", "extra"] (defScope s_Ring_after_work) := ⟨rfl, rfl, rfl, by decide +kernel, rfl, by decide +kernel, by decide +kernel⟩
def t_Ring_after_work (G : En) : TS :=
    (tSeq (tAsg (tOp (rI0 fun i j => .int (i - j)) (tOp (rIxL G.K) (tFldQ G.K (tVar 0) "count") (tVar 2)) (tC (.int 1))) (gSub (tFldQ G.K (tVar 0) "count") (tVar 2) rSetL))
    (tAsg (tC (.bl true)) (gSub (tFldQ G.K (tVar 0) "black") (tVar 2) rSetL)))
theorem dv_Ring_after_work {G : En} (W : Wd G) {qual : Str} {f : Addr} {cdv : Value} {A : Around} {outer : List Env} {s : Shared} {H : Hp} {E : XK} (hr : rm0 0 qual s_Ring_after_work f cdv A s) : PSs (cx0 G N_Ring_after_work qual s_Ring_after_work f cdv A outer s H E) (defBody s_Ring_after_work) (t_Ring_after_work G) :=
    (pss_cons (ps_asg (pe_op op_sub (pe_ix ix_list (e_fld (pv 0)) (pv 2) (fun _ _ => rfl)) pe_int) (pg_sub (e_fld (pv 0)) (pv 2) set_list))
    (pss_one (ps_asg pe_bl (pg_sub (e_fld (pv 0)) (pv 2) set_list))))
theorem run_Ring_after_work {G : En} (W : Wd G) {sp : Sp} (len : ∀ vs H Q E, sp vs H Q E → vs.length = 5) (pure : ∀ vs H Q E, sp vs H Q E → t_Ring_after_work G { nx := fun _ H' => Q .non H', rt := Q } (start N_Ring_after_work vs) H) : MetG G 1 (cl_Ring G.K) "after_work" sp [] := by
  obtain ⟨fd, F⟩ := W.f_Ring_after_work
  exact ⟨⟨_, fd, ["self", "hand", "other", "load", "extra"], [], W.c_Ring, W.m_Ring_after_work, fn_ok0 F sc_Ring_after_work len (fun _ _ _ _ _ _ hr => dv_Ring_after_work W hr) pure, (F.bindsN (ps := ["self", "hand", "other", "load", "extra"]) fun _ _ _ _ _ _ us hl => match us, hl with | [_, _, _, _, _], _ => rfl), .nil⟩⟩
def N_Ring_after_control : List Str := ["self", "hand", "other", "word", "what"]
theorem sc_Ring_after_control : FnScope N_Ring_after_control ["self", "hand", "other", "word", "what"] (defScope s_Ring_after_control) := ⟨rfl, rfl, rfl, by decide +kernel, rfl, by decide +kernel, by decide +kernel⟩
def t_Ring_after_control (G : En) : TS :=
    (tSeq (sFldQ G.K (tVar 0) (tVar 2) "holder")
    (tAsg (tVar 4) (gTup G.K 2 (gCons (gFldQ G.K (tVar 0) "bears") (gCons (gFldQ G.K (tVar 0) "dark") gNil)))))
theorem dv_Ring_after_control {G : En} (W : Wd G) {qual : Str} {f : Addr} {cdv : Value} {A : Around} {outer : List Env} {s : Shared} {H : Hp} {E : XK} (hr : rm0 0 qual s_Ring_after_control f cdv A s) : PSs (cx0 G N_Ring_after_control qual s_Ring_after_control f cdv A outer s H E) (defBody s_Ring_after_control) (t_Ring_after_control G) :=
    (pss_cons (s_fld (pv 0) (pv 2))
    (pss_one (ps_asg (pv 4) (pg_tup rfl (pgs_cons (pg_fldQ (pv 0)) (pgs_cons (pg_fldQ (pv 0)) pgs_nil))))))
theorem run_Ring_after_control {G : En} (W : Wd G) {sp : Sp} (len : ∀ vs H Q E, sp vs H Q E → vs.length = 5) (pure : ∀ vs H Q E, sp vs H Q E → t_Ring_after_control G { nx := fun _ H' => Q .non H', rt := Q } (start N_Ring_after_control vs) H) : MetG G 1 (cl_Ring G.K) "after_control" sp [] := by
  obtain ⟨fd, F⟩ := W.f_Ring_after_control
  exact ⟨⟨_, fd, ["self", "hand", "other", "word", "what"], [], W.c_Ring, W.m_Ring_after_control, fn_ok0 F sc_Ring_after_control len (fun _ _ _ _ _ _ hr => dv_Ring_after_control W hr) pure, (F.bindsN (ps := ["self", "hand", "other", "word", "what"]) fun _ _ _ _ _ _ us hl => match us, hl with | [_, _, _, _, _], _ => rfl), .nil⟩⟩
def N_Ring_pass_on : List Str := ["self", "hand", "what"]
theorem sc_Ring_pass_on : FnScope N_Ring_pass_on ["self", "hand"] (defScope s_Ring_pass_on) := ⟨rfl, rfl, rfl, by decide +kernel, rfl, by decide +kernel, by decide +kernel⟩
def t_Ring_pass_on (G : En) : TS :=
    (tSeq (tDrop (tMethQ G 2 "look_hand" (tVar 0) (tCons (tVar 1) tNil)))
    (tSeq (tIfS (tOr (tTestQ (tOp rNe (tFldQ G.K (tVar 0) "holder") (tVar 1))) (tTestQ (tFldQ G.K (tVar 0) "done"))) tNever tNext)
    (tSeq (tIfS (tTestQ (tOp (rIxL G.K) (tFldQ G.K (tVar 0) "up") (tVar 1))) tNever tNext)
    (tSeq (tIfS (tTestQ (tOp rEq (tVar 1) (tC (.int 0)))) (tSeq (tIfS (tAnd (tNot (tTestQ (tFldQ G.K (tVar 0) "dark"))) (tAnd (tNot (tTestQ (tOp (rIxL G.K) (tFldQ G.K (tVar 0) "black") (tC (.int 0))))) (tTestQ (tOp rEq (tOp (rI0 fun i j => .int (i + j)) (tFldQ G.K (tVar 0) "bears") (tOp (rIxL G.K) (tFldQ G.K (tVar 0) "count") (tC (.int 0)))) (tC (.int 0)))))) (tSeq (sFldQ G.K (tVar 0) (tC (.bl true)) "done")
    tRetN) tNext)
    (tAsg (tTupQ (tCons (tC (.int 0)) (tCons (tC (.bl false)) tNil))) (gName 2))) (tAsg (tTupQ (tCons (tOp (rI0 fun i j => .int (i + j)) (tFldQ G.K (tVar 0) "bears") (tOp (rIxL G.K) (tFldQ G.K (tVar 0) "count") (tVar 1))) (tCons (tOrVQ (tFldQ G.K (tVar 0) "dark") (tOp (rIxL G.K) (tFldQ G.K (tVar 0) "black") (tVar 1))) tNil))) (gName 2)))
    (tSeq (tAsg (tC (.bl false)) (gSub (tFldQ G.K (tVar 0) "black") (tVar 1) rSetL))
    (tSeq (sFldQ G.K (tVar 0) (tC .non) "holder")
    (tDrop (tMethQ G 2 "put" (tVar 0) (tCons (tVar 1) (tCons (tOp (rI (fun _ j => 0 < j) fun i j => .int (i % j)) (tOp (rI0 fun i j => .int (i - j)) (tVar 1) (tC (.int 1))) (tFldQ G.K (tVar 0) "many")) (tCons (tC (.str "token")) (tCons (tVar 2) tNil))))))))))))
theorem dv_Ring_pass_on {G : En} (W : Wd G) {qual : Str} {f : Addr} {cdv : Value} {A : Around} {outer : List Env} {s : Shared} {H : Hp} {E : XK} (hr : rm0 2 qual s_Ring_pass_on f cdv A s) : PSs (cx0 G N_Ring_pass_on qual s_Ring_pass_on f cdv A outer s H E) (defBody s_Ring_pass_on) (t_Ring_pass_on G) :=
    (pss_cons (ps_expr (e_meth hr (pv 0) (pa_cons (pv 1) pa_nil)))
    (pss_cons (ps_if (PW.pt (pw_or (b_cmp op_ne (e_fld (pv 0)) (pv 1) (nomark _)) (pw_or1 (b_val (e_fld (pv 0)))))) (pss_one ps_never) pss_nil)
    (pss_cons (ps_if (b_val (pe_ix ix_list (e_fld (pv 0)) (pv 1) (fun _ _ => rfl))) (pss_one ps_never) pss_nil)
    (pss_cons (ps_if (b_cmp op_eq (pv 1) pe_int (nomark _)) (pss_cons (ps_if (PW.pt (pw_and (pt_not (b_val (e_fld (pv 0)))) (pw_and (pt_not (b_val (pe_ix ix_list (e_fld (pv 0)) pe_int (fun _ _ => rfl)))) (pw_and1 (b_cmp op_eq (pe_op op_add (e_fld (pv 0)) (pe_ix ix_list (e_fld (pv 0)) pe_int (fun _ _ => rfl))) pe_int (nomark _)))))) (pss_cons (s_fld (pv 0) pe_bl)
    (pss_one ps_retN)) pss_nil)
    (pss_one (ps_set (i := 2) sc_Ring_pass_on.nd rfl (Or.inl rfl) (e_tup (pa_cons pe_int (pa_cons pe_bl pa_nil)))))) (pss_one (ps_set (i := 2) sc_Ring_pass_on.nd rfl (Or.inl rfl) (e_tup (pa_cons (pe_op op_add (e_fld (pv 0)) (pe_ix ix_list (e_fld (pv 0)) (pv 1) (fun _ _ => rfl))) (pa_cons (e_or (e_fld (pv 0)) (pe_one (pe_ix ix_list (e_fld (pv 0)) (pv 1) (fun _ _ => rfl)))) pa_nil))))))
    (pss_cons (ps_asg pe_bl (pg_sub (e_fld (pv 0)) (pv 1) set_list))
    (pss_cons (s_fld (pv 0) pe_non)
    (pss_one (ps_expr (e_meth hr (pv 0) (pa_cons (pv 1) (pa_cons (pe_op op_mod (pe_op op_sub (pv 1) pe_int) (e_fld (pv 0))) (pa_cons (e_gstr (by rfl) W.k_TOKEN) (pa_cons (pv 2) pa_nil)))))))))))))
theorem run_Ring_pass_on {G : En} (W : Wd G) {sp : Sp} (len : ∀ vs H Q E, sp vs H Q E → vs.length = 2) (pure : ∀ vs H Q E, sp vs H Q E → t_Ring_pass_on G { nx := fun _ H' => Q .non H', rt := Q } (start N_Ring_pass_on vs) H) : MetG G 3 (cl_Ring G.K) "pass_on" sp [] := by
  obtain ⟨fd, F⟩ := W.f_Ring_pass_on
  exact ⟨⟨_, fd, ["self", "hand"], [], W.c_Ring, W.m_Ring_pass_on, fn_ok0 F sc_Ring_pass_on len (fun _ _ _ _ _ _ hr => dv_Ring_pass_on W hr) pure, (F.bindsN (ps := ["self", "hand"]) fun _ _ _ _ _ _ us hl => match us, hl with | [_, _], _ => rfl), .nil⟩⟩
def tE_Ring_pass_on (G : En) (Wx : WX) : TS :=
    (tSeq (tDrop (tMethW G 2 "look_hand" (tVar 0) (tCons (tVar 1) tNil) Wx))
    (tSeq (tIfS (tOr (tTestQ (tOp rNe (tFldQ G.K (tVar 0) "holder") (tVar 1))) (tTestQ (tFldQ G.K (tVar 0) "done"))) (tRaise (He.ga G.K "NotNow") Wx) tNext)
    (tSeq (tIfS (tTestQ (tOp (rIxL G.K) (tFldQ G.K (tVar 0) "up") (tVar 1))) (tRaiseH G.K (He.ga G.K "Awake") "hand" (tCons (tVar 1) tNil) Wx) tNext)
    (tSeq (tIfS (tTestQ (tOp rEq (tVar 1) (tC (.int 0)))) (tSeq (tIfS (tAnd (tNot (tTestQ (tFldQ G.K (tVar 0) "dark"))) (tAnd (tNot (tTestQ (tOp (rIxL G.K) (tFldQ G.K (tVar 0) "black") (tC (.int 0))))) (tTestQ (tOp rEq (tOp (rI0 fun i j => .int (i + j)) (tFldQ G.K (tVar 0) "bears") (tOp (rIxL G.K) (tFldQ G.K (tVar 0) "count") (tC (.int 0)))) (tC (.int 0)))))) (tSeq (sFldQ G.K (tVar 0) (tC (.bl true)) "done")
    tRetN) tNext)
    (tAsg (tTupQ (tCons (tC (.int 0)) (tCons (tC (.bl false)) tNil))) (gName 2))) (tAsg (tTupQ (tCons (tOp (rI0 fun i j => .int (i + j)) (tFldQ G.K (tVar 0) "bears") (tOp (rIxL G.K) (tFldQ G.K (tVar 0) "count") (tVar 1))) (tCons (tOrVQ (tFldQ G.K (tVar 0) "dark") (tOp (rIxL G.K) (tFldQ G.K (tVar 0) "black") (tVar 1))) tNil))) (gName 2)))
    (tSeq (tAsg (tC (.bl false)) (gSub (tFldQ G.K (tVar 0) "black") (tVar 1) rSetL))
    (tSeq (sFldQ G.K (tVar 0) (tC .non) "holder")
    (tDrop (tMethQ G 2 "put" (tVar 0) (tCons (tVar 1) (tCons (tOp (rI (fun _ j => 0 < j) fun i j => .int (i % j)) (tOp (rI0 fun i j => .int (i - j)) (tVar 1) (tC (.int 1))) (tFldQ G.K (tVar 0) "many")) (tCons (tC (.str "token")) (tCons (tVar 2) tNil))))))))))))
theorem dvE_Ring_pass_on {G : En} (W : Wd G) {qual : Str} {f : Addr} {cdv : Value} {A : Around} {outer : List Env} {s : Shared} {H : Hp} {E : XK} (hr : rm0 2 qual s_Ring_pass_on f cdv A s) : PSs (cxE G N_Ring_pass_on qual s_Ring_pass_on f cdv A outer s H E) (defBody s_Ring_pass_on) (tE_Ring_pass_on G (WD E)) :=
    have tk : Takes (cxE G N_Ring_pass_on qual s_Ring_pass_on f cdv A outer s H E) (WD E) := takesE
    (pss_cons (ps_expr (e_methW hr tk (pv 0) (pa_cons (pv 1) pa_nil)))
    (pss_cons (ps_if (PW.pt (pw_or (b_cmp op_ne (e_fld (pv 0)) (pv 1) (nomark _)) (pw_or1 (b_val (e_fld (pv 0)))))) (pss_one (s_raise rfl tk W.x_NotNow W.g_NotNow (by rfl))) pss_nil)
    (pss_cons (ps_if (b_val (pe_ix ix_list (e_fld (pv 0)) (pv 1) (fun _ _ => rfl))) (pss_one (s_raiseH rfl hr tk (oex_Awake W) (by decide) (by rfl) (pa_cons (pv 1) pa_nil))) pss_nil)
    (pss_cons (ps_if (b_cmp op_eq (pv 1) pe_int (nomark _)) (pss_cons (ps_if (PW.pt (pw_and (pt_not (b_val (e_fld (pv 0)))) (pw_and (pt_not (b_val (pe_ix ix_list (e_fld (pv 0)) pe_int (fun _ _ => rfl)))) (pw_and1 (b_cmp op_eq (pe_op op_add (e_fld (pv 0)) (pe_ix ix_list (e_fld (pv 0)) pe_int (fun _ _ => rfl))) pe_int (nomark _)))))) (pss_cons (s_fld (pv 0) pe_bl)
    (pss_one ps_retN)) pss_nil)
    (pss_one (ps_set (i := 2) sc_Ring_pass_on.nd rfl (Or.inl rfl) (e_tup (pa_cons pe_int (pa_cons pe_bl pa_nil)))))) (pss_one (ps_set (i := 2) sc_Ring_pass_on.nd rfl (Or.inl rfl) (e_tup (pa_cons (pe_op op_add (e_fld (pv 0)) (pe_ix ix_list (e_fld (pv 0)) (pv 1) (fun _ _ => rfl))) (pa_cons (e_or (e_fld (pv 0)) (pe_one (pe_ix ix_list (e_fld (pv 0)) (pv 1) (fun _ _ => rfl)))) pa_nil))))))
    (pss_cons (ps_asg pe_bl (pg_sub (e_fld (pv 0)) (pv 1) set_list))
    (pss_cons (s_fld (pv 0) pe_non)
    (pss_one (ps_expr (e_meth hr (pv 0) (pa_cons (pv 1) (pa_cons (pe_op op_mod (pe_op op_sub (pv 1) pe_int) (e_fld (pv 0))) (pa_cons (e_gstr (by rfl) W.k_TOKEN) (pa_cons (pv 2) pa_nil)))))))))))))
theorem runE_Ring_pass_on {G : En} (W : Wd G) {sp : Sp} (len : ∀ vs H Q E, sp vs H Q E → vs.length = 2) (pure : ∀ vs H Q E, sp vs H Q E → tE_Ring_pass_on G (WD E) { nx := fun _ H' => Q .non H', rt := Q } (start N_Ring_pass_on vs) H) : MetE G 3 (cl_Ring G.K) "pass_on" sp [] := by
  obtain ⟨fd, F⟩ := W.f_Ring_pass_on
  exact ⟨⟨_, fd, ["self", "hand"], [], W.c_Ring, W.m_Ring_pass_on, fn_okE (t := tE_Ring_pass_on G) F sc_Ring_pass_on len (fun _ _ _ _ _ _ hr => dvE_Ring_pass_on W hr) pure, (F.bindsN (ps := ["self", "hand"]) fun _ _ _ _ _ _ us hl => match us, hl with | [_, _], _ => rfl), .nil⟩⟩
def N_Ring_told : List Str := ["self"]
theorem sc_Ring_told : FnScope N_Ring_told ["self"] (defScope s_Ring_told) := ⟨rfl, rfl, rfl, by decide +kernel, rfl, by decide +kernel, by decide +kernel⟩
def t_Ring_told (G : En) : TS :=
    (tRet (tFldQ G.K (tVar 0) "done"))
theorem dv_Ring_told {G : En} (W : Wd G) {qual : Str} {f : Addr} {cdv : Value} {A : Around} {outer : List Env} {s : Shared} {H : Hp} {E : XK} (hr : rm0 0 qual s_Ring_told f cdv A s) : PSs (cx0 G N_Ring_told qual s_Ring_told f cdv A outer s H E) (defBody s_Ring_told) (t_Ring_told G) :=
    (pss_one (ps_ret (e_fld (pv 0))))
theorem run_Ring_told {G : En} (W : Wd G) {sp : Sp} (len : ∀ vs H Q E, sp vs H Q E → vs.length = 1) (pure : ∀ vs H Q E, sp vs H Q E → t_Ring_told G { nx := fun _ H' => Q .non H', rt := Q } (start N_Ring_told vs) H) : MetG G 1 (cl_Ring G.K) "told" sp [] := by
  obtain ⟨fd, F⟩ := W.f_Ring_told
  exact ⟨⟨_, fd, ["self"], [], W.c_Ring, W.m_Ring_told, fn_ok0 F sc_Ring_told len (fun _ _ _ _ _ _ hr => dv_Ring_told W hr) pure, (F.bindsN (ps := ["self"]) fun _ _ _ _ _ _ us hl => match us, hl with | [_], _ => rfl), .nil⟩⟩
def N_Ring_token : List Str := ["self"]
theorem sc_Ring_token : FnScope N_Ring_token ["self"] (defScope s_Ring_token) := ⟨rfl, rfl, rfl, by decide +kernel, rfl, by decide +kernel, by decide +kernel⟩
def t_Ring_token (G : En) : TS :=
    (tRet (tFldQ G.K (tVar 0) "holder"))
theorem dv_Ring_token {G : En} (W : Wd G) {qual : Str} {f : Addr} {cdv : Value} {A : Around} {outer : List Env} {s : Shared} {H : Hp} {E : XK} (hr : rm0 0 qual s_Ring_token f cdv A s) : PSs (cx0 G N_Ring_token qual s_Ring_token f cdv A outer s H E) (defBody s_Ring_token) (t_Ring_token G) :=
    (pss_one (ps_ret (e_fld (pv 0))))
theorem run_Ring_token {G : En} (W : Wd G) {sp : Sp} (len : ∀ vs H Q E, sp vs H Q E → vs.length = 1) (pure : ∀ vs H Q E, sp vs H Q E → t_Ring_token G { nx := fun _ H' => Q .non H', rt := Q } (start N_Ring_token vs) H) : MetG G 1 (cl_Ring G.K) "token" sp [] := by
  obtain ⟨fd, F⟩ := W.f_Ring_token
  exact ⟨⟨_, fd, ["self"], [], W.c_Ring, W.m_Ring_token, fn_ok0 F sc_Ring_token len (fun _ _ _ _ _ _ hr => dv_Ring_token W hr) pure, (F.bindsN (ps := ["self"]) fun _ _ _ _ _ _ us hl => match us, hl with | [_], _ => rfl), .nil⟩⟩
def N_Ring_colour : List Str := ["self", "hand"]
theorem sc_Ring_colour : FnScope N_Ring_colour ["self", "hand"] (defScope s_Ring_colour) := ⟨rfl, rfl, rfl, by decide +kernel, rfl, by decide +kernel, by decide +kernel⟩
def t_Ring_colour (G : En) : TS :=
    (tSeq (tDrop (tMethQ G 2 "look_hand" (tVar 0) (tCons (tVar 1) tNil)))
    (tRet (tIf (tTestQ (tOp (rIxL G.K) (tFldQ G.K (tVar 0) "black") (tVar 1))) (tC (.str "black")) (tC (.str "white")))))
theorem dv_Ring_colour {G : En} (W : Wd G) {qual : Str} {f : Addr} {cdv : Value} {A : Around} {outer : List Env} {s : Shared} {H : Hp} {E : XK} (hr : rm0 2 qual s_Ring_colour f cdv A s) : PSs (cx0 G N_Ring_colour qual s_Ring_colour f cdv A outer s H E) (defBody s_Ring_colour) (t_Ring_colour G) :=
    (pss_cons (ps_expr (e_meth hr (pv 0) (pa_cons (pv 1) pa_nil)))
    (pss_one (ps_ret (pe_ifExp (b_val (pe_ix ix_list (e_fld (pv 0)) (pv 1) (fun _ _ => rfl))) pe_str pe_str))))
theorem run_Ring_colour {G : En} (W : Wd G) {sp : Sp} (len : ∀ vs H Q E, sp vs H Q E → vs.length = 2) (pure : ∀ vs H Q E, sp vs H Q E → t_Ring_colour G { nx := fun _ H' => Q .non H', rt := Q } (start N_Ring_colour vs) H) : MetG G 3 (cl_Ring G.K) "colour" sp [] := by
  obtain ⟨fd, F⟩ := W.f_Ring_colour
  exact ⟨⟨_, fd, ["self", "hand"], [], W.c_Ring, W.m_Ring_colour, fn_ok0 F sc_Ring_colour len (fun _ _ _ _ _ _ hr => dv_Ring_colour W hr) pure, (F.bindsN (ps := ["self", "hand"]) fun _ _ _ _ _ _ us hl => match us, hl with | [_, _], _ => rfl), .nil⟩⟩
def N__law_town : List Str := ["_law_script"]
theorem sc__law_town : FnScope N__law_town ["_law_script"] (defScope s__law_town) := ⟨rfl, rfl, rfl, by decide +kernel, rfl, by decide +kernel, by decide +kernel⟩
def t__law_town (G : En) : TS :=
    (tRet (tLstQ (tCons (tIf (tTestQ (tOp (rNeD G.K) (tVar 0) (tLstQ tNil))) (tCB (rListOf G.K) (tCons (tVar 0) tNil)) (tLstQ (tCons (tC (.int 0)) tNil))) (tCons (tC (.int 0)) tNil))))
theorem dv__law_town {G : En} (W : Wd G) {qual : Str} {f : Addr} {cdv : Value} {A : Around} {outer : List Env} {s : Shared} {H : Hp} {E : XK} (hr : rm0 0 qual s__law_town f cdv A s) : PSs (cx0 G N__law_town qual s__law_town f cdv A outer s H E) (defBody s__law_town) (t__law_town G) :=
    (pss_one (ps_ret (e_lst (pa_cons (pe_ifExp (b_cmp (op_neD hr.units) (pv 0) (e_lst pa_nil) (nomark _)) (pe_callTy c_list (by rfl) W.z_list (by decide +kernel) (pa_cons (pv 0) pa_nil)) (e_lst (pa_cons pe_int pa_nil))) (pa_cons pe_int pa_nil)))))
theorem run__law_town {G : En} (W : Wd G) {sp : Sp} (len : ∀ vs H Q E, sp vs H Q E → vs.length = 1) (pure : ∀ vs H Q E, sp vs H Q E → t__law_town G { nx := fun _ H' => Q .non H', rt := Q } (start N__law_town vs) H) : CalG G 1 "_law_town" sp [] := by
  obtain ⟨fd, F⟩ := W.f__law_town
  exact ⟨⟨_, fd, ["_law_script"], [], fn_ok0 F sc__law_town len (fun _ _ _ _ _ _ hr => dv__law_town W hr) pure, W.g__law_town, F.kp, (F.bindsN (ps := ["_law_script"]) fun _ _ _ _ _ _ us hl => match us, hl with | [_], _ => rfl), .nil⟩⟩
def N__law_draw : List Str := ["_law_town_here", "_law_many", "_law_cells", "_law_at", "_law_cell", "_law_mixed"]
theorem sc__law_draw : FnScope N__law_draw ["_law_town_here", "_law_many"] (defScope s__law_draw) := ⟨rfl, rfl, rfl, by decide +kernel, rfl, by decide +kernel, by decide +kernel⟩
def t__law_draw (G : En) : TS :=
    (tSeq (tAsg (tOp (rIxL G.K) (tVar 0) (tC (.int 0))) (gName 2))
    (tSeq (tAsg (tOp (rI0 fun i j => .int (i + j)) (tOp (rIxL G.K) (tVar 0) (tC (.int 1))) (tC (.int 1))) (gSub (tVar 0) (tC (.int 1)) rSetL))
    (tSeq (tAsg (tOp (rI (fun _ j => 0 < j) fun i j => .int (i % j)) (tOp (rIxL G.K) (tVar 0) (tC (.int 1))) (tCB (rLen G.K) (tCons (tVar 2) tNil))) (gName 3))
    (tSeq (tAsg (tOp (rIxL G.K) (tVar 2) (tVar 3)) (gName 4))
    (tSeq (tIfS (tTestQ (tOp (rI0 fun i j => .bl (decide (j ≤ i))) (tVar 4) (tC (.int 1000000000000000000)))) (tSeq (tAsg (tOp (rI CDiv fun i j => .int (i / j)) (tVar 4) (tVar 1)) (gSub (tVar 2) (tVar 3) rSetL))
    (tRet (tOp (rI (fun _ j => 0 < j) fun i j => .int (i % j)) (tVar 4) (tVar 1)))) tNext)
    (tSeq (tAsg (tOp (rI (fun _ j => 0 < j) fun i j => .int (i % j)) (tOp (rI0 fun i j => .int (i + j)) (tVar 4) (tOp (rI CMul fun i j => .int (i * j)) (tC (.int 104729)) (tOp (rIxL G.K) (tVar 0) (tC (.int 1))))) (tC (.int 4294967291))) (gName 5))
    (tSeq (tAsg (tOp (rI (fun _ j => 0 < j) fun i j => .int (i % j)) (tOp (rI CPow fun i j => .int (i ^ j.toNat)) (tVar 5) (tC (.int 5))) (tC (.int 4294967279))) (gName 5))
    (tRet (tOp (rI (fun _ j => 0 < j) fun i j => .int (i % j)) (tOp (rI CDiv fun i j => .int (i / j)) (tOp (rI (fun _ j => 0 < j) fun i j => .int (i % j)) (tOp (rI0 fun i j => .int (i + j)) (tOp (rI CMul fun i j => .int (i * j)) (tOp (rI CDiv fun i j => .int (i / j)) (tVar 5) (tC (.int 64))) (tC (.int 69621))) (tVar 5)) (tC (.int 4294967231))) (tC (.int 8))) (tVar 1))))))))))
theorem dv__law_draw {G : En} (W : Wd G) {qual : Str} {f : Addr} {cdv : Value} {A : Around} {outer : List Env} {s : Shared} {H : Hp} {E : XK} (hr : rm0 0 qual s__law_draw f cdv A s) : PSs (cx0 G N__law_draw qual s__law_draw f cdv A outer s H E) (defBody s__law_draw) (t__law_draw G) :=
    (pss_cons (ps_set (i := 2) sc__law_draw.nd rfl (Or.inl rfl) (pe_ix ix_list (pv 0) pe_int (fun _ _ => rfl)))
    (pss_cons (ps_asg (pe_op op_add (pe_ix ix_list (pv 0) pe_int (fun _ _ => rfl)) pe_int) (pg_sub (pv 0) pe_int set_list))
    (pss_cons (ps_set (i := 3) sc__law_draw.nd rfl (Or.inl rfl) (pe_op op_mod (pe_ix ix_list (pv 0) pe_int (fun _ _ => rfl)) (pe_callB c_len (by rfl) W.z_len (by decide +kernel) (pa_cons (pv 2) pa_nil))))
    (pss_cons (ps_set (i := 4) sc__law_draw.nd rfl (Or.inl rfl) (pe_ix ix_list (pv 2) (pv 3) (fun _ _ => rfl)))
    (pss_cons (ps_if (b_cmp op_ge (pv 4) pe_int (nomark _)) (pss_cons (ps_asg (pe_op op_fdiv (pv 4) (pv 1)) (pg_sub (pv 2) (pv 3) set_list))
    (pss_one (ps_ret (pe_op op_mod (pv 4) (pv 1))))) pss_nil)
    (pss_cons (ps_set (i := 5) sc__law_draw.nd rfl (Or.inl rfl) (pe_op op_mod (pe_op op_add (pv 4) (pe_op op_mul pe_int (pe_ix ix_list (pv 0) pe_int (fun _ _ => rfl)))) pe_int))
    (pss_cons (ps_set (i := 5) sc__law_draw.nd rfl (Or.inl rfl) (pe_op op_mod (pe_op op_pow (pv 5) pe_int) pe_int))
    (pss_one (ps_ret (pe_op op_mod (pe_op op_fdiv (pe_op op_mod (pe_op op_add (pe_op op_mul (pe_op op_fdiv (pv 5) pe_int) pe_int) (pv 5)) pe_int) pe_int) (pv 1)))))))))))
theorem run__law_draw {G : En} (W : Wd G) {sp : Sp} (len : ∀ vs H Q E, sp vs H Q E → vs.length = 2) (pure : ∀ vs H Q E, sp vs H Q E → t__law_draw G { nx := fun _ H' => Q .non H', rt := Q } (start N__law_draw vs) H) : CalG G 1 "_law_draw" sp [] := by
  obtain ⟨fd, F⟩ := W.f__law_draw
  exact ⟨⟨_, fd, ["_law_town_here", "_law_many"], [], fn_ok0 F sc__law_draw len (fun _ _ _ _ _ _ hr => dv__law_draw W hr) pure, W.g__law_draw, F.kp, (F.bindsN (ps := ["_law_town_here", "_law_many"]) fun _ _ _ _ _ _ us hl => match us, hl with | [_, _], _ => rfl), .nil⟩⟩
def N__law_pick : List Str := ["_law_town_here", "_law_some"]
theorem sc__law_pick : FnScope N__law_pick ["_law_town_here", "_law_some"] (defScope s__law_pick) := ⟨rfl, rfl, rfl, by decide +kernel, rfl, by decide +kernel, by decide +kernel⟩
def t__law_pick (G : En) : TS :=
    (tRet (tOp (rIxL G.K) (tVar 1) (tCallQ G 1 "_law_draw" (tCons (tVar 0) (tCons (tCB (rLen G.K) (tCons (tVar 1) tNil)) tNil)))))
theorem dv__law_pick {G : En} (W : Wd G) {qual : Str} {f : Addr} {cdv : Value} {A : Around} {outer : List Env} {s : Shared} {H : Hp} {E : XK} (hr : rm0 1 qual s__law_pick f cdv A s) : PSs (cx0 G N__law_pick qual s__law_pick f cdv A outer s H E) (defBody s__law_pick) (t__law_pick G) :=
    (pss_one (ps_ret (pe_ix ix_list (pv 1) (e_call hr (by rfl) (pa_cons (pv 0) (pa_cons (pe_callB c_len (by rfl) W.z_len (by decide +kernel) (pa_cons (pv 1) pa_nil)) pa_nil))) (fun _ _ => rfl))))
theorem run__law_pick {G : En} (W : Wd G) {sp : Sp} (len : ∀ vs H Q E, sp vs H Q E → vs.length = 2) (pure : ∀ vs H Q E, sp vs H Q E → t__law_pick G { nx := fun _ H' => Q .non H', rt := Q } (start N__law_pick vs) H) : CalG G 2 "_law_pick" sp [] := by
  obtain ⟨fd, F⟩ := W.f__law_pick
  exact ⟨⟨_, fd, ["_law_town_here", "_law_some"], [], fn_ok0 F sc__law_pick len (fun _ _ _ _ _ _ hr => dv__law_pick W hr) pure, W.g__law_pick, F.kp, (F.bindsN (ps := ["_law_town_here", "_law_some"]) fun _ _ _ _ _ _ us hl => match us, hl with | [_, _], _ => rfl), .nil⟩⟩
def N__law_refusal : List Str := ["_law_caught", "_law_kinds", "_law_words"]
theorem sc__law_refusal : FnScope N__law_refusal ["_law_caught"] (defScope s__law_refusal) := ⟨rfl, rfl, rfl, by decide +kernel, rfl, by decide +kernel, by decide +kernel⟩
def t__law_refusal (G : En) : TS :=
    (tSeq (tAsg (tLstQ (tCons (tCB (rIsX G.K) (tCons (tVar 0) (tCons (tC (.ref (cl_BadNumber G.K))) tNil))) (tCons (tCB (rIsX G.K) (tCons (tVar 0) (tCons (tC (.ref (cl_BadStart G.K))) tNil))) (tCons (tCB (rIsX G.K) (tCons (tVar 0) (tCons (tC (.ref (cl_NoHand G.K))) tNil))) tNil)))) (gName 1))
    (tSeq (tAsg (tOp rCat (tVar 1) (tLstQ (tCons (tCB (rIsX G.K) (tCons (tVar 0) (tCons (tC (.ref (cl_Asleep G.K))) tNil))) (tCons (tCB (rIsX G.K) (tCons (tVar 0) (tCons (tC (.ref (cl_Awake G.K))) tNil))) (tCons (tCB (rIsX G.K) (tCons (tVar 0) (tCons (tC (.ref (cl_TooMuch G.K))) tNil))) tNil))))) (gName 1))
    (tSeq (tAsg (tOp rCat (tVar 1) (tLstQ (tCons (tCB (rIsX G.K) (tCons (tVar 0) (tCons (tC (.ref (cl_NoLetter G.K))) tNil))) (tCons (tCB (rIsX G.K) (tCons (tVar 0) (tCons (tC (.ref (cl_NotNow G.K))) tNil))) (tCons (tCB (rIsX G.K) (tCons (tVar 0) (tCons (tC (.ref (cl_BadStory G.K))) tNil))) tNil))))) (gName 1))
    (tSeq (tIfS (tOr (tTestQ (tOp rNe (tBMQ G.K "list" (rCnt G.K) (tVar 1) (tCons (tC (.bl true)) tNil)) (tC (.int 1)))) (tOr (tNot (tTestQ (tCB (rIsX G.K) (tCons (tVar 0) (tCons (tC (.ref (cl_NetError G.K))) tNil))))) (tNot (tTestQ (tCB (rIsX G.K) (tCons (tVar 0) (tCons (tC (.ty "ValueError")) tNil))))))) (tRet (tC (.str "odd"))) tNext)
    (tSeq (tAsg (tLstQ (tCons (tC (.str "number")) (tCons (tC (.str "start")) (tCons (tC (.str "hand")) (tCons (tC (.str "asleep")) (tCons (tC (.str "awake")) (tCons (tC (.str "much")) (tCons (tC (.str "letter")) (tCons (tC (.str "now")) (tCons (tC (.str "story")) tNil)))))))))) (gName 2))
    (tRet (tOp (rIxL G.K) (tVar 2) (tBMQ G.K "list" (rIndex G.K) (tVar 1) (tCons (tC (.bl true)) tNil)))))))))
theorem dv__law_refusal {G : En} (W : Wd G) {qual : Str} {f : Addr} {cdv : Value} {A : Around} {outer : List Env} {s : Shared} {H : Hp} {E : XK} (hr : rm0 0 qual s__law_refusal f cdv A s) : PSs (cx0 G N__law_refusal qual s__law_refusal f cdv A outer s H E) (defBody s__law_refusal) (t__law_refusal G) :=
    (pss_cons (ps_set (i := 1) sc__law_refusal.nd rfl (Or.inl rfl) (e_lst (pa_cons (pe_callB c_isX (by rfl) W.z_isinstance (by decide +kernel) (pa_cons (pv 0) (pa_cons (e_cls (by rfl) W.g_BadNumber) pa_nil))) (pa_cons (pe_callB c_isX (by rfl) W.z_isinstance (by decide +kernel) (pa_cons (pv 0) (pa_cons (e_cls (by rfl) W.g_BadStart) pa_nil))) (pa_cons (pe_callB c_isX (by rfl) W.z_isinstance (by decide +kernel) (pa_cons (pv 0) (pa_cons (e_cls (by rfl) W.g_NoHand) pa_nil))) pa_nil)))))
    (pss_cons (ps_set (i := 1) sc__law_refusal.nd rfl (Or.inl rfl) (pe_op op_cat (pv 1) (e_lst (pa_cons (pe_callB c_isX (by rfl) W.z_isinstance (by decide +kernel) (pa_cons (pv 0) (pa_cons (e_cls (by rfl) W.g_Asleep) pa_nil))) (pa_cons (pe_callB c_isX (by rfl) W.z_isinstance (by decide +kernel) (pa_cons (pv 0) (pa_cons (e_cls (by rfl) W.g_Awake) pa_nil))) (pa_cons (pe_callB c_isX (by rfl) W.z_isinstance (by decide +kernel) (pa_cons (pv 0) (pa_cons (e_cls (by rfl) W.g_TooMuch) pa_nil))) pa_nil))))))
    (pss_cons (ps_set (i := 1) sc__law_refusal.nd rfl (Or.inl rfl) (pe_op op_cat (pv 1) (e_lst (pa_cons (pe_callB c_isX (by rfl) W.z_isinstance (by decide +kernel) (pa_cons (pv 0) (pa_cons (e_cls (by rfl) W.g_NoLetter) pa_nil))) (pa_cons (pe_callB c_isX (by rfl) W.z_isinstance (by decide +kernel) (pa_cons (pv 0) (pa_cons (e_cls (by rfl) W.g_NotNow) pa_nil))) (pa_cons (pe_callB c_isX (by rfl) W.z_isinstance (by decide +kernel) (pa_cons (pv 0) (pa_cons (e_cls (by rfl) W.g_BadStory) pa_nil))) pa_nil))))))
    (pss_cons (ps_if (PW.pt (pw_or (b_cmp op_ne (e_bm PySem.F.plainAttrs_list PySem.F.slot_list_count PySem.F.type_list_count mt_cnt (pv 1) (pa_cons pe_bl pa_nil)) pe_int (nomark _)) (pw_or (pt_not (b_val (pe_callB c_isX (by rfl) W.z_isinstance (by decide +kernel) (pa_cons (pv 0) (pa_cons (e_cls (by rfl) W.g_NetError) pa_nil))))) (pw_or1 (pt_not (b_val (pe_callB c_isX (by rfl) W.z_isinstance (by decide +kernel) (pa_cons (pv 0) (pa_cons (e_ty (by rfl) W.z_ValueError (by decide +kernel)) pa_nil))))))))) (pss_one (ps_ret pe_str)) pss_nil)
    (pss_cons (ps_set (i := 2) sc__law_refusal.nd rfl (Or.inl rfl) (e_lst (pa_cons pe_str (pa_cons pe_str (pa_cons pe_str (pa_cons pe_str (pa_cons pe_str (pa_cons pe_str (pa_cons pe_str (pa_cons pe_str (pa_cons pe_str pa_nil)))))))))))
    (pss_one (ps_ret (pe_ix ix_list (pv 2) (e_bm PySem.F.plainAttrs_list PySem.F.slot_list_index PySem.F.type_list_index mt_index (pv 1) (pa_cons pe_bl pa_nil)) (fun _ _ => rfl)))))))))
theorem run__law_refusal {G : En} (W : Wd G) {sp : Sp} (len : ∀ vs H Q E, sp vs H Q E → vs.length = 1) (pure : ∀ vs H Q E, sp vs H Q E → t__law_refusal G { nx := fun _ H' => Q .non H', rt := Q } (start N__law_refusal vs) H) : CalG G 1 "_law_refusal" sp [] := by
  obtain ⟨fd, F⟩ := W.f__law_refusal
  exact ⟨⟨_, fd, ["_law_caught"], [], fn_ok0 F sc__law_refusal len (fun _ _ _ _ _ _ hr => dv__law_refusal W hr) pure, W.g__law_refusal, F.kp, (F.bindsN (ps := ["_law_caught"]) fun _ _ _ _ _ _ us hl => match us, hl with | [_], _ => rfl), .nil⟩⟩
def N__law_start : List Str := ["_law_town_here", "_law_many", "_law_found", "_law_hand"]
theorem sc__law_start : FnScope N__law_start ["_law_town_here", "_law_many"] (defScope s__law_start) := ⟨rfl, rfl, rfl, by decide +kernel, rfl, by decide +kernel, by decide +kernel⟩
def t__law_start (G : En) : TS :=
    (tSeq (tAsg (tLcQ (iRng1Q (tCons (tVar 1) tNil)) (gName 3) (tTestQ (tOp rEq (tCallQ G 1 "_law_draw" (tCons (tVar 0) (tCons (tC (.int 2)) tNil))) (tC (.int 0)))) (tVar 3) [3]) (gName 2))
    (tRet (tIf (tTestQ (tOp (rNeD G.K) (tVar 2) (tLstQ tNil))) (tVar 2) (tLstQ (tCons (tCallQ G 1 "_law_draw" (tCons (tVar 0) (tCons (tVar 1) tNil))) tNil)))))
theorem dv__law_start {G : En} (W : Wd G) {qual : Str} {f : Addr} {cdv : Value} {A : Around} {outer : List Env} {s : Shared} {H : Hp} {E : XK} (hr : rm0 1 qual s__law_start f cdv A s) : PSs (cx0 G N__law_start qual s__law_start f cdv A outer s H E) (defBody s__law_start) (t__law_start G) :=
    (pss_cons (s_setLc (i := 2) (own := [("_law_hand", 3)]) (g := (gName 3)) rfl sc__law_start.nd rfl rfl (sw_true rfl rfl rfl (by decide +kernel)) (i_rng1 (by rfl) W.z_range (pa_cons (pv 1) pa_nil)) (blkOk_by (own := [("_law_hand", 3)]) (N := N__law_start) (sc := defScope s__law_start) (by decide +kernel)) (fun _ _ _ _ _ => (pg_name (i := 3) sc__law_start.nd rfl (Or.inl rfl))) (fun _ _ _ _ _ => (pts_one (b_cmp op_eq (e_call hr (by rfl) (pa_cons (pv 0) (pa_cons pe_int pa_nil))) pe_int (nomark _)))) (fun _ _ _ _ _ => (pv 3)))
    (pss_one (ps_ret (pe_ifExp (b_cmp (op_neD hr.units) (pv 2) (e_lst pa_nil) (nomark _)) (pv 2) (e_lst (pa_cons (e_call hr (by rfl) (pa_cons (pv 0) (pa_cons (pv 1) pa_nil))) pa_nil))))))
theorem run__law_start {G : En} (W : Wd G) {sp : Sp} (len : ∀ vs H Q E, sp vs H Q E → vs.length = 2) (pure : ∀ vs H Q E, sp vs H Q E → t__law_start G { nx := fun _ H' => Q .non H', rt := Q } (start N__law_start vs) H) : CalG G 2 "_law_start" sp [] := by
  obtain ⟨fd, F⟩ := W.f__law_start
  exact ⟨⟨_, fd, ["_law_town_here", "_law_many"], [], fn_ok0 F sc__law_start len (fun _ _ _ _ _ _ hr => dv__law_start W hr) pure, W.g__law_start, F.kp, (F.bindsN (ps := ["_law_town_here", "_law_many"]) fun _ _ _ _ _ _ us hl => match us, hl with | [_, _], _ => rfl), .nil⟩⟩
def N__law_other : List Str := ["_law_town_here", "_law_many", "_law_hand"]
theorem sc__law_other : FnScope N__law_other ["_law_town_here", "_law_many", "_law_hand"] (defScope s__law_other) := ⟨rfl, rfl, rfl, by decide +kernel, rfl, by decide +kernel, by decide +kernel⟩
def t__law_other (G : En) : TS :=
    (tRet (tOp (rI (fun _ j => 0 < j) fun i j => .int (i % j)) (tOp (rI0 fun i j => .int (i + j)) (tOp (rI0 fun i j => .int (i + j)) (tVar 2) (tC (.int 1))) (tCallQ G 1 "_law_draw" (tCons (tVar 0) (tCons (tOp (rI0 fun i j => .int (i - j)) (tVar 1) (tC (.int 1))) tNil)))) (tVar 1)))
theorem dv__law_other {G : En} (W : Wd G) {qual : Str} {f : Addr} {cdv : Value} {A : Around} {outer : List Env} {s : Shared} {H : Hp} {E : XK} (hr : rm0 1 qual s__law_other f cdv A s) : PSs (cx0 G N__law_other qual s__law_other f cdv A outer s H E) (defBody s__law_other) (t__law_other G) :=
    (pss_one (ps_ret (pe_op op_mod (pe_op op_add (pe_op op_add (pv 2) pe_int) (e_call hr (by rfl) (pa_cons (pv 0) (pa_cons (pe_op op_sub (pv 1) pe_int) pa_nil)))) (pv 1))))
theorem run__law_other {G : En} (W : Wd G) {sp : Sp} (len : ∀ vs H Q E, sp vs H Q E → vs.length = 3) (pure : ∀ vs H Q E, sp vs H Q E → t__law_other G { nx := fun _ H' => Q .non H', rt := Q } (start N__law_other vs) H) : CalG G 2 "_law_other" sp [] := by
  obtain ⟨fd, F⟩ := W.f__law_other
  exact ⟨⟨_, fd, ["_law_town_here", "_law_many", "_law_hand"], [], fn_ok0 F sc__law_other len (fun _ _ _ _ _ _ hr => dv__law_other W hr) pure, W.g__law_other, F.kp, (F.bindsN (ps := ["_law_town_here", "_law_many", "_law_hand"]) fun _ _ _ _ _ _ us hl => match us, hl with | [_, _, _], _ => rfl), .nil⟩⟩
def N__law_act : List Str := ["_law_town_here", "_law_net", "_law_many", "_law_up", "_law_hand", "_law_other_here", "_law_load"]
theorem sc__law_act : FnScope N__law_act ["_law_town_here", "_law_net", "_law_many"] (defScope s__law_act) := ⟨rfl, rfl, rfl, by decide +kernel, rfl, by decide +kernel, by decide +kernel⟩
def t__law_act (G : En) : TS :=
    (tSeq (tAsg (tMethQ G 4 "awake" (tVar 1) tNil) (gName 3))
    (tSeq (tIfS (tTestQ (tOp (rEqD G.K) (tVar 3) (tLstQ tNil))) (tRet (tC .non)) tNext)
    (tSeq (tAsg (tCallQ G 4 "_law_pick" (tCons (tVar 0) (tCons (tVar 3) tNil))) (gName 4))
    (tSeq (tIfS (tTestQ (tOp rEq (tCallQ G 4 "_law_draw" (tCons (tVar 0) (tCons (tC (.int 3)) tNil))) (tC (.int 0)))) (tSeq (tDrop (tMethQ G 4 "rest" (tVar 1) (tCons (tVar 4) tNil)))
    (tRet (tTupQ (tCons (tC (.str "rest")) (tCons (tVar 4) tNil))))) tNext)
    (tSeq (tAsg (tCallQ G 4 "_law_other" (tCons (tVar 0) (tCons (tVar 2) (tCons (tVar 4) tNil)))) (gName 5))
    (tSeq (tAsg (tCB rMin2 (tCons (tMethQ G 4 "purse" (tVar 1) (tCons (tVar 4) tNil)) (tCons (tCallQ G 4 "_law_pick" (tCons (tVar 0) (tCons (tLstQ (tCons (tC (.int 0)) (tCons (tC (.int 1)) (tCons (tC (.int 7)) (tCons (tC (.int 60)) tNil))))) tNil))) tNil))) (gName 6))
    (tSeq (tDrop (tMethQ G 4 "send" (tVar 1) (tCons (tVar 4) (tCons (tVar 5) (tCons (tVar 6) tNil)))))
    (tRet (tTupQ (tCons (tC (.str "send")) (tCons (tVar 4) (tCons (tVar 5) (tCons (tVar 6) tNil)))))))))))))
theorem dv__law_act {G : En} (W : Wd G) {qual : Str} {f : Addr} {cdv : Value} {A : Around} {outer : List Env} {s : Shared} {H : Hp} {E : XK} (hr : rm0 4 qual s__law_act f cdv A s) : PSs (cx0 G N__law_act qual s__law_act f cdv A outer s H E) (defBody s__law_act) (t__law_act G) :=
    (pss_cons (ps_set (i := 3) sc__law_act.nd rfl (Or.inl rfl) (e_meth0 hr (pv 1)))
    (pss_cons (ps_if (b_cmp (op_eqD hr.units) (pv 3) (e_lst pa_nil) (nomark _)) (pss_one (ps_ret pe_non)) pss_nil)
    (pss_cons (ps_set (i := 4) sc__law_act.nd rfl (Or.inl rfl) (e_call hr (by rfl) (pa_cons (pv 0) (pa_cons (pv 3) pa_nil))))
    (pss_cons (ps_if (b_cmp op_eq (e_call hr (by rfl) (pa_cons (pv 0) (pa_cons pe_int pa_nil))) pe_int (nomark _)) (pss_cons (ps_expr (e_meth hr (pv 1) (pa_cons (pv 4) pa_nil)))
    (pss_one (ps_ret (e_tup (pa_cons pe_str (pa_cons (pv 4) pa_nil)))))) pss_nil)
    (pss_cons (ps_set (i := 5) sc__law_act.nd rfl (Or.inl rfl) (e_call hr (by rfl) (pa_cons (pv 0) (pa_cons (pv 2) (pa_cons (pv 4) pa_nil)))))
    (pss_cons (ps_set (i := 6) sc__law_act.nd rfl (Or.inl rfl) (pe_callB (c_min2 rfl) (by rfl) W.z_min (by decide +kernel) (pa_cons (e_meth hr (pv 1) (pa_cons (pv 4) pa_nil)) (pa_cons (e_call hr (by rfl) (pa_cons (pv 0) (pa_cons (e_lst (pa_cons pe_int (pa_cons pe_int (pa_cons pe_int (pa_cons pe_int pa_nil))))) pa_nil))) pa_nil))))
    (pss_cons (ps_expr (e_meth hr (pv 1) (pa_cons (pv 4) (pa_cons (pv 5) (pa_cons (pv 6) pa_nil)))))
    (pss_one (ps_ret (e_tup (pa_cons pe_str (pa_cons (pv 4) (pa_cons (pv 5) (pa_cons (pv 6) pa_nil))))))))))))))
theorem run__law_act {G : En} (W : Wd G) {sp : Sp} (len : ∀ vs H Q E, sp vs H Q E → vs.length = 3) (pure : ∀ vs H Q E, sp vs H Q E → t__law_act G { nx := fun _ H' => Q .non H', rt := Q } (start N__law_act vs) H) : CalG G 5 "_law_act" sp [] := by
  obtain ⟨fd, F⟩ := W.f__law_act
  exact ⟨⟨_, fd, ["_law_town_here", "_law_net", "_law_many"], [], fn_ok0 F sc__law_act len (fun _ _ _ _ _ _ hr => dv__law_act W hr) pure, W.g__law_act, F.kp, (F.bindsN (ps := ["_law_town_here", "_law_net", "_law_many"]) fun _ _ _ _ _ _ us hl => match us, hl with | [_, _, _], _ => rfl), .nil⟩⟩
def N__law_let : List Str := ["_law_town_here", "_law_net", "_law_ways", "_law_hand", "_law_other_here"]
theorem sc__law_let : FnScope N__law_let ["_law_town_here", "_law_net"] (defScope s__law_let) := ⟨rfl, rfl, rfl, by decide +kernel, rfl, by decide +kernel, by decide +kernel⟩
def t__law_let (G : En) : TS :=
    (tSeq (tAsg (tMethQ G 4 "ways" (tVar 1) tNil) (gName 2))
    (tSeq (tIfS (tTestQ (tOp (rEqD G.K) (tVar 2) (tLstQ tNil))) (tRet (tC .non)) tNext)
    (tSeq (tAsg (tCallQ G 4 "_law_pick" (tCons (tVar 0) (tCons (tVar 2) tNil))) (gTup G.K 2 (gCons (gName 3) (gCons (gName 4) gNil))))
    (tRet (tTupQ (tCons (tC (.str "come")) (tCons (tVar 3) (tCons (tVar 4) (tCons (tMethQ G 4 "come" (tVar 1) (tCons (tVar 3) (tCons (tVar 4) tNil))) tNil)))))))))
theorem dv__law_let {G : En} (W : Wd G) {qual : Str} {f : Addr} {cdv : Value} {A : Around} {outer : List Env} {s : Shared} {H : Hp} {E : XK} (hr : rm0 4 qual s__law_let f cdv A s) : PSs (cx0 G N__law_let qual s__law_let f cdv A outer s H E) (defBody s__law_let) (t__law_let G) :=
    (pss_cons (ps_set (i := 2) sc__law_let.nd rfl (Or.inl rfl) (e_meth0 hr (pv 1)))
    (pss_cons (ps_if (b_cmp (op_eqD hr.units) (pv 2) (e_lst pa_nil) (nomark _)) (pss_one (ps_ret pe_non)) pss_nil)
    (pss_cons (ps_asg (e_call hr (by rfl) (pa_cons (pv 0) (pa_cons (pv 2) pa_nil))) (pg_tup rfl (pgs_cons (pg_name (i := 3) sc__law_let.nd rfl (Or.inl rfl)) (pgs_cons (pg_name (i := 4) sc__law_let.nd rfl (Or.inl rfl)) pgs_nil))))
    (pss_one (ps_ret (e_tup (pa_cons pe_str (pa_cons (pv 3) (pa_cons (pv 4) (pa_cons (e_meth hr (pv 1) (pa_cons (pv 3) (pa_cons (pv 4) pa_nil))) pa_nil))))))))))
theorem run__law_let {G : En} (W : Wd G) {sp : Sp} (len : ∀ vs H Q E, sp vs H Q E → vs.length = 2) (pure : ∀ vs H Q E, sp vs H Q E → t__law_let G { nx := fun _ H' => Q .non H', rt := Q } (start N__law_let vs) H) : CalG G 5 "_law_let" sp [] := by
  obtain ⟨fd, F⟩ := W.f__law_let
  exact ⟨⟨_, fd, ["_law_town_here", "_law_net"], [], fn_ok0 F sc__law_let len (fun _ _ _ _ _ _ hr => dv__law_let W hr) pure, W.g__law_let, F.kp, (F.bindsN (ps := ["_law_town_here", "_law_net"]) fun _ _ _ _ _ _ us hl => match us, hl with | [_, _], _ => rfl), .nil⟩⟩
def N__law_go : List Str := ["_law_town_here", "_law_net", "_law_many", "_law_share", "_law_first", "_law_found"]
theorem sc__law_go : FnScope N__law_go ["_law_town_here", "_law_net", "_law_many", "_law_share"] (defScope s__law_go) := ⟨rfl, rfl, rfl, by decide +kernel, rfl, by decide +kernel, by decide +kernel⟩
def t__law_go (G : En) : TS :=
    (tSeq (tAsg (tOp (rI0 fun i j => .bl (decide (i < j))) (tCallQ G 5 "_law_draw" (tCons (tVar 0) (tCons (tC (.int 10)) tNil))) (tVar 3)) (gName 4))
    (tSeq (tAsg (tIf (tTestQ (tVar 4)) (tCallQ G 5 "_law_act" (tCons (tVar 0) (tCons (tVar 1) (tCons (tVar 2) tNil)))) (tCallQ G 5 "_law_let" (tCons (tVar 0) (tCons (tVar 1) tNil)))) (gName 5))
    (tSeq (tIfS (tTestQ (tOp rNotNq (tVar 5) (tC .non))) (tRet (tVar 5)) tNext)
    (tRet (tIf (tTestQ (tVar 4)) (tCallQ G 5 "_law_let" (tCons (tVar 0) (tCons (tVar 1) tNil))) (tCallQ G 5 "_law_act" (tCons (tVar 0) (tCons (tVar 1) (tCons (tVar 2) tNil)))))))))
theorem dv__law_go {G : En} (W : Wd G) {qual : Str} {f : Addr} {cdv : Value} {A : Around} {outer : List Env} {s : Shared} {H : Hp} {E : XK} (hr : rm0 5 qual s__law_go f cdv A s) : PSs (cx0 G N__law_go qual s__law_go f cdv A outer s H E) (defBody s__law_go) (t__law_go G) :=
    (pss_cons (ps_set (i := 4) sc__law_go.nd rfl (Or.inl rfl) (e_cmp op_lt (e_call hr (by rfl) (pa_cons (pv 0) (pa_cons pe_int pa_nil))) (pv 3) (nomark _)))
    (pss_cons (ps_set (i := 5) sc__law_go.nd rfl (Or.inl rfl) (pe_ifExp (b_val (pv 4)) (e_call hr (by rfl) (pa_cons (pv 0) (pa_cons (pv 1) (pa_cons (pv 2) pa_nil)))) (e_call hr (by rfl) (pa_cons (pv 0) (pa_cons (pv 1) pa_nil)))))
    (pss_cons (ps_if (b_cmp c_notN (pv 5) pe_non (nomark _)) (pss_one (ps_ret (pv 5))) pss_nil)
    (pss_one (ps_ret (pe_ifExp (b_val (pv 4)) (e_call hr (by rfl) (pa_cons (pv 0) (pa_cons (pv 1) pa_nil))) (e_call hr (by rfl) (pa_cons (pv 0) (pa_cons (pv 1) (pa_cons (pv 2) pa_nil))))))))))
theorem run__law_go {G : En} (W : Wd G) {sp : Sp} (len : ∀ vs H Q E, sp vs H Q E → vs.length = 4) (pure : ∀ vs H Q E, sp vs H Q E → t__law_go G { nx := fun _ H' => Q .non H', rt := Q } (start N__law_go vs) H) : CalG G 6 "_law_go" sp [] := by
  obtain ⟨fd, F⟩ := W.f__law_go
  exact ⟨⟨_, fd, ["_law_town_here", "_law_net", "_law_many", "_law_share"], [], fn_ok0 F sc__law_go len (fun _ _ _ _ _ _ hr => dv__law_go W hr) pure, W.g__law_go, F.kp, (F.bindsN (ps := ["_law_town_here", "_law_net", "_law_many", "_law_share"]) fun _ _ _ _ _ _ us hl => match us, hl with | [_, _, _, _], _ => rfl), .nil⟩⟩
def N__law_pass : List Str := ["_law_net", "_law_hand", "_law_caught", "_law_who", "e"]
theorem sc__law_pass : FnScope N__law_pass ["_law_net", "_law_hand"] (defScope s__law_pass) := ⟨rfl, rfl, rfl, by decide +kernel, rfl, by decide +kernel, by decide +kernel⟩
def t__law_pass (G : En) : TS :=
    (tSeq (tAsg (tC .non) (gName 2))
    (tSeq (tAsg (tC .non) (gName 3))
    (tSeq (tTry G.K W0 [(.ref (He.ga G.K "Awake"), 4, fun a cls d => (tSeq (tAsg (tXf a cls d (He.ga G.K "Awake") "hand" (tVar 4)) (gName 3))
    (tAsg (tVar 4) (gName 2)))), (.ref (He.ga G.K "NetError"), 4, fun a cls d => (tSeq (tAsg (tC .non) (gName 3))
    (tAsg (tVar 4) (gName 2))))] (fun Wx => (tDrop (tMethW G 3 "pass_on" (tVar 0) (tCons (tVar 1) tNil) Wx))))
    (tRet (tIf (tTestQ (tOp rIsNq (tVar 2) (tC .non))) (tC (.str "told")) (tIf (tTestQ (tOp rIsNq (tVar 3) (tC .non))) (tCallQ G 3 "_law_refusal" (tCons (tVar 2) tNil)) (tTupQ (tCons (tC (.str "awake")) (tCons (tVar 3) tNil)))))))))
theorem dv__law_pass {G : En} (W : Wd G) {qual : Str} {f : Addr} {cdv : Value} {A : Around} {outer : List Env} {s : Shared} {H : Hp} {E : XK} (hr : rm0 3 qual s__law_pass f cdv A s) : PSs (cx0 G N__law_pass qual s__law_pass f cdv A outer s H E) (defBody s__law_pass) (t__law_pass G) :=
    (pss_cons (ps_set (i := 2) sc__law_pass.nd rfl (Or.inl rfl) pe_non)
    (pss_cons (ps_set (i := 3) sc__law_pass.nd rfl (Or.inl rfl) pe_non)
    (pss_cons (ps_tryN (Wout := W0) (tb := fun Wx => (tDrop (tMethW G 3 "pass_on" (tVar 0) (tCons (tVar 1) tNil) Wx))) (l := [(.ref (He.ga G.K "Awake"), 4, fun a cls d => (tSeq (tAsg (tXf a cls d (He.ga G.K "Awake") "hand" (tVar 4)) (gName 3))
    (tAsg (tVar 4) (gName 2)))), (.ref (He.ga G.K "NetError"), 4, fun a cls d => (tSeq (tAsg (tC .non) (gName 3))
    (tAsg (tVar 4) (gName 2))))]) rfl rfl sc__law_pass.nd rfl takesW0 (fun Wx pn xe tk po => (pss_one (ps_expr (e_methW hr tk (pv 0) (pa_cons (pv 1) pa_nil))))) (.cons ⟨⟨_, _, _, _, _, _, rfl, ⟨by rfl, by decide, .inl W.g_Awake⟩, rfl, rfl, fun a oe cls d pn hz hf => (by show PSs _ _ ((tSeq (tAsg (tXf a cls d (He.ga G.K "Awake") "hand" (tVar 4)) (gName 3))     (tAsg (tVar 4) (gName 2)))); exact (pss_cons (ps_set (i := 3) sc__law_pass.nd rfl (Or.inl rfl) (pe_xf W.o_Awake.xf W.o_Awake.nh hz hf (pv 4)))     (pss_one (ps_set (i := 2) sc__law_pass.nd rfl (Or.inl rfl) (pv 4)))))⟩⟩ (.cons ⟨⟨_, _, _, _, _, _, rfl, ⟨by rfl, by decide, .inl W.g_NetError⟩, rfl, rfl, fun a oe cls d pn hz hf => (by show PSs _ _ ((tSeq (tAsg (tC .non) (gName 3))     (tAsg (tVar 4) (gName 2)))); exact (pss_cons (ps_set (i := 3) sc__law_pass.nd rfl (Or.inl rfl) pe_non)     (pss_one (ps_set (i := 2) sc__law_pass.nd rfl (Or.inl rfl) (pv 4)))))⟩⟩ .nil)))
    (pss_one (ps_ret (pe_ifExp (b_cmp c_isN (pv 2) pe_non (nomark _)) pe_str (pe_ifExp (b_cmp c_isN (pv 3) pe_non (nomark _)) (e_call hr (by rfl) (pa_cons (pv 2) pa_nil)) (e_tup (pa_cons pe_str (pa_cons (pv 3) pa_nil))))))))))
theorem run__law_pass {G : En} (W : Wd G) {sp : Sp} (len : ∀ vs H Q E, sp vs H Q E → vs.length = 2) (pure : ∀ vs H Q E, sp vs H Q E → t__law_pass G { nx := fun _ H' => Q .non H', rt := Q } (start N__law_pass vs) H) : CalG G 4 "_law_pass" sp [] := by
  obtain ⟨fd, F⟩ := W.f__law_pass
  exact ⟨⟨_, fd, ["_law_net", "_law_hand"], [], fn_ok0 F sc__law_pass len (fun _ _ _ _ _ _ hr => dv__law_pass W hr) pure, W.g__law_pass, F.kp, (F.bindsN (ps := ["_law_net", "_law_hand"]) fun _ _ _ _ _ _ us hl => match us, hl with | [_, _], _ => rfl), .nil⟩⟩
def N_law : List Str := ["_law_script", "_law_town_here", "_law_many", "_law_net", "_law_holds", "_law_turn", "_law_odd", "_law_hand", "_law_ways", "_law_told"]
theorem sc_law : FnScope N_law ["_law_script"] (defScope s_law) := ⟨rfl, rfl, rfl, by decide +kernel, rfl, by decide +kernel, by decide +kernel⟩
def t_law (G : En) : TS :=
    (tSeq (tAsg (tCallQ G 6 "_law_town" (tCons (tVar 0) tNil)) (gName 1))
    (tSeq (tAsg (tOp (rI0 fun i j => .int (i + j)) (tC (.int 2)) (tCallQ G 6 "_law_draw" (tCons (tVar 1) (tCons (tC (.int 5)) tNil)))) (gName 2))
    (tSeq (tAsg (tMakeQ G 6 "Ring" (tCons (tVar 2) (tCons (tCallQ G 6 "_law_start" (tCons (tVar 1) (tCons (tVar 2) tNil))) tNil))) (gName 3))
    (tSeq (tAsg (tC (.int 0)) (gName 4))
    (tSeq (tForQ (iRng1Q (tCons (tC (.int 24)) tNil)) (gName 5) (tSeq (tDrop (tCallQ G 6 "_law_go" (tCons (tVar 1) (tCons (tVar 3) (tCons (tVar 2) (tCons (tC (.int 4)) tNil))))))
    (tSeq (tIfS (tAnd (tTestQ (tOp rIsNq (tVar 4) (tC .non))) (tTestQ (tOp rNotNq (tMethQ G 6 "token" (tVar 3) tNil) (tC .non)))) (tAsg (tMethQ G 6 "token" (tVar 3) tNil) (gName 4)) tNext)
    (tSeq (tAsg (tCallQ G 6 "_law_pick" (tCons (tVar 1) (tCons (tLstQ (tCons (tVar 2) (tCons (tOp (rI0 fun i j => .int (i - j)) (tC (.int 0)) (tC (.int 1))) (tCons (tC (.bl true)) (tCons (tC .non) (tCons (tC (.str "0")) (tCons (tLstQ (tCons (tC (.int 0)) tNil)) tNil))))))) tNil))) (gName 6))
    (tSeq (tIfS (tTestQ (tOp rNe (tCallQ G 6 "_law_pass" (tCons (tVar 3) (tCons (tVar 6) tNil))) (tC (.str "hand")))) (tRet (tC (.bl false))) tNext)
    (tSeq (tAsg (tCallQ G 6 "_law_draw" (tCons (tVar 1) (tCons (tVar 2) tNil))) (gName 7))
    (tSeq (tAsg (tIf (tAnd (tTestQ (tOp rNotNq (tVar 4) (tC .non))) (tTestQ (tOp rEq (tCallQ G 6 "_law_draw" (tCons (tVar 1) (tCons (tC (.int 2)) tNil))) (tC (.int 0))))) (tVar 4) (tVar 7)) (gName 7))
    (tSeq (tAsg (tMethQ G 6 "ways" (tVar 3) tNil) (gName 8))
    (tSeq (tAsg (tCallQ G 6 "_law_pass" (tCons (tVar 3) (tCons (tVar 7) tNil))) (gName 9))
    (tIfS (tTestQ (tOp rNe (tVar 7) (tVar 4))) (tIfS (tOr (tTestQ (tOp rNe (tVar 9) (tC (.str "now")))) (tOr (tTestQ (tOp rNe (tMethQ G 6 "token" (tVar 3) tNil) (tVar 4))) (tTestQ (tOp (rNeD G.K) (tMethQ G 6 "ways" (tVar 3) tNil) (tVar 8))))) (tRet (tC (.bl false))) tNext) (tIfS (tTestQ (tOp (rIn G.K false) (tVar 7) (tMethQ G 6 "awake" (tVar 3) tNil))) (tIfS (tOr (tTestQ (tOp (rNeD G.K) (tVar 9) (tTupQ (tCons (tC (.str "awake")) (tCons (tVar 7) tNil))))) (tOr (tTestQ (tOp rNe (tMethQ G 6 "token" (tVar 3) tNil) (tVar 4))) (tTestQ (tOp (rNeD G.K) (tMethQ G 6 "ways" (tVar 3) tNil) (tVar 8))))) (tRet (tC (.bl false))) tNext) (tIfS (tOr (tTestQ (tOp rNe (tVar 9) (tC (.str "told")))) (tAnd (tNot (tTestQ (tMethQ G 6 "told" (tVar 3) tNil))) (tTestQ (tOp (rIn G.K true) (tC (.str "token")) (tMethQ G 6 "on_way" (tVar 3) (tCons (tVar 7) (tCons (tOp (rI (fun _ j => 0 < j) fun i j => .int (i % j)) (tOp (rI0 fun i j => .int (i - j)) (tOp (rI0 fun i j => .int (i + j)) (tVar 7) (tVar 2)) (tC (.int 1))) (tVar 2)) tNil))))))) (tRet (tC (.bl false))) (tIfS (tTestQ (tMethQ G 6 "told" (tVar 3) tNil)) (tRet (tAndVQ (tOp rEq (tCallQ G 6 "_law_pass" (tCons (tVar 3) (tCons (tC (.int 0)) tNil))) (tC (.str "now"))) (tOp rEq (tMethQ G 6 "token" (tVar 3) tNil) (tC (.int 0))))) (tSeq (tAsg (tC .non) (gName 4))
    (tIfS (tTestQ (tOp rNotNq (tMethQ G 6 "token" (tVar 3) tNil) (tC .non))) (tRet (tC (.bl false))) tNext)))))))))))))))
    (tRet (tC (.bl true))))))))
theorem dv_law {G : En} (W : Wd G) {qual : Str} {f : Addr} {cdv : Value} {A : Around} {outer : List Env} {s : Shared} {H : Hp} {E : XK} (hr : rm0 6 qual s_law f cdv A s) : PSs (cx0 G N_law qual s_law f cdv A outer s H E) (defBody s_law) (t_law G) :=
    (pss_cons (ps_set (i := 1) sc_law.nd rfl (Or.inl rfl) (e_call hr (by rfl) (pa_cons (pv 0) pa_nil)))
    (pss_cons (ps_set (i := 2) sc_law.nd rfl (Or.inl rfl) (pe_op op_add pe_int (e_call hr (by rfl) (pa_cons (pv 1) (pa_cons pe_int pa_nil)))))
    (pss_cons (ps_set (i := 3) sc_law.nd rfl (Or.inl rfl) (e_make hr (by rfl) (pa_cons (pv 2) (pa_cons (e_call hr (by rfl) (pa_cons (pv 1) (pa_cons (pv 2) pa_nil))) pa_nil))))
    (pss_cons (ps_set (i := 4) sc_law.nd rfl (Or.inl rfl) pe_int)
    (pss_cons (s_for PassesOwn.never rfl (i_rng1 (by rfl) W.z_range (pa_cons pe_int pa_nil)) (pg_name (i := 5) sc_law.nd rfl (Or.inl rfl)) (pss_cons (ps_expr (e_call hr (by rfl) (pa_cons (pv 1) (pa_cons (pv 3) (pa_cons (pv 2) (pa_cons pe_int pa_nil))))))
    (pss_cons (ps_if (PW.pt (pw_and (b_cmp c_isN (pv 4) pe_non (nomark _)) (pw_and1 (b_cmp c_notN (e_meth0 hr (pv 3)) pe_non (nomark _))))) (pss_one (ps_set (i := 4) sc_law.nd rfl (Or.inl rfl) (e_meth0 hr (pv 3)))) pss_nil)
    (pss_cons (ps_set (i := 6) sc_law.nd rfl (Or.inl rfl) (e_call hr (by rfl) (pa_cons (pv 1) (pa_cons (e_lst (pa_cons (pv 2) (pa_cons (pe_op op_sub pe_int pe_int) (pa_cons pe_bl (pa_cons pe_non (pa_cons pe_str (pa_cons (e_lst (pa_cons pe_int pa_nil)) pa_nil))))))) pa_nil))))
    (pss_cons (ps_if (b_cmp op_ne (e_call hr (by rfl) (pa_cons (pv 3) (pa_cons (pv 6) pa_nil))) pe_str (nomark _)) (pss_one (ps_ret pe_bl)) pss_nil)
    (pss_cons (ps_set (i := 7) sc_law.nd rfl (Or.inl rfl) (e_call hr (by rfl) (pa_cons (pv 1) (pa_cons (pv 2) pa_nil))))
    (pss_cons (ps_set (i := 7) sc_law.nd rfl (Or.inl rfl) (pe_ifExp (PW.pt (pw_and (b_cmp c_notN (pv 4) pe_non (nomark _)) (pw_and1 (b_cmp op_eq (e_call hr (by rfl) (pa_cons (pv 1) (pa_cons pe_int pa_nil))) pe_int (nomark _))))) (pv 4) (pv 7)))
    (pss_cons (ps_set (i := 8) sc_law.nd rfl (Or.inl rfl) (e_meth0 hr (pv 3)))
    (pss_cons (ps_set (i := 9) sc_law.nd rfl (Or.inl rfl) (e_call hr (by rfl) (pa_cons (pv 3) (pa_cons (pv 7) pa_nil))))
    (pss_one (ps_if (b_cmp op_ne (pv 7) (pv 4) (nomark _)) (pss_one (ps_if (PW.pt (pw_or (b_cmp op_ne (pv 9) pe_str (nomark _)) (pw_or (b_cmp op_ne (e_meth0 hr (pv 3)) (pv 4) (nomark _)) (pw_or1 (b_cmp (op_neD hr.units) (e_meth0 hr (pv 3)) (pv 8) (nomark _)))))) (pss_one (ps_ret pe_bl)) pss_nil)) (pss_one (ps_if (b_cmp op_in_seq (pv 7) (e_meth0 hr (pv 3)) (by rfl)) (pss_one (ps_if (PW.pt (pw_or (b_cmp (op_neD hr.units) (pv 9) (e_tup (pa_cons pe_str (pa_cons (pv 7) pa_nil))) (nomark _)) (pw_or (b_cmp op_ne (e_meth0 hr (pv 3)) (pv 4) (nomark _)) (pw_or1 (b_cmp (op_neD hr.units) (e_meth0 hr (pv 3)) (pv 8) (nomark _)))))) (pss_one (ps_ret pe_bl)) pss_nil)) (pss_one (ps_if (PW.pt (pw_or (b_cmp op_ne (pv 9) pe_str (nomark _)) (pw_or1 (PW.pt (pw_and (pt_not (b_val (e_meth0 hr (pv 3)))) (pw_and1 (b_cmp op_notIn_seq pe_str (e_meth hr (pv 3) (pa_cons (pv 7) (pa_cons (pe_op op_mod (pe_op op_sub (pe_op op_add (pv 7) (pv 2)) pe_int) (pv 2)) pa_nil))) (by rfl)))))))) (pss_one (ps_ret pe_bl)) (pss_one (ps_if (b_val (e_meth0 hr (pv 3))) (pss_one (ps_ret (e_and (e_cmp op_eq (e_call hr (by rfl) (pa_cons (pv 3) (pa_cons pe_int pa_nil))) pe_str (nomark _)) (pe_one (e_cmp op_eq (e_meth0 hr (pv 3)) pe_int (nomark _)))))) (pss_cons (ps_set (i := 4) sc_law.nd rfl (Or.inl rfl) pe_non)
    (pss_one (ps_if (b_cmp c_notN (e_meth0 hr (pv 3)) pe_non (nomark _)) (pss_one (ps_ret pe_bl)) pss_nil))))))))))))))))))))
    (pss_one (ps_ret pe_bl)))))))
theorem fnq_law {G : En} (W : Wd G) {sp : Sp} (len : ∀ vs H Q E, sp vs H Q E → vs.length = 1) (pure : ∀ vs H Q E, sp vs H Q E → t_law G { nx := fun _ H' => Q .non H', rt := Q } (start N_law vs) H) {fd : FuncData} (F : FnP G.K "law" "law" s_law [] (He.ga G.K "law") fd) : FnG G CX0 7 (He.ga G.K "law") fd ["_law_script"] sp :=
  fn_ok0 F sc_law len (fun _ _ _ _ _ _ hr => dv_law W hr) pure

theorem x_par {i j : Nat} {ta : TA} {D : Ends} {σ : Stt} {H : Hp} (k : ta σ H fun vs H1 => ∃ v w, vs = [v, w] ∧ D.nx ((σ.set i (some v)).set j (some w)) H1) : tPar i j ta D σ H := k

/-! ### the stepper -/
local macro_rules | `(tactic| walk_at "ne") => `(tactic| first
  | assumption
  | (apply Ne.symm; assumption)
  | (apply ne_new; assumption; walk_at "hp")
  | (apply Ne.symm; apply ne_new; assumption; walk_at "hp"))
local macro_rules | `(tactic| walk_at "hp") => `(tactic| first
  | assumption
  | exact upd_same
  | (apply upd_at; (walk_at "hp"); (walk_at "ne")))
local macro_rules | `(tactic| walk_at "fr") => `(tactic| first
  | assumption
  | exact Fr.refl _
  | (apply Fr.then_put_new; (walk_at "fr"); assumption)
  | (apply Fr.then_new; (walk_at "fr"); assumption)
  | (apply Fr.then_put; (walk_at "fr"); (walk_at "hp"); exact trivial; (first | exact rfl | assumption | exact Or.inl rfl | exact Or.inr rfl)))
local macro_rules | `(tactic| walk_at "ix") => `(tactic| first
  | (exact rfl)
  | assumption
  | (apply map_ix; assumption))
local macro_rules | `(tactic| walk_at "s0") => `(tactic| first
  | (with_reducible refine x_seq ?_)
  | ((with_reducible apply x_var); exact rfl)
  | (with_reducible refine x_c ?_)
  | (with_reducible refine x_op ?_)
  | (with_reducible refine x_I0 ?_)
  | (with_reducible refine x_eqI ?_)
  | (with_reducible refine x_neI ?_)
  | (with_reducible refine x_eqS ?_)
  | (with_reducible refine x_neS ?_)
  | (with_reducible refine x_eqB ?_)
  | (with_reducible refine x_isNn ?_)
  | (with_reducible refine x_isNi ?_)
  | (with_reducible refine x_isNr ?_)
  | (with_reducible refine x_notNn ?_)
  | (with_reducible refine x_notNi ?_)
  | (with_reducible refine x_notNr ?_)
  | (with_reducible refine x_isN ?_)
  | (with_reducible refine x_notN ?_)
  | (with_reducible refine x_cons ?_)
  | (with_reducible refine x_nil ?_)
  | (with_reducible refine x_fld ?_)
  | ((with_reducible apply x_fldg); (walk_at "hp"); (walk_at "cls"); (walk_at "na"); (exact rfl))
  | (with_reducible refine x_sfld ?_)
  | ((with_reducible apply x_putg); (walk_at "hp"); (walk_at "cls"); (walk_at "na"); (exact Nat.le_of_ble_eq_true rfl); (exact rfl))
  | (with_reducible refine x_meth ?_)
  | ((with_reducible apply x_methg); (walk_at "hp"); assumption; (exact (by decide)); (first | exact rfl | exact NL.look (by decide +kernel)))
  | (with_reducible refine x_call (by assumption) (by decide) ?_)
  | (with_reducible refine x_make (by assumption) (by decide) ?_)
  | (with_reducible refine x_makeK (by assumption) (by decide) ?_)
  | (with_reducible refine x_gfld ?_)
  | (with_reducible refine x_din ?_)
  | (with_reducible refine x_dnin ?_)
  | (with_reducible refine x_un ?_)
  | (with_reducible refine x_neg ?_)
  | ((with_reducible apply x_lenD); (walk_at "hp"))
  | ((with_reducible apply x_d2aK); (walk_at "hp"))
  | (with_reducible refine x_test ?_)
  | (with_reducible refine x_isB ?_)
  | (with_reducible refine x_cb ?_)
  | ((with_reducible apply x_lenL); (walk_at "hp"))
  | ((with_reducible apply x_lenT); (walk_at "hp"))
  | (with_reducible refine x_lenSet ?_)
  | (with_reducible refine x_lrg ?_)
  | (with_reducible refine x_bm ?_)
  | ((with_reducible apply x_bmL); (walk_at "hp"))
  | ((with_reducible refine x_new ?_ ?_); (exact Nat.le_of_ble_eq_true rfl); intro _ _)
  | ((with_reducible apply x_ixL); (walk_at "hp"); (exact rfl); (walk_at "ix"))
  | ((with_reducible apply x_ixT); (walk_at "hp"); (exact rfl); (walk_at "ix"))
  | (with_reducible refine x_tup ?_)
  | (with_reducible refine x_lst ?_)
  | (with_reducible refine x_chain ?_)
  | (with_reducible refine x_chn ?_)
  | (with_reducible refine x_andV ?_)
  | (with_reducible refine x_andg ?_)
  | (with_reducible refine x_orV ?_)
  | (with_reducible refine x_org ?_)
  | (with_reducible refine x_notV ?_)
  | (with_reducible refine x_notg ?_)
  | (with_reducible refine x_and ?_)
  | (with_reducible refine x_or ?_)
  | (with_reducible refine x_not ?_)
  | (with_reducible refine x_dget ?_)
  | (with_reducible refine x_asg ?_)
  | (with_reducible refine x_par ?_)
  | (with_reducible refine x_sdput ?_)
  | ((with_reducible refine x_dnew ?_); intro _ _)
  | (with_reducible refine x_dget2 ?_)
  | ((with_reducible apply x_d2aT); (walk_at "hp"))
  | (with_reducible refine x_ikeys ?_)
  | (with_reducible refine x_ivals ?_)
  | ((with_reducible apply x_keys); (walk_at "hp"))
  | ((with_reducible apply x_vals); (walk_at "hp"))
  | (with_reducible refine x_isBl ?_)
  | ((with_reducible apply x_bmD); (walk_at "hp"))
  | (with_reducible refine x_cm (by assumption) (by decide) ?_)
  | ((with_reducible apply x_inI); (walk_at "hp"))
  | (with_reducible refine x_gname ?_)
  | ((with_reducible apply x_gtup); (walk_at "hp"); (exact rfl))
  | (with_reducible refine x_gcons ?_)
  | (with_reducible refine x_gnil ?_)
  | (with_reducible refine x_gsub ?_)
  | (with_reducible refine x_ret ?_)
  | (with_reducible refine x_retN ?_)
  | (with_reducible refine x_drop ?_)
  | (with_reducible refine x_next ?_)
  | (with_reducible refine x_for ?_)
  | (with_reducible refine x_lc ?_)
  | (with_reducible refine x_rng1 ?_)
  | (with_reducible refine x_rng2 ?_)
  | (with_reducible refine x_ilist ?_)
  | ((with_reducible apply x_itl); (walk_at "hp"))
  | (with_reducible refine x_isiII ?_)
  | (with_reducible refine x_isiIB ?_)
  | (with_reducible refine x_isiBI ?_)
  | (with_reducible refine x_isiBB ?_)
  | (with_reducible refine x_isiNI ?_)
  | (with_reducible refine x_isiNL ?_)
  | (with_reducible refine x_isiIL ?_)
  | (with_reducible refine x_isiSI ?_)
  | (with_reducible refine x_isiSL ?_)
  | ((with_reducible apply x_isiLL); (walk_at "hp"))
  | ((with_reducible apply x_isiLI); (walk_at "hp"))
  | ((with_reducible apply x_isiTL); (walk_at "hp"))
  | ((with_reducible apply x_isiTT); (walk_at "hp"))
  | ((with_reducible apply x_isiLT); (walk_at "hp"))
  | (with_reducible refine x_nt ?_)
  | (with_reducible refine x_nf ?_)
  | (with_reducible refine x_nnt ?_)
  | (with_reducible refine x_nnf ?_)
  | (with_reducible refine x_t ?_)
  | (with_reducible refine x_f ?_)
  | ((with_reducible refine x_dt ?_ ?_); (first | assumption | exact rfl))
  | ((with_reducible refine x_ndt ?_ ?_); (first | assumption | exact rfl))
  | ((with_reducible refine x_df ?_ ?_); (first | assumption | exact (by decide)))
  | ((with_reducible refine x_ndf ?_ ?_); (first | assumption | exact (by decide)))
  | ((with_reducible refine x_mod ?_ ?_); (first | exact (by decide) | assumption))
  | ((with_reducible refine x_div ?_ ?_); (first | exact (by decide) | assumption))
  | ((with_reducible refine x_mulL ?_ ?_); (first | exact (by decide) | assumption))
  | ((with_reducible refine x_mulR ?_ ?_); (first | exact (by decide) | assumption)))
local macro_rules | `(tactic| walk_at "s") => `(tactic| first
  | (walk_at "s0")
  | (with_reducible refine x_ifE ?_)
  | (with_reducible refine x_ifs ?_))
local macro_rules | `(tactic| walk_at "st") => `(tactic| repeat (walk_at "s"))
local macro_rules | `(tactic| walk_at "sq") => `(tactic| repeat (walk_at "s0"))
local macro_rules | `(tactic| walk_at "s0") => `(tactic| first
  | (with_reducible refine x_methW ?_)
  | ((with_reducible apply x_methW0); (walk_at "hp"); assumption; (exact (by decide)); (first | exact rfl | exact NL.look (by decide +kernel)))
  | ((with_reducible apply x_methWE); (walk_at "hp"); assumption; (exact (by decide)); (first | exact rfl | exact NL.look (by decide +kernel)))
  | (with_reducible refine x_callW0 (by assumption) (by decide) ?_)
  | (with_reducible refine x_callWE (by assumption) (by decide) ?_)
  | (with_reducible refine x_cmW0 (by assumption) (by decide) ?_)
  | (with_reducible refine x_cmWE (by assumption) (by decide) ?_)
  | (with_reducible refine x_makeW0 (by assumption) (by decide) ?_)
  | (with_reducible refine x_makeWE (by assumption) (by decide) ?_)
  | (with_reducible refine x_try ?_)
  | (with_reducible refine x_raise ?_))
local macro_rules | `(tactic| walk_at "cls") => `(tactic| first
  | assumption
  | (with_reducible exact Wd.c_Net (by assumption))
  | (with_reducible exact Wd.c_Ring (by assumption))
)
local macro_rules | `(tactic| walk_at "na") => `(tactic| first
  | assumption
  | (with_reducible exact Wd.na_Net_many (by assumption))
  | (with_reducible exact Wd.na_Net_up (by assumption))
  | (with_reducible exact Wd.na_Net_purses (by assumption))
  | (with_reducible exact Wd.na_Net_rows (by assumption))
  | (with_reducible exact Wd.na_Ring_many (by assumption))
  | (with_reducible exact Wd.na_Ring_up (by assumption))
  | (with_reducible exact Wd.na_Ring_purses (by assumption))
  | (with_reducible exact Wd.na_Ring_rows (by assumption))
  | (with_reducible exact Wd.na_Ring_count (by assumption))
  | (with_reducible exact Wd.na_Ring_black (by assumption))
  | (with_reducible exact Wd.na_Ring_holder (by assumption))
  | (with_reducible exact Wd.na_Ring_bears (by assumption))
  | (with_reducible exact Wd.na_Ring_dark (by assumption))
  | (with_reducible exact Wd.na_Ring_done (by assumption))
)
/-! ### numbers, the town of draws -/
def spIsWhole : Sp := fun vs H Q _ => ∃ i lo hi : Int, vs = [.int i, .int lo, .int hi] ∧ Q (.bl (decide (lo ≤ i ∧ i ≤ hi))) H
theorem ok_is_whole {G : En} (W : Wd G) : CalG G 1 "is_whole" spIsWhole [] := by
  refine run_is_whole W (fun vs H Q E h => ?_) (fun vs H Q E h => ?_)
  · obtain ⟨i, lo, hi, rfl, _⟩ := h
    rfl
  · obtain ⟨i, lo, hi, rfl, k⟩ := h
    unfold t_is_whole
    walk_at "st"
    refine x_d2 (fun h1 => ?_) (fun h1 => ?_)
    · walk_at "st"
      show Q _ H
      rw [show decide (i ≤ hi) = decide (lo ≤ i ∧ i ≤ hi) by simp [h1]]
      exact k
    · show Q _ H
      rw [show false = decide (lo ≤ i ∧ i ≤ hi) by simp [h1]]
      exact k
/-- the cells at c, the number of draws -/
structure TownAt (H : Hp) (t c : Addr) : Prop where
  ne : t ≠ c
  ex : ∃ (ns : List Int) (k : Int), H t = some (.lst [.ref c, .int k]) ∧ H c = some (.lst (ns.map V.int)) ∧ ns ≠ [] ∧ ns.length ≤ 63
def tF (t c : Addr) : Addr → Prop := fun b => b = t ∨ b = c
theorem TownAt.fr {F : Addr → Prop} {H H' : Hp} {t c : Addr} (h : TownAt H t c) (f : Fr F H H') (n1 : ¬ F t) (n2 : ¬ F c) : TownAt H' t c := by
  obtain ⟨ne, ns, k, h1, h2, h3, h4⟩ := h
  exact ⟨ne, ns, k, f.keep _ _ h1 n1, f.keep _ _ h2 n2, h3, h4⟩
theorem TownAt.fr0 {H H' : Hp} {t c : Addr} (h : TownAt H t c) (f : Fr F0 H H') : TownAt H' t c := h.fr f id id
def spTown (K : PySem.W.Frag) : Sp := fun vs H Q _ => ∃ (a : Addr) (ns : List Int), vs = [.ref a] ∧ SqL K H a (ns.map V.int) ∧ ns.length ≤ 63 ∧
  ∀ t c H', H t = none → H c = none → TownAt H' t c → Fr F0 H H' → Q (.ref t) H'
theorem ok_town {G : En} (W : Wd G) : CalG G 1 "_law_town" (spTown G.K) [] := by
  refine run__law_town W (fun vs H Q E h => ?_) (fun vs H Q E h => ?_)
  · obtain ⟨a, ns, rfl, _⟩ := h
    rfl
  · obtain ⟨a, ns, rfl, hS, hl, k⟩ := h
    unfold t__law_town
    walk_at "st"
    rename_i e he
    have f0 : Fr F0 H (upd H e (.lst [])) := .new he
    have hS' : SqL G.K (upd H e (.lst [])) a (ns.map V.int) := SqL.fr f0 id hS
    refine x_neL encInt (lst_ints hS') (lst_nil encInt upd_same) ?_
    walk_at "st"
    refine x_nd2 (fun h1 => ?_) (fun h1 => ?_)
    · walk_at "st"
      refine x_listL hS' fun c hc => ?_
      walk_at "st"
      rename_i t ht
      obtain ⟨tc, ht⟩ := upd_none.mp ht
      refine k t c _ (f0.back0 ht) (f0.back0 hc) ⟨tc, ns, 0, upd_same, upd_at upd_same tc.symm, h1, hl⟩ ((f0.then_new hc).then_new (upd_none.mpr ⟨tc, ht⟩))
    · walk_at "st"
      rename_i c hc t ht
      obtain ⟨tc, ht⟩ := upd_none.mp ht
      exact k t c _ (f0.back0 ht) (f0.back0 hc) ⟨tc, [0], 0, upd_same, upd_at upd_same tc.symm, by simp, by simp⟩ ((f0.then_new hc).then_new (upd_none.mpr ⟨tc, ht⟩))
def spDraw : Sp := fun vs H Q _ => ∃ (t c : Addr) (m : Int), vs = [.ref t, .int m] ∧ TownAt H t c ∧ 0 < m ∧ m < 1000000 ∧
  ∀ r H', 0 ≤ r → r < m → TownAt H' t c → Fr (tF t c) H H' → Q (.int r) H'
theorem ok_draw {G : En} (W : Wd G) : CalG G 1 "_law_draw" spDraw [] := by
  refine run__law_draw W (fun vs H Q E h => ?_) (fun vs H Q E h => ?_)
  · obtain ⟨t, c, m, rfl, _⟩ := h
    rfl
  · obtain ⟨t, c, m, rfl, ⟨ne, ns, kk, h1, h2, h3, h4⟩, m0, m1, k⟩ := h
    unfold t__law_draw
    walk_at "st"
    refine x_setL (i := 1) h1 rfl (by simp) ?_
    have g1 : upd H t (.lst (List.set [V.ref c, .int kk] 1 (.int (kk + 1)))) t = some (.lst [V.ref c, .int (kk + 1)]) := upd_same
    have g2 : upd H t (.lst (List.set [V.ref c, .int kk] 1 (.int (kk + 1)))) c = some (.lst (ns.map V.int)) := upd_at h2 ne.symm
    have f1 : Fr (tF t c) H (upd H t (.lst (List.set [V.ref c, .int kk] 1 (.int (kk + 1))))) := .put h1 trivial (.inl rfl)
    generalize upd H t (.lst (List.set [V.ref c, .int kk] 1 (.int (kk + 1)))) = H1 at *
    have L0 : 0 < ns.length := List.length_pos_iff.mpr h3
    walk_at "st"
    refine x_mod (by rw [List.length_map]; omega) ?_
    obtain ⟨i, ei, li⟩ := mod_nat (n := kk + 1) (L := (ns.map V.int).length) (by rw [List.length_map]; exact L0)
    rw [ei]
    rw [List.length_map] at li
    obtain ⟨x, hx⟩ := at_lt li
    walk_at "st"
    refine x_d2 (fun c1 => ?_) (fun c1 => ?_)
    · walk_at "st"
      refine x_div ⟨m0, by omega⟩ ?_
      walk_at "st"
      refine x_setL g2 rfl (by rw [List.length_map]; exact li) ?_
      rw [map_set V.int]
      walk_at "st"
      have a1 := Int.emod_nonneg x (show m ≠ 0 by omega)
      have a2 := Int.emod_lt_of_pos x m0
      exact k _ _ a1 a2 ⟨ne, ns.set i (x / m), kk + 1, upd_at g1 ne, upd_same, by intro z; exact h3 (by simpa using z), by rw [List.length_set]; exact h4⟩
        (f1.then_put g2 trivial (.inr rfl))
    · walk_at "st"
      generalize hz : (x + 104729 * (kk + 1)) % 4294967291 = z
      have z0 := Int.emod_nonneg (x + 104729 * (kk + 1)) (show (4294967291 : Int) ≠ 0 by decide)
      have z1 := Int.emod_lt_of_pos (x + 104729 * (kk + 1)) (show (0 : Int) < 4294967291 by decide)
      refine x_I ⟨by decide, by decide, by omega⟩ ?_
      walk_at "st"
      exact k _ _ (Int.emod_nonneg _ (show m ≠ 0 by omega)) (Int.emod_lt_of_pos _ m0) ⟨ne, ns, kk + 1, g1, g2, h3, h4⟩ f1
def spPick : Sp := fun vs H Q _ => ∃ (t c l : Addr) (xs : List V), vs = [.ref t, .ref l] ∧ TownAt H t c ∧ H l = some (.lst xs) ∧ l ≠ t ∧ l ≠ c ∧ xs ≠ [] ∧ xs.length ≤ 1000 ∧
  ∀ (i : Nat) v H', xs[i]? = some v → TownAt H' t c → Fr (tF t c) H H' → Q v H'
theorem ok_pick {G : En} (W : Wd G) (c1 : CalG G 1 "_law_draw" spDraw []) : CalG G 2 "_law_pick" spPick [] := by
  refine run__law_pick W (fun vs H Q E h => ?_) (fun vs H Q E h => ?_)
  · obtain ⟨t, c, l, xs, rfl, _⟩ := h
    rfl
  · obtain ⟨t, c, l, xs, rfl, hT, hl, n1, n2, hx, hn, k⟩ := h
    unfold t__law_pick
    walk_at "st"
    have := List.length_pos_iff.mpr hx
    refine ⟨t, c, _, rfl, hT, by omega, by omega, fun r H' r0 r1 hT' f => ?_⟩
    obtain ⟨i, rfl⟩ := Int.eq_ofNat_of_zero_le r0
    obtain ⟨v, hv⟩ := at_lt (xs := xs) (i := i) (by omega)
    have hl' : H' l = some (.lst xs) := f.keep _ _ hl (by rintro (z | z) <;> contradiction)
    walk_at "st"
    exact k i v H' hv hT' f

/-! ### the net's methods, for whatever class has them -/
structure KC (K : PySem.W.Frag) (C : Addr) : Prop where
  c : Cls K C
  n1 : NoAttr K C "many"
  n2 : NoAttr K C "up"
  n3 : NoAttr K C "purses"
  n4 : NoAttr K C "rows"
section
variable {X : Type} {G : En} {C : Addr}
def spLookH (X : Type) (C : Addr) : Sp := fun vs H Q _ => ∃ (L : NL X) (S : NS X) (i : Nat), vs = [.ref L.root, .int i] ∧ L.C = C ∧ NetAt H L S ∧ i < L.n ∧ Q .non H
theorem len_lookH {vs : List V} {H : Hp} {Q : VK} {E : XK} (h : spLookH X C vs H Q E) : vs.length = 2 := by
  obtain ⟨L, S, i, rfl, _⟩ := h
  rfl
theorem pu_lookH (kc : KC G.K C) (q1 : CalG G 1 "is_whole" spIsWhole []) {vs : List V} {H : Hp} {Q : VK} {E : XK} (h : spLookH X C vs H Q E) : t_Net_look_hand G { nx := fun _ H' => Q .non H', rt := Q } (start N_Net_look_hand vs) H := by
  obtain ⟨L, S, i, rfl, rfl, h, hi, k⟩ := h
  have rt := h.rt
  have k1 := kc.c
  have k2 := kc.n1
  unfold t_Net_look_hand
  walk_at "st"
  refine ⟨_, _, _, rfl, ?_⟩
  walk_at "st"
  refine x_ndt ⟨by omega, by omega⟩ ?_
  exact k
def spLookW (X : Type) (C : Addr) : Sp := fun vs H Q _ => ∃ (L : NL X) (S : NS X) (i j : Nat), vs = [.ref L.root, .int i, .int j] ∧ L.C = C ∧ NetAt H L S ∧ i < L.n ∧ j < L.n ∧ i ≠ j ∧ Q .non H
theorem len_lookW {vs : List V} {H : Hp} {Q : VK} {E : XK} (h : spLookW X C vs H Q E) : vs.length = 3 := by
  obtain ⟨L, S, i, j, rfl, _⟩ := h
  rfl
theorem pu_lookW (q1 : MetG G 2 C "look_hand" (spLookH X C) []) {vs : List V} {H : Hp} {Q : VK} {E : XK} (h : spLookW X C vs H Q E) : t_Net_look_way G { nx := fun _ H' => Q .non H', rt := Q } (start N_Net_look_way vs) H := by
  obtain ⟨L, S, i, j, rfl, rfl, h, hi, hj, ne, k⟩ := h
  have rt := h.rt
  unfold t_Net_look_way
  walk_at "st"
  refine ⟨L, S, i, rfl, rfl, h, hi, ?_⟩
  walk_at "st"
  refine ⟨L, S, j, rfl, rfl, h, hj, ?_⟩
  walk_at "st"
  refine x_df (by omega) ?_
  exact k
def spPutL (X : Type) (C : Addr) : Sp := fun vs H Q _ => ∃ (L : NL X) (S : NS X) (i j : Nat) (w : Str) (v : V) (d : PyData), vs = [.ref L.root, .int i, .int j, .str w, v] ∧ L.C = C ∧ NetAt H L S ∧ i < L.n ∧ j < L.n ∧ (S.rw i j).length ≤ 1000 ∧ At H v d ∧ LtOk (w, d) ∧
  ∀ H', NetAt H' L (S.put i j (w, d)) → Stp L S (S.put i j (w, d)) H H' → Q .non H'
theorem len_putL {vs : List V} {H : Hp} {Q : VK} {E : XK} (h : spPutL X C vs H Q E) : vs.length = 5 := by
  obtain ⟨L, S, i, j, w, v, d, rfl, _⟩ := h
  rfl
theorem pu_putL (kc : KC G.K C) {vs : List V} {H : Hp} {Q : VK} {E : XK} (h : spPutL X C vs H Q E) : t_Net_put G { nx := fun _ H' => Q .non H', rt := Q } (start N_Net_put vs) H := by
  obtain ⟨L, S, i, j, w, v, d, rfl, rfl, h, hi, hj, hl, hv, ok, k⟩ := h
  have rt := h.rt
  have k1 := kc.c
  have k2 := kc.n4
  have dr := h.dr
  obtain ⟨vs, r1, r2⟩ := h.row i j hi hj
  unfold t_Net_put
  walk_at "st"
  rename_i p hp
  refine x_dgetT (ks := [.inl (i : Int), .inl (j : Int)]) (upd_new dr hp) upd_same (h.dget hi hj) ?_
  have r1' := upd_new (o := .tup [.int i, .int j]) r1 hp
  walk_at "st"
  rename_i q hq
  have f0 : Fr F0 H (upd H p (.tup [.int i, .int j])) := .new hp
  have f1 := f0.then_new (o := .tup [.str w, v]) hq
  refine x_app (upd_new r1' hq) (by rw [r2.len, List.length_map]; omega) ?_
  have hB := h.fr0 f1
  have at1 : At (upd (upd H p (.tup [.int i, .int j])) q (.tup [.str w, v])) (.ref q) (ltD (w, d)) := .tup upd_same (.cons (.str w) (.cons (hv.fr f1) .nil))
  have := hB.setRow hi hj (r := S.rw i j ++ [(w, d)]) (vs := vs ++ [.ref q]) (by rw [List.map_append]; exact (r2.fr f1).snoc at1) (fun l hl => by
    rcases List.mem_append.mp hl with z | z
    · exact h.ok i j hi hj l z
    · rw [List.mem_singleton.mp z]; exact ok)
  exact k _ this.1 ((Stp.of f1).trans this.2)
end

/-! ### hooks; send, rest, come -/
structure Hk (X : Type) where
  mark : NL X → NS X → Nat → Nat → NS X → PyData → Prop
  rest : NL X → NS X → Nat → NS X → Prop
  work : NL X → NS X → Nat → Nat → Int → PyData → NS X → Prop
  ctrl : NL X → NS X → Nat → Nat → Str → PyData → NS X → Prop
  bef : NL X → NS X → Nat → Nat → Int → NS X → Prop
  Pm : NL X → NS X → Nat → Nat → Prop
  Pr : NL X → NS X → Nat → Prop
  Pw : NL X → NS X → Nat → Nat → Int → PyData → Prop
  Pc : NL X → NS X → Nat → Nat → Str → PyData → Prop
  Pb : NL X → NS X → Nat → Nat → Int → Prop
structure PdOk (d : PyData) : Prop where
  lay : d.canLay0 = true
  dep : d.depth ≤ 10
theorem LtOk.of_work {x : Int} {d : PyData} (h : PdOk d) : LtOk ("work", .tuple [.int x, d]) :=
  ⟨by simp only [ltD, PyData.canLay0, PyData.canLayAll0, h.lay, Bool.and_true]; decide +kernel, by have := h.dep; simp only [ltD, PyData.depth, PyData.depthAll]; omega, fun _ => ⟨x, d, rfl⟩⟩
section
variable {X : Type} {G : En} {C : Addr}
def spMark (hk : Hk X) (C : Addr) : Sp := fun vs H Q _ => ∃ (L : NL X) (S : NS X) (i j : Nat), vs = [.ref L.root, .int i, .int j] ∧ L.C = C ∧ NetAt H L S ∧ i < L.n ∧ j < L.n ∧ hk.Pm L S i j ∧
  ∀ S' v d H', hk.mark L S i j S' d → PdOk d → At H' v d → NetAt H' L S' → Stp L S S' H H' → Q v H'
def spARest (hk : Hk X) (C : Addr) : Sp := fun vs H Q _ => ∃ (L : NL X) (S : NS X) (i : Nat), vs = [.ref L.root, .int i] ∧ L.C = C ∧ NetAt H L S ∧ i < L.n ∧ hk.Pr L S i ∧
  ∀ S' v H', hk.rest L S i S' → NetAt H' L S' → Stp L S S' H H' → Q v H'
def spAWork (hk : Hk X) (C : Addr) : Sp := fun vs H Q _ => ∃ (L : NL X) (S : NS X) (i j : Nat) (x : Int) (v : V) (e : PyData), vs = [.ref L.root, .int i, .int j, .int x, v] ∧ L.C = C ∧ NetAt H L S ∧ i < L.n ∧ j < L.n ∧ At H v e ∧ hk.Pw L S i j x e ∧
  ∀ S' v H', hk.work L S i j x e S' → NetAt H' L S' → Stp L S S' H H' → Q v H'
def spACtrl (hk : Hk X) (C : Addr) : Sp := fun vs H Q _ => ∃ (L : NL X) (S : NS X) (i j : Nat) (w : Str) (v : V) (d : PyData), vs = [.ref L.root, .int i, .int j, .str w, v] ∧ L.C = C ∧ NetAt H L S ∧ i < L.n ∧ j < L.n ∧ At H v d ∧ hk.Pc L S i j w d ∧
  ∀ S' v H', hk.ctrl L S i j w d S' → NetAt H' L S' → Stp L S S' H H' → Q v H'
def spBWork (hk : Hk X) (C : Addr) : Sp := fun vs H Q _ => ∃ (L : NL X) (S : NS X) (i j : Nat) (x : Int), vs = [.ref L.root, .int i, .int j, .int x] ∧ L.C = C ∧ NetAt H L S ∧ i < L.n ∧ j < L.n ∧ hk.Pb L S i j x ∧
  ∀ S' v H', hk.bef L S i j x S' → NetAt H' L S' → Stp L S S' H H' → Q v H'
def sendR (hk : Hk X) (L : NL X) (S : NS X) (i j : Nat) (l : Int) (S' : NS X) : Prop := ∃ S1 d, hk.mark L (S.setPu i (S.pu i - l)) i j S1 d ∧ S' = S1.put i j ("work", .tuple [.int l, d])
def spSend (hk : Hk X) (C : Addr) : Sp := fun vs H Q _ => ∃ (L : NL X) (S : NS X) (i j : Nat) (l : Int), vs = [.ref L.root, .int i, .int j, .int l] ∧ L.C = C ∧ NetAt H L S ∧ i < L.n ∧ j < L.n ∧ i ≠ j ∧ S.up i = true ∧ 0 ≤ l ∧ l ≤ 800 ∧ l ≤ S.pu i ∧
  hk.Pm L (S.setPu i (S.pu i - l)) i j ∧ (∀ S1 d, hk.mark L (S.setPu i (S.pu i - l)) i j S1 d → (S1.rw i j).length ≤ 1000) ∧ ∀ S' v H', sendR hk L S i j l S' → NetAt H' L S' → Stp L S S' H H' → Q v H'
theorem len_send {hk : Hk X} {vs : List V} {H : Hp} {Q : VK} {E : XK} (h : spSend hk C vs H Q E) : vs.length = 4 := by
  obtain ⟨L, S, i, j, l, rfl, _⟩ := h
  rfl
def spLookN : Sp := fun vs H Q _ => ∃ i lo hi : Int, vs = [.int i, .int lo, .int hi] ∧ lo ≤ i ∧ i ≤ hi ∧ Q .non H
theorem ok_lookN (W : Wd G) (q1 : CalG G 1 "is_whole" spIsWhole []) : CalG G 2 "look_number" spLookN [] := by
  refine run_look_number W (fun vs H Q E h => ?_) (fun vs H Q E h => ?_)
  · obtain ⟨i, lo, hi, rfl, _⟩ := h
    rfl
  · obtain ⟨i, lo, hi, rfl, h1, h2, k⟩ := h
    unfold t_look_number
    walk_at "st"
    refine ⟨_, _, _, rfl, ?_⟩
    walk_at "st"
    exact x_ndt ⟨h1, h2⟩ k
theorem pu_send {hk : Hk X} (kc : KC G.K C) (q0 : CalG G 2 "look_number" spLookN []) (q1 : MetG G 3 C "look_way" (spLookW X C) []) {km : Nat} (hkm : km ≤ 3) (q2 : MetG G km C "mark" (spMark hk C) []) (q3 : MetG G 1 C "put" (spPutL X C) [])
    {vs : List V} {H : Hp} {Q : VK} {E : XK} (h : spSend hk C vs H Q E) : t_Net_send G { nx := fun _ H' => Q .non H', rt := Q } (start N_Net_send vs) H := by
  obtain ⟨L, S, i, j, l, rfl, rfl, h, hi, hj, ne, hu, l0, l8, lp, pm, hl, k⟩ := h
  have rt := h.rt
  have up := h.up
  have pu := h.pu
  have k1 := kc.c
  have k2 := kc.n2
  have k3 := kc.n3
  have uix := rg_ix (fun i => V.bl (S.up i)) hi
  have pix := rg_ix (fun i => V.int (S.pu i)) hi
  rw [hu] at uix
  unfold t_Net_send
  walk_at "st"
  refine ⟨L, S, i, j, rfl, rfl, h, hi, hj, ne, ?_⟩
  walk_at "st"
  refine ⟨_, _, _, rfl, l0, by omega, ?_⟩
  walk_at "st"
  refine x_df (by omega) ?_
  walk_at "st"
  refine x_setL pu rfl (by simpa using hi) ?_
  rw [rg_set' (g := fun j => V.int (fset S.pu i (S.pu i - l) j)) (fun j _ => by unfold fset; split <;> rfl)]
  have hA := h.setPu i (S.pu i - l)
  generalize upd H L.lp (.lst ((List.range L.n).map fun j => V.int (fset S.pu i (S.pu i - l) j))) = H1 at *
  have rt1 := hA.1.rt
  walk_at "st"
  refine x_methg rt1 q2 hkm (NL.look (by decide +kernel)) ?_
  walk_at "st"
  refine ⟨L, _, i, j, rfl, rfl, hA.1, hi, hj, pm, fun S1 v d H2 m1 pd at1 h2 s2 => ?_⟩
  walk_at "st"
  rename_i p hp
  have f0 : Fr F0 H2 (upd H2 p (.tup [.int l, v])) := .new hp
  have at2 : At (upd H2 p (.tup [.int l, v])) (.ref p) (.tuple [.int l, d]) := .tup upd_same (.cons (.int l) (.cons (at1.fr f0) .nil))
  refine ⟨L, S1, i, j, "work", .ref p, .tuple [.int l, d], rfl, rfl, h2.fr0 f0, hi, hj, hl S1 d m1, at2, .of_work pd, fun H3 h3 s3 => ?_⟩
  walk_at "st"
  exact k _ _ _ ⟨S1, d, m1, rfl⟩ h3 (hA.2.trans ((s2.alloc f0).trans s3))
def restR (hk : Hk X) (L : NL X) (S : NS X) (i : Nat) (S' : NS X) : Prop := hk.rest L (S.setUp i false) i S'
def spRest (hk : Hk X) (C : Addr) : Sp := fun vs H Q _ => ∃ (L : NL X) (S : NS X) (i : Nat), vs = [.ref L.root, .int i] ∧ L.C = C ∧ NetAt H L S ∧ i < L.n ∧ S.up i = true ∧ hk.Pr L (S.setUp i false) i ∧
  ∀ S' v H', restR hk L S i S' → NetAt H' L S' → Stp L S S' H H' → Q v H'
theorem len_rest {hk : Hk X} {vs : List V} {H : Hp} {Q : VK} {E : XK} (h : spRest hk C vs H Q E) : vs.length = 2 := by
  obtain ⟨L, S, i, rfl, _⟩ := h
  rfl

theorem pu_rest {hk : Hk X} (kc : KC G.K C) (q1 : MetG G 2 C "look_hand" (spLookH X C) []) {km : Nat} (hkm : km ≤ 2) (q2 : MetG G km C "after_rest" (spARest hk C) [])
    {vs : List V} {H : Hp} {Q : VK} {E : XK} (h : spRest hk C vs H Q E) : t_Net_rest G { nx := fun _ H' => Q .non H', rt := Q } (start N_Net_rest vs) H := by
  obtain ⟨L, S, i, rfl, rfl, h, hi, hu, pr, k⟩ := h
  have rt := h.rt
  have up := h.up
  have k1 := kc.c
  have k2 := kc.n2
  have uix := rg_ix (fun i => V.bl (S.up i)) hi
  rw [hu] at uix
  unfold t_Net_rest
  walk_at "st"
  refine ⟨L, S, i, rfl, rfl, h, hi, ?_⟩
  walk_at "st"
  refine x_setL up rfl (by simpa using hi) ?_
  rw [rg_set' (g := fun j => V.bl (fset S.up i false j)) (fun j _ => by unfold fset; split <;> rfl)]
  have hA := h.setUp i false
  generalize upd H L.lu (.lst ((List.range L.n).map fun j => V.bl (fset S.up i false j))) = H1 at *
  have rt1 := hA.1.rt
  walk_at "st"
  refine x_methg rt1 q2 hkm (NL.look (by decide +kernel)) ?_
  walk_at "st"
  refine ⟨L, _, i, rfl, rfl, hA.1, hi, pr, fun S1 v H2 m1 h2 s2 => ?_⟩
  exact k _ _ _ m1 h2 (hA.2.trans s2)
def comeR (hk : Hk X) (L : NL X) (S : NS X) (i j : Nat) (l : Lt) (r : List Lt) (S' : NS X) : Prop :=
  (l.1 ≠ "work" ∧ hk.ctrl L (S.setRow i j r) i j l.1 l.2 S') ∨ (l.1 = "work" ∧ ∃ x e S1, l.2 = .tuple [.int x, e] ∧ hk.bef L (S.setRow i j r) i j x S1 ∧ hk.work L ((S1.setUp j true).setPu j (S1.pu j + x)) i j x e S')
def spCome (hk : Hk X) (C : Addr) : Sp := fun vs H Q _ => ∃ (L : NL X) (S : NS X) (i j : Nat) (l : Lt) (r : List Lt), vs = [.ref L.root, .int i, .int j] ∧ L.C = C ∧ NetAt H L S ∧ i < L.n ∧ j < L.n ∧ i ≠ j ∧ S.rw i j = l :: r ∧
  (l.1 ≠ "work" → hk.Pc L (S.setRow i j r) i j l.1 l.2) ∧ (∀ x e, l.1 = "work" → l.2 = .tuple [.int x, e] → hk.Pb L (S.setRow i j r) i j x ∧ ∀ S1, hk.bef L (S.setRow i j r) i j x S1 → hk.Pw L ((S1.setUp j true).setPu j (S1.pu j + x)) i j x e) ∧
  ∀ S' H', comeR hk L S i j l r S' → NetAt H' L S' → Stp L S S' H H' → Q (.str l.1) H'
theorem len_come {hk : Hk X} {vs : List V} {H : Hp} {Q : VK} {E : XK} (h : spCome hk C vs H Q E) : vs.length = 3 := by
  obtain ⟨L, S, i, j, l, r, rfl, _⟩ := h
  rfl
theorem pu_come {hk : Hk X} (kc : KC G.K C) (q1 : MetG G 3 C "look_way" (spLookW X C) []) {ka kb kd : Nat} (hka : ka ≤ 3) (hkb : kb ≤ 3) (hkd : kd ≤ 3)
    (q2 : MetG G ka C "after_control" (spACtrl hk C) []) (q3 : MetG G kb C "before_work" (spBWork hk C) []) (q4 : MetG G kd C "after_work" (spAWork hk C) [])
    {vs : List V} {H : Hp} {Q : VK} {E : XK} (h : spCome hk C vs H Q E) : t_Net_come G { nx := fun _ H' => Q .non H', rt := Q } (start N_Net_come vs) H := by
  obtain ⟨L, S, i, j, l, r, rfl, rfl, h, hi, hj, ne, hr, pc, pw, k⟩ := h
  have rt := h.rt
  have dr := h.dr
  have k1 := kc.c
  have k2 := kc.n2
  have k3 := kc.n3
  have k4 := kc.n4
  obtain ⟨vs, r1, r2⟩ := h.row i j hi hj
  have okr := h.ok i j hi hj
  rw [hr] at r2 okr
  unfold t_Net_come
  walk_at "st"
  refine ⟨L, S, i, j, rfl, rfl, h, hi, hj, ne, ?_⟩
  walk_at "st"
  rename_i p hp
  have f0 : Fr F0 H (upd H p (.tup [.int i, .int j])) := .new hp
  refine x_dgetT (ks := [.inl (i : Int), .inl (j : Int)]) (f0.at0 dr) upd_same (h.dget hi hj) ?_
  have hA := h.fr0 f0
  have sA : Stp L S S H _ := .of f0
  generalize upd H p (.tup [.int i, .int j]) = H1 at *
  walk_at "st"
  rename_i z hz
  have f1 : Fr F0 H1 (upd H1 z (.lst [])) := .new hz
  have fA := f0.trans f1
  refine x_eqRow (fA.at0 r1) (r2.fr fA) okr upd_same ?_
  refine x_isB (x_df (by simp) ?_)
  have hB := hA.fr0 f1
  have sB := sA.alloc f1
  generalize upd H1 z (.lst []) = H2 at *
  have rt2 := hB.rt
  have dr2 := hB.dr
  walk_at "st"
  rename_i q hq
  have f2 : Fr F0 H2 (upd H2 q (.tup [.int i, .int j])) := .new hq
  refine x_dgetT (ks := [.inl (i : Int), .inl (j : Int)]) (f2.at0 dr2) upd_same (h.dget hi hj) ?_
  have fC := fA.trans f2
  have hC := hB.fr0 f2
  have sC := sB.alloc f2
  have r1c := fC.at0 r1
  have r2c := r2.fr fC
  generalize upd H2 q (.tup [.int i, .int j]) = H3 at *
  cases vs with
  | nil => cases r2c
  | cons v vs =>
  cases r2c with
  | cons a1 a2 =>
  obtain ⟨lw, ld⟩ := l
  obtain ⟨t, y1, y2, rfl, ht, b1, b2⟩ := At.tup2 a1
  cases b1.str_eq
  walk_at "st"
  refine x_pop0 r1c ?_
  have hD := hC.setRow hi hj a2 (fun x hx => okr x (List.mem_cons_of_mem _ hx))
  have tD := hD.2.fr.tup _ _ ht
  have bD := b2.fr hD.2.fr
  have sD := sC.trans hD.2
  have hD := hD.1
  generalize upd H3 (L.rws i j) (.lst vs) = H4 at *
  have rt4 := hD.rt
  walk_at "st"
  by_cases w : lw = "work"
  · subst w
    obtain ⟨x, e, ed⟩ := (okr _ List.mem_cons_self).work rfl
    dsimp only at ed
    subst ed
    obtain ⟨t2, z1, z2, rfl, ht2, c1, c2⟩ := At.tup2 bD
    cases c1.int_eq
    obtain ⟨pb, pw⟩ := pw x e rfl rfl
    walk_at "st"
    refine x_methg rt4 q3 hkb (NL.look (by decide +kernel)) ?_
    walk_at "st"
    refine ⟨L, _, i, j, x, rfl, rfl, hD, hi, hj, pb, fun S1 v1 H5 m1 h5 s5 => ?_⟩
    have rt5 := h5.rt
    have up5 := h5.up
    walk_at "st"
    refine x_setL up5 rfl (by simpa using hj) ?_
    rw [rg_set' (g := fun k => V.bl (fset S1.up j true k)) (fun k _ => by unfold fset; split <;> rfl)]
    have hE := h5.setUp j true
    have sE := (sD.trans s5).trans hE.2
    have c3 := (c2.fr s5.fr).fr hE.2.fr
    have hE := hE.1
    generalize upd H5 L.lu (.lst ((List.range L.n).map fun k => V.bl (fset S1.up j true k))) = H6 at *
    have rt6 := hE.rt
    have pu6 := hE.pu
    have pix := rg_ix (fun i => V.int (S1.pu i)) hj
    walk_at "st"
    refine x_setL pu6 rfl (by simpa using hj) ?_
    rw [rg_set' (g := fun k => V.int (fset S1.pu j (S1.pu j + x) k)) (fun k _ => by unfold fset; split <;> rfl)]
    have hF := hE.setPu j (S1.pu j + x)
    have sF := sE.trans hF.2
    have c4 := c3.fr hF.2.fr
    have hF := hF.1
    have rt7 := hF.rt
    walk_at "st"
    refine x_methg rt7 q4 hkd (NL.look (by decide +kernel)) ?_
    walk_at "st"
    refine ⟨L, _, i, j, x, z2, e, rfl, rfl, hF, hi, hj, c4, pw S1 m1, fun S2 v2 H8 m2 h8 s8 => ?_⟩
    walk_at "st"
    exact k S2 H8 (.inr ⟨rfl, x, e, S1, rfl, m1, m2⟩) h8 (sF.trans s8)
  · refine x_ndf w ?_
    walk_at "st"
    refine x_methg rt4 q2 hka (NL.look (by decide +kernel)) ?_
    walk_at "st"
    refine ⟨L, _, i, j, lw, y2, ld, rfl, rfl, hD, hi, hj, bD, pc w, fun S2 v2 H8 m2 h8 s8 => ?_⟩
    walk_at "st"
    exact k S2 H8 (.inl ⟨w, m2⟩) h8 (sD.trans s8)
end

/-! ### what a net tells -/
section
variable {X : Type} {G : En} {C : Addr}
def awk (n : Nat) (S : NS X) : List Nat := (List.range n).filter S.up
def spAwake (X : Type) (C : Addr) : Sp := fun vs H Q _ => ∃ (L : NL X) (S : NS X), vs = [.ref L.root] ∧ L.C = C ∧ NetAt H L S ∧ L.n ≤ 1000 ∧ ∀ D H', H D = none → Fr F0 H H' → H' D = some (.lst ((awk L.n S).map natV)) → Q (.ref D) H'
theorem len_awake {vs : List V} {H : Hp} {Q : VK} {E : XK} (h : spAwake X C vs H Q E) : vs.length = 1 := by
  obtain ⟨L, S, rfl, _⟩ := h
  rfl
theorem pu_awake (kc : KC G.K C) {vs : List V} {H : Hp} {Q : VK} {E : XK} (h : spAwake X C vs H Q E) : t_Net_awake G { nx := fun _ H' => Q .non H', rt := Q } (start N_Net_awake vs) H := by
  obtain ⟨L, S, rfl, rfl, h, hn, k⟩ := h
  have rt := h.rt
  have k1 := kc.c
  have k2 := kc.n1
  have k3 := kc.n2
  unfold t_Net_awake
  walk_at "st"
  refine x_rng1g (by omega) ?_
  rw [Int.toNat_natCast]
  refine lc_rngP S.up natV (by omega) (fun i H1 Kv Kn hi f g1 g2 => ?_) (fun D H' hD f e => k D H' hD f e)
  have rt1 := f.at0 h.rt
  have up1 := f.at0 h.up
  have uix := rg_ix (fun i => V.bl (S.up i)) hi
  refine ⟨rfl, ?_⟩
  walk_at "st"
  refine x_b2 (fun c => ?_) (fun c => ?_)
  · walk_at "st"
    exact g1 c _ (.refl _)
  · exact g2 c _ (.refl _)
def spPurse (X : Type) (C : Addr) : Sp := fun vs H Q _ => ∃ (L : NL X) (S : NS X) (i : Nat), vs = [.ref L.root, .int i] ∧ L.C = C ∧ NetAt H L S ∧ i < L.n ∧ Q (.int (S.pu i)) H
theorem len_purse {vs : List V} {H : Hp} {Q : VK} {E : XK} (h : spPurse X C vs H Q E) : vs.length = 2 := by
  obtain ⟨L, S, i, rfl, _⟩ := h
  rfl
theorem pu_purse (kc : KC G.K C) (q1 : MetG G 2 C "look_hand" (spLookH X C) []) {vs : List V} {H : Hp} {Q : VK} {E : XK} (h : spPurse X C vs H Q E) : t_Net_purse G { nx := fun _ H' => Q .non H', rt := Q } (start N_Net_purse vs) H := by
  obtain ⟨L, S, i, rfl, rfl, h, hi, k⟩ := h
  have rt := h.rt
  have pu := h.pu
  have k1 := kc.c
  have k2 := kc.n3
  have pix := rg_ix (fun i => V.int (S.pu i)) hi
  unfold t_Net_purse
  walk_at "st"
  refine ⟨L, S, i, rfl, rfl, h, hi, ?_⟩
  walk_at "st"
  exact k
/-- what a list of letters says, by a function of the letter -/
theorem mapped {α β : Type} (f : α → β) (d : α) : ∀ xs : List α, (List.range xs.length).map (fun i => f (xs.getD i d)) = xs.map f := range_getD f d
def spOnWay (X : Type) (C : Addr) : Sp := fun vs H Q _ => ∃ (L : NL X) (S : NS X) (i j : Nat), vs = [.ref L.root, .int i, .int j] ∧ L.C = C ∧ NetAt H L S ∧ i < L.n ∧ j < L.n ∧ i ≠ j ∧ (S.rw i j).length ≤ 2000 ∧
  ∀ D H', H D = none → Fr F0 H H' → H' D = some (.lst ((S.rw i j).map fun l => V.str l.1)) → Q (.ref D) H'
theorem len_onWay {vs : List V} {H : Hp} {Q : VK} {E : XK} (h : spOnWay X C vs H Q E) : vs.length = 3 := by
  obtain ⟨L, S, i, j, rfl, _⟩ := h
  rfl
theorem AtAll.lt {H : Hp} {vs : List V} {ls : List Lt} {i : Nat} {v : V} (h : AtAll H vs (ls.map ltD)) (e : vs[i]? = some v) : ∃ l t y, ls[i]? = some l ∧ v = .ref t ∧ H t = some (.tup [.str l.1, y]) ∧ At H y l.2 := by
  obtain ⟨d, hd, a⟩ := h.get e
  rw [List.getElem?_map] at hd
  obtain ⟨l, hl, rfl⟩ := Option.map_eq_some_iff.mp hd
  obtain ⟨t, x, y, rfl, ht, a1, a2⟩ := At.tup2 a
  cases a1.str_eq
  exact ⟨l, t, y, hl, rfl, ht, a2⟩
theorem pu_onWay (kc : KC G.K C) (q1 : MetG G 3 C "look_way" (spLookW X C) []) {vs : List V} {H : Hp} {Q : VK} {E : XK} (h : spOnWay X C vs H Q E) : t_Net_on_way G { nx := fun _ H' => Q .non H', rt := Q } (start N_Net_on_way vs) H := by
  obtain ⟨L, S, i, j, rfl, rfl, h, hi, hj, ne, hl, k⟩ := h
  have rt := h.rt
  have dr := h.dr
  have k1 := kc.c
  have k2 := kc.n4
  obtain ⟨vs, r1, r2⟩ := h.row i j hi hj
  have ln := r2.len
  rw [List.length_map] at ln
  unfold t_Net_on_way
  walk_at "st"
  refine ⟨L, S, i, j, rfl, rfl, h, hi, hj, ne, ?_⟩
  walk_at "st"
  rename_i p hp
  have f0 : Fr F0 H (upd H p (.tup [.int i, .int j])) := .new hp
  refine x_dgetT (ks := [.inl (i : Int), .inl (j : Int)]) (f0.at0 dr) upd_same (h.dget hi hj) ?_
  have r1a := f0.at0 r1
  walk_at "st"
  refine lc_lstP vs (fun _ => true) (fun t => V.str ((S.rw i j).getD t ("", .none)).1) (by omega) r1a (fun t x H1 Kv Kn hx f g1 g2 => ?_) (fun D H' hD f e => ?_)
  · obtain ⟨l, a, y, h1, rfl, h2, h3⟩ := (r2.fr (f0.trans f)).lt hx
    refine x_gtup h2 rfl ?_
    walk_at "st"
    refine ⟨rfl, lc_yes (x_t ?_)⟩
    walk_at "st"
    have := g1 rfl H1 (.refl _)
    rw [gD h1] at this
    exact this
  · rw [filt_all, ln, mapped (fun l : Lt => V.str l.1) ("", .none)] at e
    exact k D H' (f0.back0 hD) (f0.trans f) e
def ldOf : Lt → Int
  | (_, .tuple (.int x :: _)) => x
  | _ => 0
def lds (r : List Lt) : List Int := (r.filter fun l => decide (l.1 = ("work" : Str))).map ldOf
theorem range_filt {α β : Type} (b : α → Bool) (f : α → β) (d : α) : ∀ xs : List α, ((List.range xs.length).filter fun i => b (xs.getD i d)).map (fun i => f (xs.getD i d)) = (xs.filter b).map f := fun xs => by
  have e : xs = (List.range xs.length).map fun i => xs.getD i d := by
    have := range_getD (f := fun x => x) d xs
    rw [List.map_id'] at this
    exact this.symm
  conv => rhs; rw [e]
  rw [List.filter_map, List.map_map]
  rfl
end

section
variable {X : Type} {G : En} {C : Addr}
/-! ### ways, letters, quiet -/
def wys (n : Nat) (S : NS X) : List Nat := (List.range (n * n)).filter fun t => !decide (S.rw (t / n) (t % n) = [])
def WayAt (n : Nat) (H : Hp) (v : V) (t : Nat) : Prop := ∃ q, v = .ref q ∧ H q = some (.tup [.int ((t / n : Nat) : Int), .int ((t % n : Nat) : Int)])
theorem prK_at {n m i : Nat} {rws : Nat → Nat → Addr} {k : List Key} {v : V} (h : (prK n rws m)[i]? = some (k, v)) : k = [.inl ((i / n : Nat) : Int), .inl ((i % n : Nat) : Int)] ∧ v = .ref (rws (i / n) (i % n)) := by
  have l := lt_at h
  rw [prK_len] at l
  unfold prK at h
  rw [rg_ix _ l] at h
  cases h
  exact ⟨rfl, rfl⟩
def pairOf (H : Hp) : V → Int × Int
  | .ref a => match H a with
    | some (.tup [.int i, .int j]) => (i, j)
    | _ => (0, 0)
  | _ => (0, 0)
theorem paired_srt {α β : Type} {R : α → β → Prop} {P : α → α → Prop} {lt : β → β → Prop} (hp : ∀ a b s t, R a s → R b t → lt s t → P a b) : ∀ {xs : List α} {ls : List β}, Paired R xs ls → ls.Pairwise lt → xs.Pairwise P
  | _, _, .nil, _ => .nil
  | _, _, .cons h t, w => by
    obtain ⟨w1, w2⟩ := List.pairwise_cons.mp w
    refine List.pairwise_cons.mpr ⟨fun b hb => ?_, paired_srt hp t w2⟩
    obtain ⟨i, hi⟩ := List.getElem?_of_mem hb
    obtain ⟨s, hs, r⟩ := paired_get t hi
    exact hp _ _ _ _ h r (w1 s (List.mem_of_getElem? hs))
theorem paired_mem {α β : Type} {R : α → β → Prop} {xs : List α} {ls : List β} (h : Paired R xs ls) {a : α} (ha : a ∈ xs) : ∃ b ∈ ls, R a b := by
  obtain ⟨i, hi⟩ := List.getElem?_of_mem ha
  obtain ⟨s, hs, r⟩ := paired_get h hi
  exact ⟨s, List.mem_of_getElem? hs, r⟩
theorem lex_div {n s t : Nat} (h : s < t) : ¬ (t / n < s / n ∨ (t / n = s / n ∧ t % n < s % n)) := by
  rintro (z | ⟨z1, z2⟩)
  · have := Nat.div_le_div_right (c := n) (Nat.le_of_lt h)
    omega
  · have a := Nat.div_add_mod s n
    have b := Nat.div_add_mod t n
    rw [z1] at b
    omega
def spWaysN (X : Type) (C : Addr) : Sp := fun vs H Q _ => ∃ (L : NL X) (S : NS X), vs = [.ref L.root] ∧ L.C = C ∧ NetAt H L S ∧ L.n ≤ 100 ∧
  ∀ D H' xs, H D = none → Fr F0 H H' → H' D = some (.lst xs) → Paired (WayAt L.n H') xs (wys L.n S) → Q (.ref D) H'
theorem len_waysN {vs : List V} {H : Hp} {Q : VK} {E : XK} (h : spWaysN X C vs H Q E) : vs.length = 1 := by
  obtain ⟨L, S, rfl, _⟩ := h
  rfl
theorem div_lt {n t : Nat} (h : t < n * n) : t / n < n ∧ t % n < n := by
  have n0 : 0 < n := by
    rcases Nat.eq_zero_or_pos n with z | z
    · subst z; omega
    · exact z
  exact ⟨Nat.div_lt_of_lt_mul h, Nat.mod_lt _ n0⟩
theorem sq_le {n : Nat} (h : n ≤ 100) : n * n ≤ 100000 := Nat.le_trans (Nat.mul_le_mul h h) (by decide)
theorem pu_waysN (kc : KC G.K C) {vs : List V} {H : Hp} {Q : VK} {E : XK} (h : spWaysN X C vs H Q E) : t_Net_ways G { nx := fun _ H' => Q .non H', rt := Q } (start N_Net_ways vs) H := by
  obtain ⟨L, S, rfl, rfl, h, hn, k⟩ := h
  have rt := h.rt
  have dr := h.dr
  have k1 := kc.c
  have k2 := kc.n4
  have ne := h.ne
  have nd : L.root ≠ L.dr := ne.a3
  unfold t_Net_ways
  walk_at "st"
  refine x_lock L.dr dr trivial fun od => ?_
  have fz : H L.dr = some (.dT (prK L.n L.rws (L.n * L.n))) := dr
  have g0 : upd H L.dr (.frz od (.dT (prK L.n L.rws (L.n * L.n)))) L.dr = some (.frz od (.dT (prK L.n L.rws (L.n * L.n)))) := upd_same
  have gr : upd H L.dr (.frz od (.dT (prK L.n L.rws (L.n * L.n)))) L.root = some (.ins L.C L.dx (L.fs S.x)) := upd_at rt nd
  have grow : ∀ i j, i < L.n → j < L.n → ∃ vs, upd H L.dr (.frz od (.dT (prK L.n L.rws (L.n * L.n)))) (L.rws i j) = some (.lst vs) ∧ AtAll H vs ((S.rw i j).map ltD) := fun i j hi hj => by
    obtain ⟨vs, r1, r2⟩ := h.row i j hi hj
    exact ⟨vs, upd_at r1 (ne.d4 i j hi hj), r2⟩
  have ktup : ∀ b xs, H b = some (.tup xs) → upd H L.dr (.frz od (.dT (prK L.n L.rws (L.n * L.n)))) b = some (.tup xs) := fun b xs e => upd_at e (fun z => by rw [z, dr] at e; cases e)
  have unl := fun H' f => unlock_fr (H' := H') (od := od) dr trivial f
  have newD : ∀ D, upd H L.dr (.frz od (.dT (prK L.n L.rws (L.n * L.n)))) D = none → H D = none := fun D e => (upd_none.mp e).2
  generalize upd H L.dr (.frz od (.dT (prK L.n L.rws (L.n * L.n)))) = H1 at *
  walk_at "st"
  refine lc_itP (L.n * L.n) (fun t x H' => WayAt L.n H' x t) (fun t => !decide (S.rw (t / L.n) (t % L.n) = [])) (fun t v H' => WayAt L.n H' v t) (sq_le hn) (fun t v Ha Hb lk f kt => ?_) (fun t Ha ht f => ⟨f.at0 g0, by rw [prK_len]; exact ht⟩) (fun Ha f => ⟨f.at0 g0, by rw [prK_len]; exact Nat.le_refl _⟩)
    (fun t Ha x Hb y => ?_) (fun t x Ha Kv Kn ht it f g1 g2 => ?_) (fun D Ha xs hD f e pr => ?_)
  · obtain ⟨q, e1, e2⟩ := lk
    exact ⟨q, e1, kt _ _ e2⟩
  · obtain ⟨e, kk, v, q, e1, e2, e3⟩ := y
    subst e
    obtain ⟨rfl, _⟩ := prK_at e1
    exact ⟨rfl, q, e2, e3⟩
  · obtain ⟨q, rfl, hq⟩ := it
    obtain ⟨d1, d2⟩ := div_lt ht
    obtain ⟨vs, r1, r2⟩ := grow _ _ d1 d2
    have gra := f.at0 gr
    refine ⟨rfl, ?_⟩
    walk_at "st"
    refine x_dgetF (ks := [.inl ((t / L.n : Nat) : Int), .inl ((t % L.n : Nat) : Int)]) (f.at0 g0) hq (h.dget d1 d2) ?_
    walk_at "st"
    rename_i z hz
    have fz : Fr F0 Ha (upd Ha z (.lst [])) := .new hz
    refine x_neRow (fz.at0 (f.at0 r1)) (r2.keep fun b xs e => fz.tup b xs (f.tup b xs (ktup b xs e))) (h.ok _ _ d1 d2) upd_same ?_
    refine x_isB (x_nd2 (fun c => ?_) (fun c => ?_))
    · walk_at "st"
      exact g1 (by simpa using c) _ _ fz ⟨q, rfl, fz.tup _ _ hq⟩
    · exact g2 (by simpa using c) _ fz
  · refine ⟨f.at0 g0, ?_⟩
    have f' := unl Ha f
    have nDd : D ≠ L.dr := fun z => by rw [z, g0] at hD; cases hD
    have pr' : Paired (fun v t => WayAt L.n (upd Ha L.dr (.dT (prK L.n L.rws (L.n * L.n)))) v t) xs (wys L.n S) := Paired.mapP pr fun v t z => by
      obtain ⟨q, e1, e2⟩ := z
      exact ⟨q, e1, upd_at e2 (fun z => by rw [z, f.at0 g0] at e2; cases e2)⟩
    have eD : upd Ha L.dr (.dT (prK L.n L.rws (L.n * L.n))) D = some (.lst xs) := upd_at e nDd
    have hD0 := newD D hD
    generalize upd Ha L.dr (.dT (prK L.n L.rws (L.n * L.n))) = Hb at *
    walk_at "st"
    have po : ∀ v t, WayAt L.n Hb v t → pairOf Hb v = (((t / L.n : Nat) : Int), ((t % L.n : Nat) : Int)) := fun v t z => by
      obtain ⟨q, rfl, e2⟩ := z
      show (match Hb q with
        | some (.tup [.int i, .int j]) => (i, j)
        | _ => ((0 : Int), (0 : Int))) = _
      rw [e2]
    refine x_srtP (k := pairOf Hb) eD (fun x hx => ?_) (paired_srt (lt := (· < ·)) (fun a b s t ra rb hst => ?_) pr' ((List.pairwise_lt_range (n := L.n * L.n)).sublist List.filter_sublist)) fun p hp => ?_
    · obtain ⟨t, _, z⟩ := paired_mem pr' hx
      rw [po x t z]
      exact z
    · show SrtO.lexB (pairOf Hb b) (pairOf Hb a) = false
      rw [po a s ra, po b t rb]
      refine SrtO.lexB_no.mpr ?_
      have := lex_div (n := L.n) hst
      simp only [Int.ofNat_lt, Int.ofNat_inj]
      exact this
    · exact k p _ xs (f'.back0 hp) (f'.then_new hp) upd_same (Paired.mapP pr' fun v t z => by
        obtain ⟨q, e1, e2⟩ := z
        exact ⟨q, e1, upd_new e2 hp⟩)
end

section
variable {X : Type} {G : En} {C : Addr}
def cntL (w : Str) (r : List Lt) : Nat := (r.filter fun l => decide (l.1 = w)).length
def cntW (n : Nat) (S : NS X) (w : Str) : Int := ((List.range (n * n)).map fun t => (cntL w (S.rw (t / n) (t % n)) : Int)).sum
def spLettersN (X : Type) (C : Addr) : Sp := fun vs H Q _ => ∃ (L : NL X) (S : NS X) (w : Str), vs = [.ref L.root, .str w] ∧ L.C = C ∧ NetAt H L S ∧ L.n ≤ 100 ∧ (∀ i j, i < L.n → j < L.n → (S.rw i j).length ≤ 2000) ∧
  ∀ H', Fr F0 H H' → Q (.int (cntW L.n S w)) H'
theorem len_lettersN {vs : List V} {H : Hp} {Q : VK} {E : XK} (h : spLettersN X C vs H Q E) : vs.length = 2 := by
  obtain ⟨L, S, w, rfl, _⟩ := h
  rfl
theorem paired_map {α β : Type} {R : α → β → Prop} {f : β → α} (hf : ∀ a b, R a b → a = f b) : ∀ {xs : List α} {ls : List β}, Paired R xs ls → xs = ls.map f
  | _, _, .nil => rfl
  | _, _, .cons h t => by rw [List.map_cons, hf _ _ h, paired_map hf t]
theorem pu_lettersN (kc : KC G.K C) {vs : List V} {H : Hp} {Q : VK} {E : XK} (h : spLettersN X C vs H Q E) : t_Net_letters G { nx := fun _ H' => Q .non H', rt := Q } (start N_Net_letters vs) H := by
  obtain ⟨L, S, w, rfl, rfl, h, hn, hl, k⟩ := h
  have rt := h.rt
  have dr := h.dr
  have k1 := kc.c
  have k2 := kc.n4
  have ne := h.ne
  have nd : L.root ≠ L.dr := ne.a3
  unfold t_Net_letters
  walk_at "st"
  refine x_lock L.dr dr trivial fun od => ?_
  have g0 : upd H L.dr (.frz od (.dT (prK L.n L.rws (L.n * L.n)))) L.dr = some (.frz od (.dT (prK L.n L.rws (L.n * L.n)))) := upd_same
  have gr : upd H L.dr (.frz od (.dT (prK L.n L.rws (L.n * L.n)))) L.root = some (.ins L.C L.dx (L.fs S.x)) := upd_at rt nd
  have grow : ∀ i j, i < L.n → j < L.n → ∃ vs, upd H L.dr (.frz od (.dT (prK L.n L.rws (L.n * L.n)))) (L.rws i j) = some (.lst vs) ∧ AtAll H vs ((S.rw i j).map ltD) := fun i j hi hj => by
    obtain ⟨vs, r1, r2⟩ := h.row i j hi hj
    exact ⟨vs, upd_at r1 (ne.d4 i j hi hj), r2⟩
  have ktup : ∀ b xs, H b = some (.tup xs) → upd H L.dr (.frz od (.dT (prK L.n L.rws (L.n * L.n)))) b = some (.tup xs) := fun b xs e => upd_at e (fun z => by rw [z, dr] at e; cases e)
  have unl := fun H' f => unlock_fr (H' := H') (od := od) dr trivial f
  generalize upd H L.dr (.frz od (.dT (prK L.n L.rws (L.n * L.n)))) = H1 at *
  walk_at "st"
  refine lc_itP (L.n * L.n) (fun t x _ => x = .ref (L.rws (t / L.n) (t % L.n))) (fun _ => true) (fun t v _ => v = .int (cntL w (S.rw (t / L.n) (t % L.n)) : Int)) (sq_le hn) (fun t v Ha Hb lk f kt => lk) (fun t Ha ht f => ⟨f.at0 g0, by rw [prK_len]; exact ht⟩) (fun Ha f => ⟨f.at0 g0, by rw [prK_len]; exact Nat.le_refl _⟩)
    (fun t Ha x Hb y => ?_) (fun t x Ha Kv Kn ht it f g1 g2 => ?_) (fun D Ha xs hD f e pr => ?_)
  · obtain ⟨e, kk, e1⟩ := y
    exact ⟨e, (prK_at e1).2⟩
  · subst it
    obtain ⟨d1, d2⟩ := div_lt ht
    obtain ⟨vs, r1, r2⟩ := grow _ _ d1 d2
    have ln := r2.len
    rw [List.length_map] at ln
    have r1a := f.at0 r1
    have r2a : AtAll Ha vs ((S.rw (t / L.n) (t % L.n)).map ltD) := r2.keep fun b xs e => f.tup b xs (ktup b xs e)
    refine ⟨rfl, lc_yes (x_t ?_)⟩
    walk_at "st"
    refine lc_lstP vs (fun s => decide (((S.rw (t / L.n) (t % L.n)).getD s ("", .none)).1 = w)) (fun s => V.str ((S.rw (t / L.n) (t % L.n)).getD s ("", .none)).1) (by have := hl _ _ d1 d2; omega) r1a (fun s x Hb Kv2 Kn2 hx fb h1 h2 => ?_) (fun D2 Hb hD2 fb eb => ?_)
    · obtain ⟨l, a, y, q1, rfl, q2, q3⟩ := (r2a.fr fb).lt hx
      rw [gD q1] at h1 h2
      refine x_gtup q2 rfl ?_
      walk_at "st"
      refine ⟨rfl, ?_⟩
      walk_at "st"
      refine x_d2 (fun c => ?_) (fun c => ?_)
      · walk_at "st"
        exact h1 (decide_eq_true c) _ (.refl _)
      · exact h2 (decide_eq_false c) _ (.refl _)
    · rw [ln, range_filt (fun l : Lt => decide (l.1 = w)) (fun l => V.str l.1) ("", .none)] at eb
      walk_at "st"
      rw [List.length_map]
      exact g1 rfl _ _ fb rfl
  · refine ⟨f.at0 g0, ?_⟩
    have f' := unl Ha f
    have nDd : D ≠ L.dr := fun z => by rw [z, g0] at hD; cases hD
    have eD : upd Ha L.dr (.dT (prK L.n L.rws (L.n * L.n))) D = some (.lst (((List.range (L.n * L.n)).map fun t => (cntL w (S.rw (t / L.n) (t % L.n)) : Int)).map V.int)) := by
      rw [upd_at e nDd, paired_map (f := fun t => V.int (cntL w (S.rw (t / L.n) (t % L.n)) : Int)) (fun a b z => z) pr, filt_all, List.map_map]; rfl
    walk_at "st"
    refine x_sum eD ?_
    walk_at "st"
    exact k _ f'
def qui (n : Nat) (S : NS X) : Bool := decide (awk n S = []) && decide (cntW n S "work" = 0)
def spQuiet (X : Type) (C : Addr) : Sp := fun vs H Q _ => ∃ (L : NL X) (S : NS X), vs = [.ref L.root] ∧ L.C = C ∧ NetAt H L S ∧ L.n ≤ 100 ∧ (∀ i j, i < L.n → j < L.n → (S.rw i j).length ≤ 2000) ∧ ∀ H', Fr F0 H H' → Q (.bl (qui L.n S)) H'
theorem len_quiet {vs : List V} {H : Hp} {Q : VK} {E : XK} (h : spQuiet X C vs H Q E) : vs.length = 1 := by
  obtain ⟨L, S, rfl, _⟩ := h
  rfl
theorem pu_quiet (q1 : MetG G 1 C "awake" (spAwake X C) []) (q2 : MetG G 1 C "letters" (spLettersN X C) []) {vs : List V} {H : Hp} {Q : VK} {E : XK} (h : spQuiet X C vs H Q E) : t_Net_quiet G { nx := fun _ H' => Q .non H', rt := Q } (start N_Net_quiet vs) H := by
  obtain ⟨L, S, rfl, rfl, h, hn, hl, k⟩ := h
  have rt := h.rt
  unfold t_Net_quiet
  walk_at "st"
  refine ⟨L, S, rfl, rfl, h, by omega, fun D H1 hD f e => ?_⟩
  walk_at "st"
  rename_i z hz
  have fz : Fr F0 H1 (upd H1 z (.lst [])) := .new hz
  have e1 : upd H1 z (.lst []) D = some (.lst (((awk L.n S).map fun (i : Nat) => (i : Int)).map V.int)) := by
    rw [fz.at0 e, List.map_map]; rfl
  refine x_eqL encInt (lst_ints (SqL.of e1)) (lst_nil encInt upd_same) ?_
  have fA := f.trans fz
  have hA := h.fr0 fA
  have rtA := hA.rt
  generalize upd H1 z (.lst []) = H2 at *
  have ee : decide ((awk L.n S).map (fun (i : Nat) => (i : Int)) = []) = decide (awk L.n S = []) := by simp
  rw [ee]
  unfold qui at k
  by_cases c : awk L.n S = []
  · rw [decide_eq_true c] at k ⊢
    walk_at "st"
    refine ⟨L, S, "work", rfl, rfl, hA, hn, hl, fun H3 f3 => ?_⟩
    walk_at "st"
    have := k H3 (fA.trans f3)
    rw [Bool.true_and] at this
    exact this
  · rw [decide_eq_false c] at k ⊢
    walk_at "st"
    exact k H2 fA
end

/-! ### a new net -/
section
variable {X : Type} {G : En} {C : Addr}
def spLookS (K : PySem.W.Frag) : Sp := fun vs H Q _ => ∃ (l : Addr) (n : Nat) (st : List Int), vs = [.ref l, .int n] ∧ H l = some (.lst (st.map V.int)) ∧ n ≤ 63 ∧ st ≠ [] ∧ (∀ s ∈ st, 0 ≤ s ∧ s ≤ (n : Int) - 1) ∧ st.Pairwise (· < ·) ∧ st.length ≤ 63 ∧ ∀ H', Fr F0 H H' → Q .non H'
theorem all_true {H : Hp} {D : Addr} {n : Nat} {f : Nat → Bool} (hf : ∀ i, i < n → f i = true) (e : H D = some (.lst ((List.range n).map fun i => V.bl (f i)))) : H D = some (.lst ((List.replicate n true).map V.bl)) := by
  rw [e]
  congr 2
  rw [List.map_replicate]
  refine List.ext_getElem? fun i => ?_
  by_cases c : i < n
  · rw [rg_ix _ c, hf i c, List.getElem?_replicate, if_pos c]
  · rw [List.getElem?_eq_none (by simpa using c), List.getElem?_eq_none (by simpa using c)]
theorem ok_lookS (W : Wd G) (q1 : CalG G 1 "is_whole" spIsWhole []) : CalG G 2 "look_start" (spLookS G.K) [] := by
  refine run_look_start W (fun vs H Q E h => ?_) (fun vs H Q E h => ?_)
  · obtain ⟨l, n, st, rfl, _⟩ := h
    rfl
  · obtain ⟨l, n, st, rfl, hl, hn, ne, hb, so, h63, k⟩ := h
    unfold t_look_start
    walk_at "st"
    rename_i z hz
    have f0 : Fr F0 H (upd H z (.lst [])) := .new hz
    refine x_neL encInt (lst_ints (SqL.of (f0.at0 hl))) (lst_nil encInt upd_same) ?_
    have hl1 := f0.at0 hl
    generalize upd H z (.lst []) = H1 at *
    refine ⟨_, rfl, x_ndf ne ?_⟩
    walk_at "st"
    refine lc_lstP (st.map V.int) (fun _ => true) (fun i => .bl (decide (0 ≤ st.getD i 0 ∧ st.getD i 0 ≤ (n : Int) - 1))) (by rw [List.length_map]; omega) hl1 (fun i v H2 Kv Kn hi f g1 g2 => ?_) (fun D H2 hD f e => ?_)
    · rw [List.getElem?_map] at hi
      obtain ⟨s, hs, rfl⟩ := Option.map_eq_some_iff.mp hi
      refine ⟨rfl, lc_yes (x_t ?_)⟩
      walk_at "st"
      refine ⟨_, _, _, rfl, ?_⟩
      have := g1 rfl _ (.refl _)
      simp only [gD hs] at this
      exact this
    rw [List.length_map, filt_all] at e
    walk_at "st"
    refine x_all (all_true (f := fun i => decide (0 ≤ st.getD i 0 ∧ st.getD i 0 ≤ (n : Int) - 1)) (fun i hi => decide_eq_true ?_) e) ?_
    · obtain ⟨s, hs⟩ := at_lt hi
      rw [gD hs]
      exact hb s (List.mem_of_getElem? hs)
    rw [show (List.replicate st.length true).all id = true by simp]
    have hl2 := f.at0 hl1
    walk_at "st"
    refine x_set (SqL.of hl2) (by omega) fun p m hm hp => ?_
    have f3 : Fr F0 H2 (upd H2 p (SetO G.w p (fun j => decide (j ∈ st)) m)) := .new hp
    walk_at "st"
    refine x_srtSet upd_same (by omega) fun ms q s1 s2 hq => ?_
    have ems : ms = st := srt_unique s1 so s2
    subst ems
    have f4 := f3.then_new (o := .lst (ms.map V.int)) hq
    walk_at "st"
    refine x_neL encInt (lst_ints (SqL.of upd_same)) (lst_ints (SqL.of (f4.at0 hl2))) ?_
    walk_at "st"
    exact k _ ((f0.trans f).trans f4)
theorem map_rep0 {n : Nat} {v : V} : List.replicate n v = (List.range n).map fun _ => v := by
  refine List.ext_getElem? fun i => ?_
  by_cases c : i < n
  · rw [rg_ix _ c, List.getElem?_replicate, if_pos c]
  · rw [List.getElem?_eq_none (by simpa using c), List.getElem?_eq_none (by simpa using c)]
theorem ndx {α : Type} {xs : List α} (h : xs.Nodup) {i j : Nat} {x : α} (hi : xs[i]? = some x) (hj : xs[j]? = some x) : i = j := by
  obtain ⟨li, ei⟩ := List.getElem?_eq_some_iff.mp hi
  obtain ⟨lj, ej⟩ := List.getElem?_eq_some_iff.mp hj
  have P := List.pairwise_iff_getElem.mp h
  rcases Nat.lt_trichotomy i j with z | z | z
  · exact absurd (ei.trans ej.symm) (P i j li lj z)
  · exact z
  · exact absurd (ej.trans ei.symm) (P j i lj li z)
def S0 (st : List Int) : NS Unit := ⟨fun i => decide ((i : Int) ∈ st), fun _ => 100, fun _ _ => [], ()⟩
structure Plain (L : NL Unit) : Prop where
  xf : L.xf = fun _ => []
  xc : L.xc = fun _ => []
structure RowsMade (H0 : Hp) (dr : Addr) (n : Nat) (ps : List Addr) (H : Hp) : Prop where
  fr : Fr (fun b => b = dr) H0 H
  nd : (dr :: ps).Nodup
  nw : ∀ p ∈ ps, H0 p = none ∧ H p = some (.lst [])
  at_ : H dr = some (.dT (prK n (fun i j => ps.getD (i * n + j) 0) ps.length))
theorem prK_congr {n m : Nat} {f g : Nat → Nat → Addr} (h : ∀ t, t < m → f (t / n) (t % n) = g (t / n) (t % n)) : prK n f m = prK n g m :=
  List.map_congr_left fun t ht => by rw [h t (List.mem_range.mp ht)]
theorem RowsMade.step {H0 H : Hp} {dr p q : Addr} {n i j : Nat} {ps : List Addr} (h : RowsMade H0 dr n ps H) (hl : ps.length = i * n + j) (hj : j < n) (hp : H p = none) (hq : upd H p (.lst []) q = none) :
    upd (upd H p (.lst [])) q (.tup [.int i, .int j]) dr = some (.dT (prK n (fun i j => ps.getD (i * n + j) 0) ps.length)) ∧
    RowsMade H0 dr n (ps ++ [p]) (upd (upd (upd H p (.lst [])) q (.tup [.int i, .int j])) dr (.dT (putK (prK n (fun i j => ps.getD (i * n + j) 0) ps.length) [.inl (i : Int), .inl (j : Int)] (.ref p)))) := by
  have pdr : dr ≠ p := ne_of_none h.at_ hp
  have e1 : upd H p (.lst []) dr = some (.dT (prK n (fun i j => ps.getD (i * n + j) 0) ps.length)) := upd_at h.at_ pdr
  have e2 : upd (upd H p (.lst [])) q (.tup [.int i, .int j]) dr = some (.dT (prK n (fun i j => ps.getD (i * n + j) 0) ps.length)) := upd_new e1 hq
  refine ⟨e2, ((h.fr.then_new hp).then_new hq).then_put e2 trivial rfl, ?_, fun r hr => ?_, ?_⟩
  · have nd := List.nodup_cons.mp h.nd
    have pn : p ∉ ps := fun m => by rw [(h.nw p m).2] at hp; cases hp
    rw [List.nodup_cons, List.mem_append, List.nodup_append]
    refine ⟨?_, nd.2, by simp, fun a ha b hb => ?_⟩
    · rintro (z | z)
      · exact nd.1 z
      · exact pdr (List.mem_singleton.mp z)
    · rw [List.mem_singleton] at hb; subst hb
      exact fun z => pn (z ▸ ha)
  · rcases List.mem_append.mp hr with z | z
    · have g := (h.nw r z).2
      have rd : r ≠ dr := fun e => (List.nodup_cons.mp h.nd).1 (e ▸ z)
      exact ⟨(h.nw r z).1, upd_at (upd_new (upd_new g hp) hq) rd⟩
    · rw [List.mem_singleton] at z; subst z
      refine ⟨?_, upd_at (upd_new upd_same hq) pdr.symm⟩
      cases c : H0 r with
      | none => rfl
      | some o => rw [h.fr.keep r o c pdr.symm] at hp; cases hp
  · rw [upd_same]
    congr 2
    have e3 : prK n (fun i j => ps.getD (i * n + j) 0) ps.length = prK n (fun i j => (ps ++ [p]).getD (i * n + j) 0) (i * n + j) := by
      rw [hl]
      refine prK_congr fun t ht => ?_
      have dm := Nat.div_add_mod t n
      rw [Nat.mul_comm] at dm
      show ps.getD (t / n * n + t % n) 0 = (ps ++ [p]).getD (t / n * n + t % n) 0
      rw [dm, List.getD_eq_getElem?_getD, List.getD_eq_getElem?_getD, List.getElem?_append_left (by omega)]
    have e4 : (p : Addr) = (ps ++ [p]).getD (i * n + j) 0 := by
      rw [List.getD_eq_getElem?_getD, ← hl, List.getElem?_append_right (Nat.le_refl _)]; simp
    rw [e3, List.length_append, List.length_singleton, hl]
    have e5 := prK_put (n := n) (rws := fun i j => (ps ++ [p]).getD (i * n + j) 0) (i := i) hj
    rw [← e4] at e5
    exact e5
def spInitN (C : Addr) : Sp := fun vs H Q _ => ∃ (x l dx : Addr) (n : Nat) (st : List Int), vs = [.ref x, .int n, .ref l] ∧ H x = some (.ins C dx []) ∧ H l = some (.lst (st.map V.int)) ∧ 2 ≤ n ∧ n ≤ 8 ∧ st ≠ [] ∧ (∀ s ∈ st, 0 ≤ s ∧ s ≤ (n : Int) - 1) ∧ st.Pairwise (· < ·) ∧ st.length ≤ 63 ∧
  ∀ (L : NL Unit) H', L.root = x → L.C = C → L.dx = dx → L.n = n → Plain L → NetAt H' L (S0 st) → (∀ b, NM L (S0 st) b → b = x ∨ H b = none) → Fr (fun b => b = x) H H' → Q .non H'
theorem len_initN {vs : List V} {H : Hp} {Q : VK} {E : XK} (h : spInitN C vs H Q E) : vs.length = 3 := by
  obtain ⟨x, l, dx, n, st, rfl, _⟩ := h
  rfl
theorem pu_initN (kc : KC G.K C) (q1 : CalG G 2 "look_number" spLookN []) (q2 : CalG G 2 "look_start" (spLookS G.K) []) {vs : List V} {H : Hp} {Q : VK} {E : XK} (h : spInitN C vs H Q E) : t_Net_init G { nx := fun _ H' => Q .non H', rt := Q } (start N_Net_init vs) H := by
  obtain ⟨x, l, dx, n, st, rfl, hx, hl, n2, n8, ne, hb, so, h63, k⟩ := h
  have k1 := kc.c
  have k2 := kc.n1
  have k3 := kc.n2
  have k4 := kc.n3
  have k5 := kc.n4
  unfold t_Net_init
  walk_at "st"
  refine ⟨_, _, _, rfl, by omega, by omega, ?_⟩
  walk_at "st"
  refine ⟨l, n, st, rfl, hl, by omega, ne, hb, so, h63, fun H1 f1 => ?_⟩
  have hx1 := f1.at0 hx
  have hl1 := f1.at0 hl
  have lx : l ≠ x := fun z => by rw [z, hx] at hl; cases hl
  walk_at "st"
  have hl2 : upd H1 x (.ins C dx (putF "many" (.int n) [])) l = some (.lst (st.map V.int)) := upd_at hl1 lx
  have hx2 : upd H1 x (.ins C dx (putF "many" (.int n) [])) x = some (.ins C dx [("many", .int n)]) := upd_same
  have f2 : Fr (fun b => b = x) H (upd H1 x (.ins C dx (putF "many" (.int n) []))) := f1.any.then_put hx1 trivial rfl
  generalize upd H1 x (.ins C dx (putF "many" (.int n) [])) = H2 at *
  refine x_rng1g (by omega) ?_
  rw [Int.toNat_natCast]
  refine lc_rngP (fun _ => true) (fun i => .bl (decide ((i : Int) ∈ st))) (by omega) (fun i H3 Kv Kn hi f g1 g2 => ?_) (fun lu H3 hlu f3 e3 => ?_)
  · have hl3 := f.at0 hl2
    refine ⟨rfl, lc_yes (x_t ?_)⟩
    walk_at "st"
    exact g1 rfl _ (.refl _)
  rw [filt_all] at e3
  have hx3 := f3.at0 hx2
  have nlu := f2.backx hx2 hlu
  walk_at "st"
  have lux : lu ≠ x := (ne_of_none hx2 hlu).symm
  have hx4 : upd H3 x (.ins C dx (putF "up" (.ref lu) [("many", .int n)])) x = some (.ins C dx [("many", .int n), ("up", .ref lu)]) := upd_same
  have hu4 : upd H3 x (.ins C dx (putF "up" (.ref lu) [("many", .int n)])) lu = some (.lst ((List.range n).map fun (i : Nat) => V.bl (decide ((i : Int) ∈ st)))) := upd_at e3 lux
  have f4 : Fr (fun b => b = x) H (upd H3 x (.ins C dx (putF "up" (.ref lu) [("many", .int n)]))) := (f2.trans f3.any).then_put hx3 trivial rfl
  rename_i p1 hp1
  generalize upd H3 x (.ins C dx (putF "up" (.ref lu) [("many", .int n)])) = H4 at *
  refine x_rep1 upd_same (by omega) fun lp hlp => ?_
  have f5 := (f4.then_new (o := .lst [.int 100]) hp1).then_new (o := .lst (List.replicate n (.int 100))) hlp
  have hx5 := upd_new (o := .lst (List.replicate n (.int 100))) (upd_new (o := .lst [.int 100]) hx4 hp1) hlp
  have hu5 := upd_new (o := .lst (List.replicate n (.int 100))) (upd_new (o := .lst [.int 100]) hu4 hp1) hlp
  have hp5 : upd (upd H4 p1 (.lst [.int 100])) lp (.lst (List.replicate n (.int 100))) lp = _ := upd_same
  have nlp := (f4.then_new (o := .lst [.int 100]) hp1).backx (upd_new hx4 hp1) hlp
  have lpu : lu ≠ lp := ne_of_none (upd_new (o := .lst [.int 100]) hu4 hp1) hlp
  generalize upd (upd H4 p1 (.lst [.int 100])) lp (.lst (List.replicate n (.int 100))) = H5 at *
  walk_at "st"
  have lpx : lp ≠ x := (ne_of_none (upd_new (o := .lst [.int 100]) hx4 hp1) hlp).symm
  have hx6 : upd H5 x (.ins C dx (putF "purses" (.ref lp) [("many", .int n), ("up", .ref lu)])) x = some (.ins C dx [("many", .int n), ("up", .ref lu), ("purses", .ref lp)]) := upd_same
  have hu6 : upd H5 x (.ins C dx (putF "purses" (.ref lp) [("many", .int n), ("up", .ref lu)])) lu = _ := upd_at hu5 lux
  have hp6 : upd H5 x (.ins C dx (putF "purses" (.ref lp) [("many", .int n), ("up", .ref lu)])) lp = _ := upd_at hp5 lpx
  have f6 : Fr (fun b => b = x) H (upd H5 x (.ins C dx (putF "purses" (.ref lp) [("many", .int n), ("up", .ref lu)]))) := f5.then_put hx5 trivial rfl
  rename_i dr hdr
  generalize upd H5 x (.ins C dx (putF "purses" (.ref lp) [("many", .int n), ("up", .ref lu)])) = H6 at *
  have ndr := f6.backx hx6 hdr
  have drx : dr ≠ x := (ne_of_none hx6 hdr).symm
  have dru : lu ≠ dr := ne_of_none hu6 hdr
  have drp : lp ≠ dr := ne_of_none hp6 hdr
  have hx7 : upd (upd H6 dr (.dT [])) x (.ins C dx (putF "rows" (.ref dr) (putF "purses" (.ref lp) [("many", .int n), ("up", .ref lu)]))) x = some (.ins C dx [("many", .int n), ("up", .ref lu), ("purses", .ref lp), ("rows", .ref dr)]) := upd_same
  have hu7 : upd (upd H6 dr (.dT [])) x (.ins C dx (putF "rows" (.ref dr) (putF "purses" (.ref lp) [("many", .int n), ("up", .ref lu)]))) lu = _ := upd_at (upd_new hu6 hdr) lux
  have hp7 : upd (upd H6 dr (.dT [])) x (.ins C dx (putF "rows" (.ref dr) (putF "purses" (.ref lp) [("many", .int n), ("up", .ref lu)]))) lp = _ := upd_at (upd_new hp6 hdr) lpx
  have hd7 : upd (upd H6 dr (.dT [])) x (.ins C dx (putF "rows" (.ref dr) (putF "purses" (.ref lp) [("many", .int n), ("up", .ref lu)]))) dr = some (.dT []) := upd_at upd_same drx
  have f7 : Fr (fun b => b = x) H (upd (upd H6 dr (.dT [])) x (.ins C dx (putF "rows" (.ref dr) (putF "purses" (.ref lp) [("many", .int n), ("up", .ref lu)])))) := (f6.then_new hdr).then_put (upd_new hx6 hdr) trivial rfl
  generalize upd (upd H6 dr (.dT [])) x (.ins C dx (putF "rows" (.ref dr) (putF "purses" (.ref lp) [("many", .int n), ("up", .ref lu)]))) = H7 at *
  refine x_rng1g (by omega) ?_
  rw [Int.toNat_natCast]
  refine for_rng (fun i σ H' => ∃ v3 v4 ps, σ = [some (.ref x), some (.int n), some (.ref l), v3, v4] ∧ ps.length = i * n ∧ RowsMade H7 dr n ps H') ?_ ?_ ?_
  · exact ⟨none, none, [], rfl, by simp, .refl _, by simp, by simp, by rw [hd7]; rfl⟩
  · rintro i σ Ha hi ⟨v3, v4, ps, rfl, hps, R⟩
    walk_at "st"
    refine x_rng1g (by omega) ?_
    rw [Int.toNat_natCast]
    refine for_rng (fun j σ H' => ∃ v4 ps, σ = [some (.ref x), some (.int n), some (.ref l), some (.int i), v4] ∧ ps.length = i * n + j ∧ RowsMade H7 dr n ps H') ?_ ?_ ?_
    · exact ⟨v4, ps, rfl, by omega, R⟩
    · rintro j σ Hb hj ⟨v4, ps, rfl, hps, R⟩
      have hxb := R.fr.keep _ _ hx7 (fun z => drx z.symm)
      walk_at "st"
      rename_i p hp q hq
      have st := R.step hps hj hp hq
      have lb : ps.length < 100000 := by
        have : i * n ≤ 7 * 8 := Nat.mul_le_mul (by omega) n8
        omega
      refine x_dputT (ks := [.inl (i : Int), .inl (j : Int)]) st.1 upd_same (by rw [prK_len]; exact lb) ?_
      exact ⟨_, ps ++ [p], rfl, by rw [List.length_append, hps]; rfl, st.2⟩
    · rintro σ Hb ⟨v4, ps, rfl, hps, R⟩
      exact ⟨_, _, ps, rfl, by rw [hps, Nat.add_mul, Nat.one_mul], R⟩
  · rintro σ Hz ⟨v3, v4, ps, rfl, hps, R⟩
    have nxd : x ≠ dr := fun z => drx z.symm
    have nd := List.nodup_cons.mp R.nd
    have ix : ∀ i j, i < n → j < n → ∃ p, ps[i * n + j]? = some p ∧ ps.getD (i * n + j) 0 = p := fun i j hi hj => by
      have : (i + 1) * n ≤ n * n := Nat.mul_le_mul_right _ hi
      rw [Nat.add_mul] at this
      obtain ⟨p, hp⟩ := at_lt (xs := ps) (i := i * n + j) (by omega)
      exact ⟨p, hp, gD hp⟩
    have nw7 : ∀ p ∈ ps, p ≠ x ∧ p ≠ lu ∧ p ≠ lp ∧ p ≠ dr ∧ H p = none := fun p hp => by
      have g := (R.nw p hp).1
      exact ⟨(ne_of_none hx7 g).symm, (ne_of_none hu7 g).symm, (ne_of_none hp7 g).symm, (ne_of_none hd7 g).symm, f7.backx hx7 g⟩
    have fz : Fr (fun b => b = x) H Hz := f7.trans' (R.fr) fun c hc => .inr (by rw [hc]; exact ndr)
    refine k ⟨n, C, dx, x, lu, lp, dr, fun i j => ps.getD (i * n + j) 0, fun _ => [], fun _ => [], fun _ _ => True, fun _ _ z => (nomatch z), fun _ _ _ => rfl, fun _ _ _ _ _ => trivial⟩ Hz rfl rfl rfl rfl ⟨rfl, rfl⟩ ?_ ?_ fz
    · refine ⟨R.fr.keep _ _ hx7 nxd, R.fr.keep _ _ hu7 dru, ?_, ?_, fun i j hi hj => ?_, (fun p z => nomatch z), trivial, (fun i j _ _ l z => nomatch z), ⟨fun z => lux z.symm, fun z => lpx z.symm, nxd, fun i j hi hj => ?_, lpu, dru, fun i j hi hj => ?_, drp, fun i j hi hj => ?_, fun i j hi hj => ?_, fun a b c d ha hb' hc hd z => ?_, (fun p z => nomatch z), (fun p z => nomatch z)⟩⟩
      · rw [R.fr.keep _ _ hp7 drp, map_rep0]; rfl
      · rw [R.at_, hps]
      · obtain ⟨p, hp, e⟩ := ix i j hi hj
        exact ⟨[], by show Hz (ps.getD (i * n + j) 0) = _; rw [e]; exact (R.nw p (List.mem_of_getElem? hp)).2, .nil⟩
      · obtain ⟨p, hp, e⟩ := ix i j hi hj
        show ps.getD (i * n + j) 0 ≠ _; rw [e]; exact (nw7 p (List.mem_of_getElem? hp)).1
      · obtain ⟨p, hp, e⟩ := ix i j hi hj
        show ps.getD (i * n + j) 0 ≠ _; rw [e]; exact (nw7 p (List.mem_of_getElem? hp)).2.1
      · obtain ⟨p, hp, e⟩ := ix i j hi hj
        show ps.getD (i * n + j) 0 ≠ _; rw [e]; exact (nw7 p (List.mem_of_getElem? hp)).2.2.1
      · obtain ⟨p, hp, e⟩ := ix i j hi hj
        show ps.getD (i * n + j) 0 ≠ _; rw [e]; exact (nw7 p (List.mem_of_getElem? hp)).2.2.2.1
      · obtain ⟨p, hp, e⟩ := ix a b ha hb'
        obtain ⟨q, hq, e'⟩ := ix c d hc hd
        have z : ps.getD (a * n + b) 0 = ps.getD (c * n + d) 0 := z
        rw [e, e'] at z
        subst z
        have := ndx nd.2 hp hq
        have m1 : (a * n + b) % n = b := by rw [Nat.mul_comm, Nat.mul_add_mod, Nat.mod_eq_of_lt hb']
        have m2 : (c * n + d) % n = d := by rw [Nat.mul_comm, Nat.mul_add_mod, Nat.mod_eq_of_lt hd]
        have d1 : (a * n + b) / n = a := by rw [Nat.mul_comm, Nat.mul_add_div (by omega), Nat.div_eq_of_lt hb', Nat.add_zero]
        have d2 : (c * n + d) / n = c := by rw [Nat.mul_comm, Nat.mul_add_div (by omega), Nat.div_eq_of_lt hd, Nat.add_zero]
        rw [this] at m1 d1
        exact ⟨d1.symm.trans d2, m1.symm.trans m2⟩
    · intro b hb
      rcases hb with rfl | rfl | rfl | rfl | ⟨i, j, hi, hj, rfl⟩ | ⟨p, hp, rfl⟩
      · exact .inl rfl
      · exact .inr nlu
      · exact .inr nlp
      · exact .inr ndr
      · obtain ⟨p, hp, e⟩ := ix i j hi hj
        exact .inr (by show H (ps.getD (i * n + j) 0) = none; rw [e]; exact (nw7 p (List.mem_of_getElem? hp)).2.2.2.2)
      · exact nomatch hp
end

/-! ### the hooks of the plain net; all methods of a class -/
section
variable {X : Type} {G : En} {C : Addr} {hk : Hk X}
theorem len_mark {vs : List V} {H : Hp} {Q : VK} {E : XK} (h : spMark hk C vs H Q E) : vs.length = 3 := by
  obtain ⟨L, S, i, j, rfl, _⟩ := h
  rfl
theorem len_aRest {vs : List V} {H : Hp} {Q : VK} {E : XK} (h : spARest hk C vs H Q E) : vs.length = 2 := by
  obtain ⟨L, S, i, rfl, _⟩ := h
  rfl
theorem len_aWork {vs : List V} {H : Hp} {Q : VK} {E : XK} (h : spAWork hk C vs H Q E) : vs.length = 5 := by
  obtain ⟨L, S, i, j, x, v, e, rfl, _⟩ := h
  rfl
theorem len_aCtrl {vs : List V} {H : Hp} {Q : VK} {E : XK} (h : spACtrl hk C vs H Q E) : vs.length = 5 := by
  obtain ⟨L, S, i, j, w, v, d, rfl, _⟩ := h
  rfl
theorem len_bWork {vs : List V} {H : Hp} {Q : VK} {E : XK} (h : spBWork hk C vs H Q E) : vs.length = 4 := by
  obtain ⟨L, S, i, j, x, rfl, _⟩ := h
  rfl
theorem pu_markN (hr : ∀ L S i j, hk.mark L S i j S .none) {vs : List V} {H : Hp} {Q : VK} {E : XK} (h : spMark hk C vs H Q E) : t_Net_mark G { nx := fun _ H' => Q .non H', rt := Q } (start N_Net_mark vs) H := by
  obtain ⟨L, S, i, j, rfl, _, h, _, _, _, k⟩ := h
  unfold t_Net_mark
  walk_at "st"
  exact k S _ _ H (hr L S i j) ⟨rfl, by decide +kernel⟩ .non h (.refl L S H)
theorem pu_aRestN (hr : ∀ L S i, hk.rest L S i S) {vs : List V} {H : Hp} {Q : VK} {E : XK} (h : spARest hk C vs H Q E) : t_Net_after_rest G { nx := fun _ H' => Q .non H', rt := Q } (start N_Net_after_rest vs) H := by
  obtain ⟨L, S, i, rfl, _, h, _, _, k⟩ := h
  unfold t_Net_after_rest
  walk_at "st"
  exact k S _ H (hr L S i) h (.refl L S H)
theorem pu_aWorkN (hr : ∀ L S i j x e, hk.work L S i j x e S) {vs : List V} {H : Hp} {Q : VK} {E : XK} (h : spAWork hk C vs H Q E) : t_Net_after_work G { nx := fun _ H' => Q .non H', rt := Q } (start N_Net_after_work vs) H := by
  obtain ⟨L, S, i, j, x, v, e, rfl, _, h, _, _, _, _, k⟩ := h
  unfold t_Net_after_work
  walk_at "st"
  exact k S _ H (hr L S i j x e) h (.refl L S H)
theorem pu_aCtrlN (hr : ∀ L S i j w d, hk.ctrl L S i j w d S) {vs : List V} {H : Hp} {Q : VK} {E : XK} (h : spACtrl hk C vs H Q E) : t_Net_after_control G { nx := fun _ H' => Q .non H', rt := Q } (start N_Net_after_control vs) H := by
  obtain ⟨L, S, i, j, w, v, d, rfl, _, h, _, _, _, _, k⟩ := h
  unfold t_Net_after_control
  walk_at "st"
  exact k S _ H (hr L S i j w d) h (.refl L S H)
theorem pu_bWorkN (hr : ∀ L S i j x, hk.bef L S i j x S) {vs : List V} {H : Hp} {Q : VK} {E : XK} (h : spBWork hk C vs H Q E) : t_Net_before_work G { nx := fun _ H' => Q .non H', rt := Q } (start N_Net_before_work vs) H := by
  obtain ⟨L, S, i, j, x, rfl, _, h, _, _, _, k⟩ := h
  unfold t_Net_before_work
  walk_at "st"
  exact k S _ H (hr L S i j x) h (.refl L S H)
structure NetM (G : En) {X : Type} (hk : Hk X) (C : Addr) : Prop where
  send : MetG G 4 C "send" (spSend hk C) []
  rest : MetG G 3 C "rest" (spRest hk C) []
  come : MetG G 4 C "come" (spCome hk C) []
  awake : MetG G 1 C "awake" (spAwake X C) []
  purse : MetG G 3 C "purse" (spPurse X C) []
  ways : MetG G 1 C "ways" (spWaysN X C) []
end

/-! ### all methods of Ring -/
theorem kc_Ring {G : En} (W : Wd G) : KC G.K (cl_Ring G.K) := ⟨W.c_Ring, W.na_Ring_many, W.na_Ring_up, W.na_Ring_purses, W.na_Ring_rows⟩
section
variable {G : En} {X : Type}
theorem lkh_Ring (W : Wd G) : MetG G 2 (cl_Ring G.K) "look_hand" (spLookH X (cl_Ring G.K)) [] := run_Ring_look_hand W (fun _ _ _ _ h => len_lookH h) fun _ _ _ _ h => pu_lookH (kc_Ring W) (ok_is_whole W) h
theorem lkw_Ring (W : Wd G) : MetG G 3 (cl_Ring G.K) "look_way" (spLookW X (cl_Ring G.K)) [] := run_Ring_look_way W (fun _ _ _ _ h => len_lookW h) fun _ _ _ _ h => pu_lookW (lkh_Ring W) h
theorem put_Ring (W : Wd G) : MetG G 1 (cl_Ring G.K) "put" (spPutL X (cl_Ring G.K)) [] := run_Ring_put W (fun _ _ _ _ h => len_putL h) fun _ _ _ _ h => pu_putL (kc_Ring W) h
theorem awake_Ring (W : Wd G) : MetG G 1 (cl_Ring G.K) "awake" (spAwake X (cl_Ring G.K)) [] := run_Ring_awake W (fun _ _ _ _ h => len_awake h) fun _ _ _ _ h => pu_awake (kc_Ring W) h
theorem onway_Ring (W : Wd G) : MetG G 4 (cl_Ring G.K) "on_way" (spOnWay X (cl_Ring G.K)) [] := run_Ring_on_way W (fun _ _ _ _ h => len_onWay h) fun _ _ _ _ h => pu_onWay (kc_Ring W) (lkw_Ring W) h
theorem letters_Ring (W : Wd G) : MetG G 1 (cl_Ring G.K) "letters" (spLettersN X (cl_Ring G.K)) [] := run_Ring_letters W (fun _ _ _ _ h => len_lettersN h) fun _ _ _ _ h => pu_lettersN (kc_Ring W) h
theorem quiet_Ring (W : Wd G) : MetG G 2 (cl_Ring G.K) "quiet" (spQuiet X (cl_Ring G.K)) [] := run_Ring_quiet W (fun _ _ _ _ h => len_quiet h) fun _ _ _ _ h => pu_quiet (awake_Ring W) (letters_Ring W) h
theorem netM_Ring (W : Wd G) {hk : Hk X} {km kr ka kb kd : Nat} (b1 : km ≤ 3) (b2 : kr ≤ 2) (b3 : kd ≤ 3) (b4 : ka ≤ 3) (b5 : kb ≤ 3)
    (h1 : MetG G km (cl_Ring G.K) "mark" (spMark hk (cl_Ring G.K)) []) (h2 : MetG G kr (cl_Ring G.K) "after_rest" (spARest hk (cl_Ring G.K)) []) (h3 : MetG G kd (cl_Ring G.K) "after_work" (spAWork hk (cl_Ring G.K)) [])
    (h4 : MetG G ka (cl_Ring G.K) "after_control" (spACtrl hk (cl_Ring G.K)) []) (h5 : MetG G kb (cl_Ring G.K) "before_work" (spBWork hk (cl_Ring G.K)) []) : NetM G hk (cl_Ring G.K) := by
  have c1 := ok_lookN W (ok_is_whole W)
  have kc := kc_Ring W
  exact ⟨run_Ring_send W (fun _ _ _ _ h => len_send h) fun _ _ _ _ h => pu_send kc c1 (lkw_Ring W) b1 h1 (put_Ring W) h, run_Ring_rest W (fun _ _ _ _ h => len_rest h) fun _ _ _ _ h => pu_rest kc (lkh_Ring W) b2 h2 h,
    run_Ring_come W (fun _ _ _ _ h => len_come h) fun _ _ _ _ h => pu_come kc (lkw_Ring W) b4 b5 b3 h4 h5 h3 h, awake_Ring W, run_Ring_purse W (fun _ _ _ _ h => len_purse h) fun _ _ _ _ h => pu_purse kc (lkh_Ring W) h,
    run_Ring_ways W (fun _ _ _ _ h => len_waysN h) fun _ _ _ _ h => pu_waysN kc h⟩
end

theorem At.tupN {H : Hp} {v : V} {ds : List PyData} (h : At H v (.tuple ds)) : ∃ a vs, v = .ref a ∧ H a = some (.tup vs) ∧ AtAll H vs ds := by
  cases h with
  | tup h a => exact ⟨_, _, rfl, h, a⟩
theorem Fr.then_ins {F : Addr → Prop} {H H' : Hp} {p : Addr} {o : HO} (a : Fr F H H') (e : ∃ C dx fs, H' p = some (.ins C dx fs)) (hF : F p) : Fr F H (upd H' p o) := by
  obtain ⟨C, dx, fs, e⟩ := e
  exact a.then_put e trivial hF
/-! ### nets with more of their own -/
section
variable {X : Type} {H H1 H2 : Hp} {L : NL X} {S S' : NS X}
def NS.setX (S : NS X) (x : X) : NS X := { S with x := x }
theorem xc_old {x' : X} (e : (L.xc x').map Prod.fst = (L.xc S.x).map Prod.fst) {p : Addr × HO} (hp : p ∈ L.xc x') : ∃ q ∈ L.xc S.x, q.1 = p.1 := by
  have : p.1 ∈ (L.xc S.x).map Prod.fst := by rw [← e]; exact List.mem_map.mpr ⟨p, hp, rfl⟩
  exact List.mem_map.mp this
theorem NM.congr (e : (L.xc S'.x).map Prod.fst = (L.xc S.x).map Prod.fst) {b : Addr} (h : NM L S' b) : NM L S b := by
  rcases h with h | h | h | h | h | ⟨p, hp, rfl⟩
  · exact .inl h
  · exact .inr (.inl h)
  · exact .inr (.inr (.inl h))
  · exact .inr (.inr (.inr (.inl h)))
  · exact .inr (.inr (.inr (.inr (.inl h))))
  · obtain ⟨q, hq, e2⟩ := xc_old e hp
    exact .inr (.inr (.inr (.inr (.inr ⟨q, hq, e2.symm⟩))))
theorem NetNe.congr (e : (L.xc S'.x).map Prod.fst = (L.xc S.x).map Prod.fst) (n : NetNe L S) : NetNe L S' where
  a1 := n.a1
  a2 := n.a2
  a3 := n.a3
  a4 := n.a4
  b2 := n.b2
  b3 := n.b3
  b4 := n.b4
  c3 := n.c3
  c4 := n.c4
  d4 := n.d4
  inj := n.inj
  x1 := fun p hp => by
    obtain ⟨q, hq, e2⟩ := xc_old e hp
    rw [← e2]
    exact n.x1 q hq
  x2 := fun p hp => by
    obtain ⟨q, hq, e2⟩ := xc_old e hp
    rw [← e2]
    exact n.x2 q hq
/-- one of its own objects is written -/
theorem NetAt.setXc (h : NetAt H L S) {x' : X} {a : Addr} {o' : HO} (ad : (L.xc x').map Prod.fst = (L.xc S.x).map Prod.fst) (ha : ∃ o, (a, o) ∈ L.xc S.x) (fs : L.xf x' = L.xf S.x)
    (xc : ∀ p ∈ L.xc x', p = (a, o') ∨ (p ∈ L.xc S.x ∧ p.1 ≠ a)) (xk : ∀ H', (∀ b xs, H b = some (.tup xs) → H' b = some (.tup xs)) → L.xk x' H') :
    NetAt (upd H a o') L (S.setX x') ∧ Stp L S (S.setX x') H (upd H a o') := by
  obtain ⟨o, ho⟩ := ha
  have n := h.ne
  have e := h.xc _ ho
  have f : Fr (NM L S) H (upd H a o') := .put e (L.nt _ _ ho) (.xc ho)
  have x1 := n.x1 _ ho
  have x2 := n.x2 _ ho
  refine ⟨⟨?_, upd_at h.up x1.2.1.symm, upd_at h.pu x1.2.2.1.symm, upd_at h.dr x1.2.2.2.symm, fun i j hi hj => ?_, fun p hp => ?_, xk _ f.tup, h.ok, n.congr ad⟩, ⟨f, fun b hb => .inl (NM.congr ad hb)⟩⟩
  · have : L.fs x' = L.fs S.x := by show _ :: _ :: _ :: _ :: L.xf x' = _ :: _ :: _ :: _ :: L.xf S.x; rw [fs]
    show upd H a o' L.root = some (.ins L.C L.dx (L.fs x'))
    rw [this]
    exact upd_at h.rt x1.1.symm
  · obtain ⟨vs, h1, h2⟩ := h.row i j hi hj
    exact ⟨vs, upd_at h1 (x2 i j hi hj), h2.fr f⟩
  · rcases xc p hp with rfl | ⟨z1, z2⟩
    · exact upd_same
    · exact upd_at (h.xc p z1) z2
/-- its own fields are written -/
theorem NetAt.setFs (h : NetAt H L S) {x' : X} (xc : L.xc x' = L.xc S.x) (xk : ∀ H', (∀ b xs, H b = some (.tup xs) → H' b = some (.tup xs)) → L.xk x' H') :
    NetAt (upd H L.root (.ins L.C L.dx (L.fs x'))) L (S.setX x') ∧ Stp L S (S.setX x') H (upd H L.root (.ins L.C L.dx (L.fs x'))) := by
  have n := h.ne
  have f : Fr (NM L S) H (upd H L.root (.ins L.C L.dx (L.fs x'))) := .put h.rt trivial (.rt L S)
  have ad : (L.xc (S.setX x').x).map Prod.fst = (L.xc S.x).map Prod.fst := by show (L.xc x').map _ = _; rw [xc]
  refine ⟨⟨upd_same, upd_at h.up n.a1.symm, upd_at h.pu n.a2.symm, upd_at h.dr n.a3.symm, fun i j hi hj => ?_, fun p hp => ?_, xk _ f.tup, h.ok, n.congr ad⟩, ⟨f, fun b hb => .inl (NM.congr ad hb)⟩⟩
  · obtain ⟨vs, h1, h2⟩ := h.row i j hi hj
    exact ⟨vs, upd_at h1 (n.a4 i j hi hj), h2.fr f⟩
  · have hp : p ∈ L.xc S.x := xc ▸ hp
    exact upd_at (h.xc p hp) (n.x1 p hp).1
/-- a net made by Net.__init__, with more put to it -/
theorem NetAt.extend {L0 : NL Unit} {T : NS Unit} (h : NetAt H1 L0 T) (pl : Plain L0) (e1 : L.n = L0.n) (e2 : L.root = L0.root) (e3 : L.lp = L0.lp) (e4 : L.dr = L0.dr) (e5 : L.rws = L0.rws) (f : Fr (fun b => b = L0.root) H1 H2)
    (rt : H2 L.root = some (.ins L.C L.dx (L.fs S.x))) (up : H2 L.lu = some (.lst ((List.range L.n).map fun i => V.bl (S.up i)))) (lu : L.lu = L0.lu ∨ H1 L.lu = none) (epu : S.pu = T.pu) (erw : S.rw = T.rw)
    (xc : ∀ p ∈ L.xc S.x, H2 p.1 = some p.2 ∧ H1 p.1 = none ∧ p.1 ≠ L.lu) (xk : L.xk S.x H2) : NetAt H2 L S ∧ ∀ b, NM L S b → NM L0 T b ∨ H1 b = none := by
  have n := h.ne
  obtain ⟨LN, LC, LDX, LR, LLU, LLP, LDR, LRWS, XF, XC, XK, NT, NMM, KP⟩ := L
  obtain ⟨SU, SP, SR, SX⟩ := S
  dsimp only at e1 e2 e3 e4 e5 epu erw lu rt up xc xk
  subst e1 e2 e3 e4 e5 epu erw
  have lun : ∀ {b : Addr} {o : HO}, H1 b = some o → b ≠ L0.lu → b ≠ LLU := fun {b o} e q z => by
    rcases lu with y | y
    · exact q (z.trans y)
    · rw [z, y] at e; cases e
  have old : ∀ {p : Addr × HO}, p ∈ XC SX → ∀ {b : Addr} {o : HO}, H1 b = some o → p.1 ≠ b := fun {p} hp {b o} e z => by
    have := (xc p hp).2.1
    rw [z, e] at this; cases this
  refine ⟨⟨rt, up, f.keep _ _ h.pu n.a2.symm, f.keep _ _ h.dr n.a3.symm, fun i j hi hj => ?_, fun p hp => (xc p hp).1, xk, h.ok, ⟨lun h.rt n.a1, n.a2, n.a3, n.a4, (lun h.pu n.b2.symm).symm, (lun h.dr n.b3.symm).symm, fun i j hi hj => ?_, n.c3, n.c4, n.d4, n.inj, fun p hp => ⟨old hp h.rt, (xc p hp).2.2, old hp h.pu, old hp h.dr⟩, fun p hp i j hi hj => ?_⟩⟩, fun b hb => ?_⟩
  · obtain ⟨vs, h1, h2⟩ := h.row i j hi hj
    exact ⟨vs, f.keep _ _ h1 (n.a4 i j hi hj), h2.fr f⟩
  · obtain ⟨vs, h1, h2⟩ := h.row i j hi hj
    exact lun h1 (n.b4 i j hi hj)
  · obtain ⟨vs, h1, h2⟩ := h.row i j hi hj
    exact (old hp h1).symm
  · rcases hb with rfl | rfl | rfl | rfl | ⟨i, j, hi, hj, rfl⟩ | ⟨p, hp, rfl⟩
    · exact .inl (.rt L0 T)
    · rcases lu with y | y
      · exact .inl (.inr (.inl y))
      · exact .inr y
    · exact .inl (.lp L0 T)
    · exact .inl (.dr L0 T)
    · exact .inl (.row hi hj)
    · exact .inr (xc p hp).2.1
end
/-- a comprehension over a range, test and element only allocate; the element is like what is said -/
theorem lc_rngL {n : Nat} {σ : Stt} {H1 : Hp} {Q : VK} {g : TG} {tt : TT} {te : TE} {ws : List Nat} (bf : Nat → Bool) (Like : Nat → V → Hp → Prop) (hn : n ≤ 100000)
    (hL : ∀ i v H H', Like i v H → (∀ b xs, H b = some (.tup xs) → H' b = some (.tup xs)) → Like i v H')
    (hs : ∀ i H (Kv : V → Hp → Prop) (Kn : Hp → Prop), i < n → Fr F0 H1 H → (bf i = true → ∀ v H', Fr F0 H H' → Like i v H' → Kv v H') → (bf i = false → ∀ H', Fr F0 H H' → Kn H') →
      g (.int (i : Int)) (wipe σ ws) H fun σ2 H2 => wipe σ2 ws = wipe σ ws ∧ tt σ2 H2 fun b H3 => if b = true then te σ2 H3 Kv else Kn H3)
    (hd : ∀ Dd H (xs : List V), H1 Dd = none → Fr F0 H1 H → H Dd = some (.lst xs) → Paired (fun v i => Like i v H) xs ((List.range n).filter bf) → Q (.ref Dd) H) : LcG g tt te ws σ Q (Itr 0 n) H1 := by
  refine lc_rng (fun Dd i H => ∃ xs : List V, Made H1 Dd xs H ∧ Paired (fun v i => Like i v H) xs ((List.range i).filter bf)) (fun Dd hD => ⟨[], ⟨.new hD, upd_same⟩, .nil⟩) (fun Dd i H hD hi p => ?_) (fun Dd H hD p => ?_)
  · obtain ⟨xs, ⟨p1, p2⟩, pr⟩ := p
    have lift : ∀ {H' : Hp} {l : List Nat}, (∀ b ys, H b = some (.tup ys) → H' b = some (.tup ys)) → Paired (fun v i => Like i v H) xs l → Paired (fun v i => Like i v H') xs l := fun k q => Paired.mapP q fun v i z => hL i v _ _ z k
    have ln : xs.length ≤ i := by rw [Paired.length pr]; exact Nat.le_trans (List.length_filter_le _ _) (by simp)
    refine hs i H (fun y H4 => ∃ acc, H4 Dd = some (.lst acc) ∧ acc.length < sizeLine ∧ ∃ xs : List V, Made H1 Dd xs (upd H4 Dd (.lst (acc ++ [y]))) ∧ Paired (fun v j => Like j v (upd H4 Dd (.lst (acc ++ [y])))) xs ((List.range (i + 1)).filter bf)) (fun H3 => ∃ xs : List V, Made H1 Dd xs H3 ∧ Paired (fun v j => Like j v H3) xs ((List.range (i + 1)).filter bf)) hi p1 (fun hb v H' f lk => ?_) (fun hb H' f => ?_)
    · refine ⟨xs, f.at0 p2, Nat.lt_of_le_of_lt ln (Nat.lt_of_lt_of_le hi (sl1000 hn)), xs ++ [v], ⟨(p1.trans f).then_put_new hD, upd_same⟩, ?_⟩
      have kt : ∀ b ys, H' b = some (.tup ys) → upd H' Dd (.lst (xs ++ [v])) b = some (.tup ys) := fun b ys e => upd_at e (fun z => by rw [z, f.at0 p2] at e; cases e)
      rw [List.range_succ, List.filter_append, List.filter_cons_of_pos (by simpa using hb)]
      exact Paired.snoc (lift (fun b ys e => kt b ys (f.tup b ys e)) pr) (hL i v _ _ lk kt)
    · refine ⟨xs, ⟨p1.trans f, f.at0 p2⟩, ?_⟩
      rw [List.range_succ, List.filter_append, List.filter_cons_of_neg (by simpa using hb), List.filter_nil, List.append_nil]
      exact lift f.tup pr
  · obtain ⟨xs, m, pr⟩ := p; exact hd Dd H xs hD m.1 m.2 pr

/-! ### a ring -/
structure RX where
  count : Nat → Int
  black : Nat → Bool
  holder : Option Nat
  bears : Int
  dark : Bool
  done : Bool
def hdV : Option Nat → V
  | none => .non
  | some i => .int (i : Int)
def rgXf (lc lb : Addr) (x : RX) : List (Str × V) := [("count", .ref lc), ("black", .ref lb), ("holder", hdV x.holder), ("bears", .int x.bears), ("dark", .bl x.dark), ("done", .bl x.done)]
def rgXc (n : Nat) (lc lb : Addr) (x : RX) : List (Addr × HO) := [(lc, .lst ((List.range n).map fun i => V.int (x.count i))), (lb, .lst ((List.range n).map fun i => V.bl (x.black i)))]
structure RgL (L : NL RX) (lc lb : Addr) : Prop where
  xf : L.xf = rgXf lc lb
  xc : L.xc = rgXc L.n lc lb
  xk : ∀ x H, L.xk x H
  ne : lc ≠ lb
def cnR (S : NS RX) (i : Nat) (v : Int) : NS RX := S.setX { S.x with count := fset S.x.count i v }
def blR (S : NS RX) (i : Nat) (b : Bool) : NS RX := S.setX { S.x with black := fset S.x.black i b }
def dnR (S : NS RX) : NS RX := S.setX { S.x with done := true }
def hoR (S : NS RX) (h : Option Nat) : NS RX := S.setX { S.x with holder := h }
def coR (S : NS RX) (j : Nat) (b : Int) (d : Bool) : NS RX := S.setX { S.x with holder := some j, bears := b, dark := d }
def prv (n i : Nat) : Nat := (i + n - 1) % n
abbrev tokL (b : Int) (d : Bool) : Lt := ("token", .tuple [.int b, .bool d])
def tells (S : NS RX) (i : Nat) : Prop := i = 0 ∧ S.x.dark = false ∧ S.x.black 0 = false ∧ S.x.bears + S.x.count 0 = 0
theorem ntk : ¬ ("token" : Str) = "work" := by decide +kernel
theorem nkt : ¬ ("work" : Str) = "token" := by decide +kernel
instance (S : NS RX) (i : Nat) : Decidable (tells S i) := by unfold tells; infer_instance
def passR (n : Nat) (S : NS RX) (i : Nat) : NS RX :=
  if tells S i then dnR S else (hoR (blR S i false) none).put i (prv n i) (if i = 0 then tokL 0 false else tokL (S.x.bears + S.x.count i) (S.x.dark || S.x.black i))
def hkR : Hk RX where
  mark := fun _ S i _ S' d => S' = cnR S i (S.x.count i + 1) ∧ d = .none
  rest := fun _ S _ S' => S' = S
  work := fun _ S _ j _ _ S' => S' = blR (cnR S j (S.x.count j - 1)) j true
  ctrl := fun _ S _ j _ d S' => ∃ b k, d = .tuple [.int b, .bool k] ∧ S' = coR S j b k
  bef := fun _ S _ _ _ S' => S' = S
  Pm := fun L _ _ _ => ∃ lc lb, RgL L lc lb
  Pr := fun _ _ _ => True
  Pw := fun L _ _ _ _ _ => ∃ lc lb, RgL L lc lb
  Pc := fun L _ _ _ _ d => (∃ lc lb, RgL L lc lb) ∧ ∃ b k, d = .tuple [.int b, .bool k]
  Pb := fun _ _ _ _ _ => True
section
variable {G : En} {C : Addr} {H : Hp} {L : NL RX} {S : NS RX} {lc lb : Addr}
theorem RgL.mc (t : RgL L lc lb) (x : RX) : (lc, HO.lst ((List.range L.n).map fun i => V.int (x.count i))) ∈ L.xc x := by rw [t.xc]; exact List.mem_cons_self
theorem RgL.mb (t : RgL L lc lb) (x : RX) : (lb, HO.lst ((List.range L.n).map fun i => V.bl (x.black i))) ∈ L.xc x := by rw [t.xc]; exact List.mem_cons_of_mem _ List.mem_cons_self
theorem RgL.fs (t : RgL L lc lb) (x : RX) : L.fs x = ([("many", .int L.n), ("up", .ref L.lu), ("purses", .ref L.lp), ("rows", .ref L.dr), ("count", .ref lc), ("black", .ref lb), ("holder", hdV x.holder), ("bears", .int x.bears), ("dark", .bl x.dark), ("done", .bl x.done)] : List (Str × V)) := by
  unfold NL.fs
  rw [t.xf]; rfl
theorem RgL.rt (t : RgL L lc lb) (h : NetAt H L S) : H L.root = some (.ins L.C L.dx [("many", .int L.n), ("up", .ref L.lu), ("purses", .ref L.lp), ("rows", .ref L.dr), ("count", .ref lc), ("black", .ref lb), ("holder", hdV S.x.holder), ("bears", .int S.x.bears), ("dark", .bl S.x.dark), ("done", .bl S.x.done)]) := by
  rw [← t.fs]; exact h.rt
theorem RgL.cn (t : RgL L lc lb) (h : NetAt H L S) (i : Nat) (v : Int) : NetAt (upd H lc (.lst ((List.range L.n).map fun j => V.int (fset S.x.count i v j)))) L (cnR S i v) ∧ Stp L S (cnR S i v) H (upd H lc (.lst ((List.range L.n).map fun j => V.int (fset S.x.count i v j)))) :=
  h.setXc (by rw [t.xc]; rfl) ⟨_, t.mc _⟩ (by rw [t.xf]; rfl) (fun p hp => by
    rw [t.xc] at hp ⊢
    rcases List.mem_cons.mp hp with rfl | hp
    · exact .inl rfl
    · rw [List.mem_singleton.mp hp]
      exact .inr ⟨List.mem_cons_of_mem _ List.mem_cons_self, t.ne.symm⟩) fun H' _ => t.xk _ _
theorem RgL.bl (t : RgL L lc lb) (h : NetAt H L S) (i : Nat) (b : Bool) : NetAt (upd H lb (.lst ((List.range L.n).map fun j => V.bl (fset S.x.black i b j)))) L (blR S i b) ∧ Stp L S (blR S i b) H (upd H lb (.lst ((List.range L.n).map fun j => V.bl (fset S.x.black i b j)))) :=
  h.setXc (by rw [t.xc]; rfl) ⟨_, t.mb _⟩ (by rw [t.xf]; rfl) (fun p hp => by
    rw [t.xc] at hp ⊢
    rcases List.mem_cons.mp hp with rfl | hp
    · exact .inr ⟨List.mem_cons_self, t.ne⟩
    · rw [List.mem_singleton.mp hp]
      exact .inl rfl) fun H' _ => t.xk _ _
theorem RgL.fl (t : RgL L lc lb) (h : NetAt H L S) (x : RX) (e1 : x.count = S.x.count) (e2 : x.black = S.x.black) : NetAt (upd H L.root (.ins L.C L.dx (L.fs x))) L (S.setX x) ∧ Stp L S (S.setX x) H (upd H L.root (.ins L.C L.dx (L.fs x))) :=
  h.setFs (by rw [t.xc]; unfold rgXc; rw [e1, e2]) fun H' _ => t.xk _ _
structure RgF (K : PySem.W.Frag) (C : Addr) : Prop where
  c : Cls K C
  up : NoAttr K C "up"
  count : NoAttr K C "count"
  black : NoAttr K C "black"
  holder : NoAttr K C "holder"
  bears : NoAttr K C "bears"
  dark : NoAttr K C "dark"
  done : NoAttr K C "done"
  many : NoAttr K C "many"
theorem rgF (W : Wd G) : RgF G.K (cl_Ring G.K) := ⟨W.c_Ring, W.na_Ring_up, W.na_Ring_count, W.na_Ring_black, W.na_Ring_holder, W.na_Ring_bears, W.na_Ring_dark, W.na_Ring_done, W.na_Ring_many⟩
theorem mark_Ring (W : Wd G) : MetG G 1 (cl_Ring G.K) "mark" (spMark hkR (cl_Ring G.K)) [] := by
  refine run_Ring_mark W (fun vs H Q E h => len_mark h) (fun vs H Q E h => ?_)
  obtain ⟨L, S, i, j, rfl, eC, h, hi, hj, ⟨lc, lb, t⟩, k⟩ := h
  obtain ⟨k1, n1, n2, n3, n4, n5, n6, n7, n8⟩ := eC ▸ rgF W
  have rt := t.rt h
  have ho := h.xc _ (t.mc S.x)
  dsimp only at ho
  have oix := rg_ix (fun i => V.int (S.x.count i)) hi
  unfold t_Ring_mark
  walk_at "st"
  refine x_setL ho rfl (by simpa using hi) ?_
  rw [rg_set' (g := fun j => V.int (fset S.x.count i (S.x.count i + 1) j)) (fun j _ => by unfold fset; split <;> rfl)]
  have hU := t.cn h i (S.x.count i + 1)
  walk_at "st"
  exact k _ _ _ _ ⟨rfl, rfl⟩ ⟨rfl, by decide +kernel⟩ .non hU.1 hU.2
theorem aRest_Ring (W : Wd G) : MetG G 1 (cl_Ring G.K) "after_rest" (spARest hkR (cl_Ring G.K)) [] :=
  run_Ring_after_rest W (fun _ _ _ _ h => len_aRest h) fun _ _ _ _ h => pu_aRestN (hk := hkR) (fun _ _ _ => rfl) h
theorem bWork_Ring (W : Wd G) : MetG G 1 (cl_Ring G.K) "before_work" (spBWork hkR (cl_Ring G.K)) [] :=
  run_Ring_before_work W (fun _ _ _ _ h => len_bWork h) fun _ _ _ _ h => pu_bWorkN (hk := hkR) (fun _ _ _ _ _ => rfl) h
theorem aWork_Ring (W : Wd G) : MetG G 1 (cl_Ring G.K) "after_work" (spAWork hkR (cl_Ring G.K)) [] := by
  refine run_Ring_after_work W (fun vs H Q E h => len_aWork h) (fun vs H Q E h => ?_)
  obtain ⟨L, S, i, j, x, v, e, rfl, eC, h, hi, hj, hv, ⟨lc, lb, t⟩, k⟩ := h
  obtain ⟨k1, n1, n2, n3, n4, n5, n6, n7, n8⟩ := eC ▸ rgF W
  have rt := t.rt h
  have ho := h.xc _ (t.mc S.x)
  dsimp only at ho
  have oix := rg_ix (fun i => V.int (S.x.count i)) hj
  unfold t_Ring_after_work
  walk_at "st"
  refine x_setL ho rfl (by simpa using hj) ?_
  rw [rg_set' (g := fun k => V.int (fset S.x.count j (S.x.count j - 1) k)) (fun j _ => by unfold fset; split <;> rfl)]
  have hU := t.cn h j (S.x.count j - 1)
  have rt2 := t.rt hU.1
  have hb := hU.1.xc _ (t.mb _)
  have hb : upd H lc (.lst ((List.range L.n).map fun k => V.int (fset S.x.count j (S.x.count j - 1) k))) lb = some (.lst ((List.range L.n).map fun i => V.bl (S.x.black i))) := hb
  walk_at "st"
  refine x_setL hb rfl (by simpa using hj) ?_
  rw [rg_set' (g := fun k => V.bl (fset S.x.black j true k)) (fun j _ => by unfold fset; split <;> rfl)]
  have hV := t.bl hU.1 j true
  walk_at "st"
  exact k _ _ _ rfl hV.1 (hU.2.trans hV.2)
theorem aCtrl_Ring (W : Wd G) : MetG G 1 (cl_Ring G.K) "after_control" (spACtrl hkR (cl_Ring G.K)) [] := by
  refine run_Ring_after_control W (fun vs H Q E h => len_aCtrl h) (fun vs H Q E h => ?_)
  obtain ⟨L, S, i, j, w, v, d, rfl, eC, h, hi, hj, hv, ⟨⟨lc, lb, t⟩, b, dk, rfl⟩, k⟩ := h
  obtain ⟨k1, n1, n2, n3, n4, n5, n6, n7, n8⟩ := eC ▸ rgF W
  have rt := t.rt h
  obtain ⟨a, vs, rfl, ha, al⟩ := At.tupN hv
  cases al with | cons b1 al => cases al with | cons b2 al =>
  cases al
  cases b1.int_eq
  cases b2
  have na : a ≠ L.root := fun z => by rw [z, rt] at ha; cases ha
  unfold t_Ring_after_control
  walk_at "st"
  have h1 := t.fl h { S.x with holder := some j } rfl rfl
  rw [t.fs] at h1
  have h2 := t.fl h1.1 { S.x with holder := some j, bears := b } rfl rfl
  rw [t.fs] at h2
  have h3 := t.fl h2.1 { S.x with holder := some j, bears := b, dark := dk } rfl rfl
  rw [t.fs] at h3
  exact k _ _ _ ⟨b, dk, rfl, rfl⟩ h3.1 (h1.2.trans (h2.2.trans h3.2))
theorem netM_Rg (W : Wd G) : NetM G hkR (cl_Ring G.K) :=
  netM_Ring W (by decide) (by decide) (by decide) (by decide) (by decide) (mark_Ring W) (aRest_Ring W) (aWork_Ring W) (aCtrl_Ring W) (bWork_Ring W)
def spTold (C : Addr) : Sp := fun vs H Q _ => ∃ (L : NL RX) (S : NS RX) (lc lb : Addr), vs = [.ref L.root] ∧ L.C = C ∧ NetAt H L S ∧ RgL L lc lb ∧ Q (.bl S.x.done) H
theorem told_Ring (W : Wd G) : MetG G 1 (cl_Ring G.K) "told" (spTold (cl_Ring G.K)) [] := by
  refine run_Ring_told W (fun vs H Q E h => ?_) (fun vs H Q E h => ?_)
  · obtain ⟨L, S, lc, lb, rfl, _⟩ := h
    rfl
  obtain ⟨L, S, lc, lb, rfl, eC, h, t, k⟩ := h
  obtain ⟨k1, n1, n2, n3, n4, n5, n6, n7, n8⟩ := eC ▸ rgF W
  have rt := t.rt h
  unfold t_Ring_told
  walk_at "st"
  exact k
def spTok (C : Addr) : Sp := fun vs H Q _ => ∃ (L : NL RX) (S : NS RX) (lc lb : Addr), vs = [.ref L.root] ∧ L.C = C ∧ NetAt H L S ∧ RgL L lc lb ∧ Q (hdV S.x.holder) H
theorem tok_Ring (W : Wd G) : MetG G 1 (cl_Ring G.K) "token" (spTok (cl_Ring G.K)) [] := by
  refine run_Ring_token W (fun vs H Q E h => ?_) (fun vs H Q E h => ?_)
  · obtain ⟨L, S, lc, lb, rfl, _⟩ := h
    rfl
  obtain ⟨L, S, lc, lb, rfl, eC, h, t, k⟩ := h
  obtain ⟨k1, n1, n2, n3, n4, n5, n6, n7, n8⟩ := eC ▸ rgF W
  have rt := t.rt h
  unfold t_Ring_token
  walk_at "st"
  exact k
def spCol (C : Addr) : Sp := fun vs H Q _ => ∃ (L : NL RX) (S : NS RX) (lc lb : Addr) (i : Nat), vs = [.ref L.root, .int i] ∧ L.C = C ∧ NetAt H L S ∧ RgL L lc lb ∧ i < L.n ∧ Q (.str (if S.x.black i then "black" else "white")) H
theorem col_Ring (W : Wd G) : MetG G 3 (cl_Ring G.K) "colour" (spCol (cl_Ring G.K)) [] := by
  have q1 : MetG G 2 (cl_Ring G.K) "look_hand" (spLookH RX (cl_Ring G.K)) [] := lkh_Ring W
  refine run_Ring_colour W (fun vs H Q E h => ?_) (fun vs H Q E h => ?_)
  · obtain ⟨L, S, lc, lb, i, rfl, _⟩ := h
    rfl
  obtain ⟨L, S, lc, lb, i, rfl, eC, h, t, hi, k⟩ := h
  rw [← eC] at q1
  obtain ⟨k1, n1, n2, n3, n4, n5, n6, n7, n8⟩ := eC ▸ rgF W
  have rt := t.rt h
  have hb := h.xc _ (t.mb S.x)
  dsimp only at hb
  have bix := rg_ix (fun i => V.bl (S.x.black i)) hi
  unfold t_Ring_colour
  walk_at "st"
  refine ⟨L, S, i, rfl, rfl, h, hi, ?_⟩
  walk_at "st"
  refine x_b2 (fun z => ?_) (fun z => ?_)
  · rw [z, if_pos rfl] at k
    walk_at "st"
    exact k
  · rw [z, if_neg Bool.false_ne_true] at k
    walk_at "st"
    exact k
theorem prv_int {n i : Nat} (hn : 0 < n) : ((i : Int) - 1) % (n : Int) = ((prv n i : Nat) : Int) := by
  unfold prv
  rw [show ((i : Int) - 1) % (n : Int) = ((i : Int) - 1 + n) % n by rw [Int.add_emod_right], show (i : Int) - 1 + n = ((i + n - 1 : Nat) : Int) by omega]
  rfl
def spPass (C : Addr) : Sp := fun vs H Q _ => ∃ (L : NL RX) (S : NS RX) (lc lb : Addr) (i : Nat), vs = [.ref L.root, .int i] ∧ L.C = C ∧ NetAt H L S ∧ RgL L lc lb ∧ i < L.n ∧ S.x.holder = some i ∧ S.x.done = false ∧ S.up i = false ∧ (S.rw i (prv L.n i)).length ≤ 1000 ∧
  ∀ v H', NetAt H' L (passR L.n S i) → Stp L S (passR L.n S i) H H' → Q v H'
theorem pass_Ring (W : Wd G) : MetG G 3 (cl_Ring G.K) "pass_on" (spPass (cl_Ring G.K)) [] := by
  have q1 : MetG G 2 (cl_Ring G.K) "look_hand" (spLookH RX (cl_Ring G.K)) [] := lkh_Ring W
  have q2 : MetG G 1 (cl_Ring G.K) "put" (spPutL RX (cl_Ring G.K)) [] := put_Ring W
  refine run_Ring_pass_on W (fun vs H Q E h => ?_) (fun vs H Q E h => ?_)
  · obtain ⟨L, S, lc, lb, i, rfl, _⟩ := h
    rfl
  obtain ⟨L, S, lc, lb, i, rfl, eC, h, t, hi, eh, ed, eu, el, k⟩ := h
  rw [← eC] at q1 q2
  obtain ⟨k1, n1, n2, n3, n4, n5, n6, n7, n8⟩ := eC ▸ rgF W
  have rt := t.rt h
  rw [eh, ed] at rt
  have rt : H L.root = some (.ins L.C L.dx [("many", .int L.n), ("up", .ref L.lu), ("purses", .ref L.lp), ("rows", .ref L.dr), ("count", .ref lc), ("black", .ref lb), ("holder", .int (i : Int)), ("bears", .int S.x.bears), ("dark", .bl S.x.dark), ("done", .bl false)]) := rt
  have up := h.up
  have ho := h.xc _ (t.mc S.x)
  have hb := h.xc _ (t.mb S.x)
  dsimp only at ho hb
  have uix := rg_ix (fun i => V.bl (S.up i)) hi
  rw [eu] at uix
  have oix := rg_ix (fun i => V.int (S.x.count i)) hi
  have bix := rg_ix (fun i => V.bl (S.x.black i)) hi
  have h0 : 0 < L.n := by omega
  unfold t_Ring_pass_on
  walk_at "st"
  refine ⟨L, S, i, rfl, rfl, h, hi, ?_⟩
  walk_at "sq"
  with_reducible refine x_ifs ?_
  walk_at "sq"
  with_reducible refine x_ifs ?_
  walk_at "sq"
  by_cases te : tells S i
  · have e : passR L.n S i = dnR S := if_pos te
    rw [e] at k
    obtain ⟨rfl, t1, t2, t3⟩ := te
    rw [t1] at rt
    have bix : ((List.range L.n).map fun i => V.bl (S.x.black i))[0]? = some (.bl false) := by rw [← t2]; exact bix
    walk_at "st"
    have h1 := t.fl h { S.x with done := true } rfl rfl
    rw [t.fs, eh, t1] at h1
    exact k _ _ h1.1 h1.2
  have e : passR L.n S i = (hoR (blR S i false) none).put i (prv L.n i) (if i = 0 then tokL 0 false else tokL (S.x.bears + S.x.count i) (S.x.dark || S.x.black i)) := if_neg te
  rw [e] at k
  refine x_sj (fun σ' H' => ∃ w, σ' = [some (.ref L.root), some (.int i), some w] ∧ Fr F0 H H' ∧ At H' w (if i = 0 then tokL 0 false else tokL (S.x.bears + S.x.count i) (S.x.dark || S.x.black i)).2) (fun N hN => ?_) ?_
  · walk_at "st"
    refine x_d2 (fun z => ?_) (fun z => ?_)
    · have z : i = 0 := by omega
      subst z
      have fin : ∀ N' : Stt → Hp → Prop, (∀ σ H, N' σ H → True) → True := fun _ _ => trivial
      walk_at "sq"
      refine x_sj (fun σ' H' => σ' = [some (.ref L.root), some (.int (0 : Nat)), none] ∧ H' = H) (fun N2 hN2 => ?_) ?_
      · walk_at "st"
        cases c1 : S.x.dark with
        | true =>
          rw [c1] at rt
          walk_at "st"
          exact hN2 _ _ ⟨rfl, rfl⟩
        | false =>
          rw [c1] at rt
          walk_at "st"
          cases c2 : S.x.black 0 with
          | true =>
            have bix : ((List.range L.n).map fun i => V.bl (S.x.black i))[0]? = some (.bl true) := by rw [← c2]; exact bix
            walk_at "st"
            exact hN2 _ _ ⟨rfl, rfl⟩
          | false =>
            have bix : ((List.range L.n).map fun i => V.bl (S.x.black i))[0]? = some (.bl false) := by rw [← c2]; exact bix
            walk_at "st"
            refine x_df (fun c3 => te ⟨rfl, c1, c2, c3⟩) ?_
            walk_at "st"
            exact hN2 _ _ ⟨rfl, rfl⟩
      rintro σ H' ⟨rfl, rfl⟩
      walk_at "st"
      rename_i p hp
      refine hN _ _ ⟨_, rfl, .new hp, ?_⟩
      rw [if_pos rfl]
      exact .tup upd_same (.cons (.int _) (.cons (.bl _) .nil))
    · have z : i ≠ 0 := fun y => z (by rw [y]; rfl)
      walk_at "st"
      cases c1 : S.x.dark with
      | true =>
        rw [c1] at rt
        walk_at "st"
        rename_i p hp
        refine hN _ _ ⟨_, rfl, .new hp, ?_⟩
        rw [if_neg z, c1, Bool.true_or]
        exact .tup upd_same (.cons (.int _) (.cons (.bl _) .nil))
      | false =>
        rw [c1] at rt
        walk_at "st"
        rename_i p hp
        refine hN _ _ ⟨_, rfl, .new hp, ?_⟩
        rw [if_neg z, c1, Bool.false_or]
        exact .tup upd_same (.cons (.int _) (.cons (.bl _) .nil))
  rintro σ H1 ⟨w, rfl, f1, aw⟩
  have h1 := h.fr0 f1
  have rt1 := f1.at0 rt
  have hb1 := f1.at0 hb
  have s1 : Stp L S S H H1 := .of f1
  walk_at "st"
  refine x_setL hb1 rfl (by simpa using hi) ?_
  rw [rg_set' (g := fun k => V.bl (fset S.x.black i false k)) (fun j _ => by unfold fset; split <;> rfl)]
  have hV := t.bl h1 i false
  have s2 := s1.trans hV.2
  have rt2 := t.rt hV.1
  have aw := aw.fr hV.2.fr
  generalize upd H1 lb (.lst ((List.range L.n).map fun k => V.bl (fset S.x.black i false k))) = H2 at *
  walk_at "st"
  have hW := t.fl hV.1 { (blR S i false).x with holder := none } rfl rfl
  rw [t.fs] at hW
  have s3 := s2.trans hW.2
  have aw := aw.fr hW.2.fr
  have rt3 := t.rt hW.1
  have hW := hW.1
  refine x_mod (by omega) ?_
  walk_at "st"
  rw [prv_int h0]
  have pl : prv L.n i < L.n := Nat.mod_lt _ h0
  refine ⟨L, _, i, prv L.n i, "token", w, (if i = 0 then tokL 0 false else tokL (S.x.bears + S.x.count i) (S.x.dark || S.x.black i)).2, rfl, rfl, hW, hi, pl, el, aw, ?_, fun H4 h4 s4 => ?_⟩
  · split <;> exact ⟨by unfold tokL; simp only [ltD, PyData.canLay0, PyData.canLayAll0, Bool.and_true]; decide +kernel, by unfold tokL; simp [ltD, PyData.depth, PyData.depthAll], fun z => absurd z ntk⟩
  have e2 : ((("token" : Str), (if i = 0 then tokL 0 false else tokL (S.x.bears + S.x.count i) (S.x.dark || S.x.black i)).2) : Lt) = (if i = 0 then tokL 0 false else tokL (S.x.bears + S.x.count i) (S.x.dark || S.x.black i)) := by split <;> rfl
  rw [e2] at h4 s4
  exact k _ _ h4 (s3.trans s4)
end

/-! ### what all laws of nets share: starts, deeds -/
def encPair : Enc (Int × Int) := ⟨fun p => .tuple [.int p.1, .int p.2], fun a b => by
    obtain ⟨a1, a2⟩ := a
    obtain ⟨b1, b2⟩ := b
    simp only [PyData.eqv, PyData.eqvAll, Bool.beq_eq_decide_eq, Bool.and_true, Prod.mk.injEq]
    by_cases h1 : a1 = b1 <;> by_cases h2 : a2 = b2 <;> simp [h1, h2], fun a => by simp [PyData.canLay0, PyData.canLayAll0], fun a => by simp [PyData.depth, PyData.depthAll]⟩
def wyP (n t : Nat) : Int × Int := (((t / n : Nat) : Int), ((t % n : Nat) : Int))
theorem dp_ways {K : PySem.W.Frag} {H : Hp} {n : Nat} : ∀ {xs : List V} {ts : List Nat}, Paired (WayAt n H) xs ts → DpAll K H xs ((ts.map (wyP n)).map encPair.f)
  | _, _, .nil => .nil
  | _, _, .cons h t => by
    obtain ⟨q, rfl, e⟩ := h
    exact .cons (.tup (SqT.of e) (.cons (.int _) (.cons (.int _) .nil))) (dp_ways t)
theorem lst_ways {K : PySem.W.Frag} {H : Hp} {n : Nat} {a : Addr} {xs : List V} {ts : List Nat} (h : H a = some (.lst xs)) (p : Paired (WayAt n H) xs ts) : LstD K H (.ref a) ((ts.map (wyP n)).map encPair.f) := ⟨a, xs, rfl, SqL.of h, dp_ways p⟩
/-- the town and a net, apart -/
structure WAt {X : Type} (H : Hp) (t c : Addr) (L : NL X) (S : NS X) : Prop where
  tw : TownAt H t c
  nt : NetAt H L S
  o1 : ¬ NM L S t
  o2 : ¬ NM L S c
theorem TownAt.c1 {H : Hp} {t c : Addr} (h : TownAt H t c) : ∃ o, H t = some o ∧ noTup o := by
  obtain ⟨_, ns, k, h1, h2, _⟩ := h
  exact ⟨_, h1, trivial⟩
theorem TownAt.c2 {H : Hp} {t c : Addr} (h : TownAt H t c) : ∃ o, H c = some o ∧ noTup o := by
  obtain ⟨_, ns, k, h1, h2, _⟩ := h
  exact ⟨_, h2, trivial⟩
theorem TownAt.new {H : Hp} {t c b : Addr} (h : TownAt H t c) (hb : H b = none) : ¬ tF t c b := by
  obtain ⟨_, ns, k, h1, h2, _⟩ := h
  rintro (rfl | rfl)
  · rw [hb] at h1; cases h1
  · rw [hb] at h2; cases h2
section
variable {X : Type} {t c : Addr} {L : NL X} {S S1 S2 : NS X} {H H1 H2 : Hp}
def WF (t c : Addr) (L : NL X) (S : NS X) : Addr → Prop := fun b => NM L S b ∨ tF t c b
structure WSt (t c : Addr) (L : NL X) (S S' : NS X) (H H' : Hp) : Prop where
  fr : Fr (WF t c L S) H H'
  gr : ∀ b, NM L S' b → NM L S b ∨ H b = none
theorem WSt.refl : WSt t c L S S H H := ⟨.refl H, fun _ h => .inl h⟩
theorem WSt.trans (a : WSt t c L S S1 H H1) (b : WSt t c L S1 S2 H1 H2) : WSt t c L S S2 H H2 :=
  ⟨a.fr.trans' b.fr fun d h => by
    rcases h with h | h
    · rcases a.gr d h with z | z
      · exact .inl (.inl z)
      · exact .inr z
    · exact .inl (.inr h), fun d h => by
    rcases b.gr d h with z | z
    · exact a.gr d z
    · exact .inr (a.fr.dom d z)⟩
theorem WSt.stp (s : Stp L S S1 H H1) : WSt t c L S S1 H H1 := ⟨s.fr.mono fun _ h => .inl h, s.gr⟩
theorem WSt.town (f : Fr (tF t c) H H1) : WSt t c L S S H H1 := ⟨f.mono fun _ h => .inr h, fun _ h => .inl h⟩
theorem WSt.of (f : Fr F0 H H1) : WSt t c L S S H H1 := ⟨f.any, fun _ h => .inl h⟩
theorem WAt.stp (h : WAt H t c L S) (n : NetAt H1 L S1) (s : Stp L S S1 H H1) : WAt H1 t c L S1 := by
  obtain ⟨o, e, _⟩ := h.tw.c1
  obtain ⟨o', e', _⟩ := h.tw.c2
  exact ⟨h.tw.fr s.fr h.o1 h.o2, n, s.out e h.o1, s.out e' h.o2⟩
theorem WAt.apart (h : WAt H t c L S) : ∀ b, NM L S b → ¬ tF t c b := fun b m => by
  rintro (rfl | rfl)
  · exact h.o1 m
  · exact h.o2 m
theorem WAt.town (h : WAt H t c L S) (tw : TownAt H1 t c) (f : Fr (tF t c) H H1) : WAt H1 t c L S := ⟨tw, h.nt.fr f h.apart, h.o1, h.o2⟩
theorem WAt.fr0 (h : WAt H t c L S) (f : Fr F0 H H1) : WAt H1 t c L S := ⟨h.tw.fr0 f, h.nt.fr0 f, h.o1, h.o2⟩
theorem WAt.new (h : WAt H t c L S) {b : Addr} (hb : H b = none) : ¬ WF t c L S b := by
  rintro (z | z)
  · exact h.nt.new hb z
  · exact h.tw.new hb z
/-- what is no part of it stays -/
theorem WSt.keep (s : WSt t c L S S1 H H1) {b : Addr} {o : HO} (e : H b = some o) (n : ¬ WF t c L S b) : H1 b = some o ∧ ¬ WF t c L S1 b :=
  ⟨s.fr.keep b o e n, fun z => by
    rcases z with z | z
    · rcases s.gr b z with y | y
      · exact n (.inl y)
      · rw [e] at y; cases y
    · exact n (.inr z)⟩
end
/-! ### deeds -/
inductive Deed where
  | rest (i : Nat)
  | send (i j : Nat) (l : Int)
  | come (i j : Nat) (l : Lt) (r : List Lt)
def Deed.d : Deed → PyData
  | .rest i => .tuple [.str "rest", .int i]
  | .send i j l => .tuple [.str "send", .int i, .int j, .int l]
  | .come i j l _ => .tuple [.str "come", .int i, .int j, .str l.1]
section
variable {X : Type} {G : En} {C : Addr} {hk : Hk X}
def doR (hk : Hk X) (L : NL X) (S : NS X) : Deed → NS X → Prop
  | .rest i, S' => i < L.n ∧ S.up i = true ∧ restR hk L S i S'
  | .send i j l, S' => i < L.n ∧ j < L.n ∧ i ≠ j ∧ S.up i = true ∧ 0 ≤ l ∧ l ≤ 60 ∧ l ≤ S.pu i ∧ sendR hk L S i j l S'
  | .come i j l r, S' => i < L.n ∧ j < L.n ∧ i ≠ j ∧ S.rw i j = l :: r ∧ comeR hk L S i j l r S'
/-- what must be so, that any deed can be done -/
structure Ready (hk : Hk X) (L : NL X) (S : NS X) : Prop where
  n2 : 2 ≤ L.n
  n8 : L.n ≤ 8
  pos : ∀ i, i < L.n → 0 ≤ S.pu i
  dia : ∀ i, i < L.n → S.rw i i = []
  len : ∀ i j, i < L.n → j < L.n → (S.rw i j).length ≤ 1000
  snd : ∀ i j l, i < L.n → j < L.n → i ≠ j → S.up i = true → 0 ≤ l → l ≤ 60 → l ≤ S.pu i → hk.Pm L (S.setPu i (S.pu i - l)) i j ∧ ∀ S1 d, hk.mark L (S.setPu i (S.pu i - l)) i j S1 d → (S1.rw i j).length ≤ 1000
  rst : ∀ i, i < L.n → S.up i = true → hk.Pr L (S.setUp i false) i
  cme : ∀ i j l r, i < L.n → j < L.n → i ≠ j → S.rw i j = l :: r → (l.1 ≠ "work" → hk.Pc L (S.setRow i j r) i j l.1 l.2) ∧
    (∀ x e, l.1 = "work" → l.2 = .tuple [.int x, e] → hk.Pb L (S.setRow i j r) i j x ∧ ∀ S1, hk.bef L (S.setRow i j r) i j x S1 → hk.Pw L ((S1.setUp j true).setPu j (S1.pu j + x)) i j x e)
def ResV (H : Hp) (v : V) : Option Deed → Prop
  | none => v = .non
  | some d => At H v d.d
theorem ResV.fr {F : Addr → Prop} {H H' : Hp} {v : V} {o : Option Deed} (h : ResV H v o) (f : Fr F H H') : ResV H' v o := by
  cases o with
  | none => exact h
  | some d => exact At.fr h f
def actR (hk : Hk X) (L : NL X) (S : NS X) : Option Deed → NS X → Prop
  | none, S' => S' = S ∧ awk L.n S = []
  | some d, S' => doR hk L S d S' ∧ ¬ ∃ i j l r, d = .come i j l r
def letR (hk : Hk X) (L : NL X) (S : NS X) : Option Deed → NS X → Prop
  | none, S' => S' = S ∧ wys L.n S = []
  | some d, S' => doR hk L S d S' ∧ ∃ i j l r, d = .come i j l r
def goR (hk : Hk X) (L : NL X) (S : NS X) : Option Deed → NS X → Prop
  | none, S' => S' = S ∧ awk L.n S = [] ∧ wys L.n S = []
  | some d, S' => doR hk L S d S'
def spOther : Sp := fun vs H Q _ => ∃ (t c : Addr) (n i : Nat), vs = [.ref t, .int n, .int i] ∧ TownAt H t c ∧ 2 ≤ n ∧ n ≤ 100 ∧ i < n ∧ ∀ (j : Nat) H', j < n → i ≠ j → TownAt H' t c → Fr (tF t c) H H' → Q (.int j) H'
theorem ok_other (W : Wd G) (q1 : CalG G 1 "_law_draw" spDraw []) : CalG G 2 "_law_other" spOther [] := by
  refine run__law_other W (fun vs H Q E h => ?_) (fun vs H Q E h => ?_)
  · obtain ⟨t, c, n, i, rfl, _⟩ := h
    rfl
  · obtain ⟨t, c, n, i, rfl, hT, n2, n100, hi, k⟩ := h
    unfold t__law_other
    walk_at "st"
    refine ⟨t, c, (n : Int) - 1, rfl, hT, by omega, by omega, fun r H' r0 r1 hT' f => ?_⟩
    obtain ⟨m, rfl⟩ := Int.eq_ofNat_of_zero_le r0
    walk_at "st"
    refine x_mod (by omega) ?_
    walk_at "st"
    have e : ((i : Int) + 1 + (m : Int)) % (n : Int) = (((i + 1 + m) % n : Nat) : Int) := rfl
    rw [e]
    refine k _ H' (Nat.mod_lt _ (by omega)) (fun z => ?_) hT' f
    by_cases c1 : i + 1 + m < n
    · rw [Nat.mod_eq_of_lt c1] at z; omega
    · rw [Nat.mod_eq_sub_mod (by omega), Nat.mod_eq_of_lt (by omega)] at z; omega
def spAct (hk : Hk X) (C : Addr) : Sp := fun vs H Q _ => ∃ (t c : Addr) (L : NL X) (S : NS X), vs = [.ref t, .ref L.root, .int L.n] ∧ L.C = C ∧ WAt H t c L S ∧ Ready hk L S ∧
  ∀ v o S' H', actR hk L S o S' → ResV H' v o → WAt H' t c L S' → WSt t c L S S' H H' → Q v H'
theorem len_act {vs : List V} {H : Hp} {Q : VK} {E : XK} (h : spAct hk C vs H Q E) : vs.length = 3 := by
  obtain ⟨t, c, L, S, rfl, _⟩ := h
  rfl
theorem ok_act (W : Wd G) (M : NetM G hk C) (q1 : CalG G 1 "_law_draw" spDraw []) (q2 : CalG G 2 "_law_pick" spPick []) (q3 : CalG G 2 "_law_other" spOther []) : CalG G 5 "_law_act" (spAct hk C) [] := by
  refine run__law_act W (fun vs H Q E h => len_act h) (fun vs H Q E h => ?_)
  obtain ⟨t, c, L, S, rfl, rfl, w, rd, k⟩ := h
  have n2 := rd.n2
  have n8 := rd.n8
  have m1 := M.awake
  have m2 := M.rest
  have m3 := M.purse
  have m4 := M.send
  have rt := w.nt.rt
  unfold t__law_act
  walk_at "st"
  refine ⟨L, S, rfl, rfl, w.nt, by omega, fun D H1 hD f1 e1 => ?_⟩
  walk_at "st"
  rename_i z hz
  have fz : Fr F0 H1 (upd H1 z (.lst [])) := .new hz
  have e1' : H1 D = some (.lst (((awk L.n S).map fun (i : Nat) => (i : Int)).map V.int)) := by rw [e1, List.map_map]; rfl
  refine x_eqL encInt (lst_ints (SqL.of (fz.at0 e1'))) (lst_nil encInt upd_same) ?_
  have f2 := f1.trans fz
  have w2 := w.fr0 f2
  have e2 := fz.at0 e1
  have nD : ¬ tF t c D := w.tw.new hD
  generalize upd H1 z (.lst []) = H2 at *
  refine x_isB (x_d2 (fun q => ?_) (fun q => ?_))
  · walk_at "st"
    exact k .non none S H2 ⟨rfl, by simpa using q⟩ rfl w2 (.of f2)
  have q : awk L.n S ≠ [] := fun z => q (by simp [z])
  walk_at "st"
  refine ⟨t, c, D, _, rfl, w2.tw, e2, fun z => nD (.inl z), fun z => nD (.inr z), by simpa using q, ?_, fun s v H3 hv t3 f3 => ?_⟩
  · rw [List.length_map]
    refine Nat.le_trans (List.length_filter_le _ _) ?_
    rw [List.length_range]; omega
  rw [List.getElem?_map] at hv
  obtain ⟨i, hi, rfl⟩ := Option.map_eq_some_iff.mp hv
  obtain ⟨i1, i2⟩ := List.mem_filter.mp (List.mem_of_getElem? hi)
  have i1 := List.mem_range.mp i1
  have w3 := w2.town t3 f3
  have s3 : WSt t c L S S H H3 := (WSt.of f2).trans (.town f3)
  walk_at "st"
  refine ⟨t, c, 3, rfl, w3.tw, by decide, by decide, fun r H4 r0 r1 t4 f4 => ?_⟩
  have w4 := w3.town t4 f4
  have s4 := s3.trans (.town f4)
  have rt4 := w4.nt.rt
  walk_at "st"
  refine x_d2 (fun q0 => ?_) (fun q0 => ?_)
  · walk_at "st"
    refine ⟨L, S, i, rfl, rfl, w4.nt, i1, i2, rd.rst i i1 i2, fun S5 v5 H5 r5 n5 s5 => ?_⟩
    have w5 := w4.stp n5 s5
    walk_at "st"
    rename_i p hp
    have fp : Fr F0 H5 (upd H5 p (.tup [.str "rest", natV i])) := .new hp
    exact k _ (some (.rest i)) S5 _ ⟨⟨i1, i2, r5⟩, fun ⟨_, _, _, _, z⟩ => nomatch z⟩ (.tup upd_same (.cons (.str _) (.cons (.int _) .nil))) (w5.fr0 fp) ((s4.trans (.stp s5)).trans (.of fp))
  · walk_at "st"
    refine ⟨t, c, L.n, i, rfl, w4.tw, n2, by omega, i1, fun j H5 j1 j2 t5 f5 => ?_⟩
    have w5 := w4.town t5 f5
    have s5 := s4.trans (.town f5)
    have rt5 := w5.nt.rt
    walk_at "st"
    refine ⟨L, S, i, rfl, rfl, w5.nt, i1, ?_⟩
    walk_at "st"
    rename_i p hp
    have fp : Fr F0 H5 (upd H5 p (.lst [.int 0, .int 1, .int 7, .int 60])) := .new hp
    have np : ¬ tF t c p := t5.new hp
    refine ⟨t, c, p, _, rfl, t5.fr0 fp, upd_same, fun z => np (.inl z), fun z => np (.inr z), by simp, by simp, fun s v H6 hv t6 f6 => ?_⟩
    have hl : ∃ x : Int, v = .int x ∧ 0 ≤ x ∧ x ≤ 60 := by
      rcases s with _ | _ | _ | _ | s
      · exact ⟨0, by simpa using hv.symm, by decide, by decide⟩
      · exact ⟨1, by simpa using hv.symm, by decide, by decide⟩
      · exact ⟨7, by simpa using hv.symm, by decide, by decide⟩
      · exact ⟨60, by simpa using hv.symm, by decide, by decide⟩
      · simp at hv
    obtain ⟨x, rfl, x0, x1⟩ := hl
    have w6 := (w5.fr0 fp).town t6 f6
    have s6 := (s5.trans (.of fp)).trans (.town f6)
    have rt6 := w6.nt.rt
    walk_at "st"
    refine ⟨S.pu i, x, rfl, ?_⟩
    have hpos := rd.pos i i1
    have l0 : 0 ≤ (if x < S.pu i then x else S.pu i) := by split <;> omega
    have l1 : (if x < S.pu i then x else S.pu i) ≤ 60 := by split <;> omega
    have l2 : (if x < S.pu i then x else S.pu i) ≤ S.pu i := by split <;> omega
    generalize (if x < S.pu i then x else S.pu i) = l at l0 l1 l2 ⊢
    obtain ⟨pm, pl⟩ := rd.snd i j l i1 j1 j2 i2 l0 l1 l2
    walk_at "st"
    refine ⟨L, S, i, j, l, rfl, rfl, w6.nt, i1, j1, j2, i2, l0, by omega, l2, pm, pl, fun S7 v7 H7 r7 n7 s7 => ?_⟩
    have w7 := w6.stp n7 s7
    walk_at "st"
    rename_i p2 hp2
    have fp2 : Fr F0 H7 (upd H7 p2 (.tup [.str "send", natV i, .int j, .int l])) := .new hp2
    exact k _ (some (.send i j l)) S7 _ ⟨⟨i1, j1, j2, i2, l0, l1, l2, r7⟩, fun ⟨_, _, _, _, z⟩ => nomatch z⟩ (.tup upd_same (.cons (.str _) (.cons (.int _) (.cons (.int _) (.cons (.int _) .nil))))) (w7.fr0 fp2) ((s6.trans (.stp s7)).trans (.of fp2))
end

section
variable {X : Type} {G : En} {C : Addr} {hk : Hk X}
def spLet (hk : Hk X) (C : Addr) : Sp := fun vs H Q _ => ∃ (t c : Addr) (L : NL X) (S : NS X), vs = [.ref t, .ref L.root] ∧ L.C = C ∧ WAt H t c L S ∧ Ready hk L S ∧
  ∀ v o S' H', letR hk L S o S' → ResV H' v o → WAt H' t c L S' → WSt t c L S S' H H' → Q v H'
theorem len_let {vs : List V} {H : Hp} {Q : VK} {E : XK} (h : spLet hk C vs H Q E) : vs.length = 2 := by
  obtain ⟨t, c, L, S, rfl, _⟩ := h
  rfl
theorem ok_let (W : Wd G) (M : NetM G hk C) (q2 : CalG G 2 "_law_pick" spPick []) : CalG G 5 "_law_let" (spLet hk C) [] := by
  refine run__law_let W (fun vs H Q E h => len_let h) (fun vs H Q E h => ?_)
  obtain ⟨t, c, L, S, rfl, rfl, w, rd, k⟩ := h
  have n2 := rd.n2
  have n8 := rd.n8
  have m1 := M.ways
  have m2 := M.come
  have rt := w.nt.rt
  unfold t__law_let
  walk_at "st"
  refine ⟨L, S, rfl, rfl, w.nt, by omega, fun D H1 xs hD f1 e1 p1 => ?_⟩
  walk_at "st"
  rename_i z hz
  have fz : Fr F0 H1 (upd H1 z (.lst [])) := .new hz
  have p2 : Paired (WayAt L.n (upd H1 z (.lst []))) xs (wys L.n S) := Paired.mapP p1 fun v t ⟨q, a, b⟩ => ⟨q, a, fz.tup _ _ b⟩
  refine x_eqL encPair (lst_ways (fz.at0 e1) p2) (lst_nil encPair upd_same) ?_
  have f2 := f1.trans fz
  have w2 := w.fr0 f2
  have e2 := fz.at0 e1
  have nD : ¬ tF t c D := w.tw.new hD
  generalize upd H1 z (.lst []) = H2 at *
  have ln := Paired.length p2
  refine x_isB (x_d2 (fun q => ?_) (fun q => ?_))
  · walk_at "st"
    exact k .non none S H2 ⟨rfl, by simpa using q⟩ rfl w2 (.of f2)
  have q : wys L.n S ≠ [] := fun z => q (by simp [z])
  have wl : (wys L.n S).length ≤ 1000 := by
    refine Nat.le_trans (List.length_filter_le _ _) ?_
    rw [List.length_range]
    exact Nat.le_trans (Nat.mul_le_mul n8 n8) (by decide)
  walk_at "st"
  refine ⟨t, c, D, _, rfl, w2.tw, e2, fun z => nD (.inl z), fun z => nD (.inr z), fun z => q (by rw [z] at ln; exact List.eq_nil_of_length_eq_zero ln.symm), by omega, fun s v H3 hv t3 f3 => ?_⟩
  obtain ⟨m, hm, r⟩ := paired_get p2 hv
  obtain ⟨p, rfl, hp⟩ := r
  obtain ⟨i1, i2⟩ := List.mem_filter.mp (List.mem_of_getElem? hm)
  have i1 := List.mem_range.mp i1
  obtain ⟨d1, d2⟩ := div_lt i1
  have w3 := w2.town t3 f3
  have s3 : WSt t c L S S H H3 := (WSt.of f2).trans (.town f3)
  have hp3 := f3.tup _ _ hp
  generalize m / L.n = i at *
  generalize m % L.n = j at *
  have ne : i ≠ j := fun z => by
    subst z
    rw [rd.dia i d1] at i2
    simp at i2
  have rt3 := w3.nt.rt
  cases hr : S.rw i j with
  | nil => rw [hr] at i2; simp at i2
  | cons l r =>
  obtain ⟨c1, c2⟩ := rd.cme i j l r d1 d2 ne hr
  walk_at "st"
  refine ⟨L, S, i, j, l, r, rfl, rfl, w3.nt, d1, d2, ne, hr, c1, c2, fun S5 H5 r5 n5 s5 => ?_⟩
  have w5 := w3.stp n5 s5
  walk_at "st"
  rename_i p2 hp2
  have fp2 : Fr F0 H5 (upd H5 p2 (.tup [.str "come", .int i, .int j, .str l.1])) := .new hp2
  exact k _ (some (.come i j l r)) S5 _ ⟨⟨d1, d2, ne, hr, r5⟩, i, j, l, r, rfl⟩ (.tup upd_same (.cons (.str _) (.cons (.int _) (.cons (.int _) (.cons (.str _) .nil))))) (w5.fr0 fp2) ((s3.trans (.stp s5)).trans (.of fp2))
def spGo (hk : Hk X) (C : Addr) : Sp := fun vs H Q _ => ∃ (t c : Addr) (L : NL X) (S : NS X) (sh : Int), vs = [.ref t, .ref L.root, .int L.n, .int sh] ∧ L.C = C ∧ WAt H t c L S ∧ Ready hk L S ∧
  ∀ v o S' H', goR hk L S o S' → ResV H' v o → WAt H' t c L S' → WSt t c L S S' H H' → Q v H'
theorem len_go {vs : List V} {H : Hp} {Q : VK} {E : XK} (h : spGo hk C vs H Q E) : vs.length = 4 := by
  obtain ⟨t, c, L, S, sh, rfl, _⟩ := h
  rfl
theorem x_isNa {x : V} {H : Hp} {Q : VK} (n : x ≠ .non) (k : Q (.bl true) H) : rNotNq x .non H Q := ⟨rfl, by rw [decide_eq_false n]; exact k⟩
theorem resNe {H : Hp} {v : V} {d : Deed} (h : ResV H v (some d)) : v ≠ .non := fun z => by
  subst z
  cases d <;> cases h
theorem ok_go (W : Wd G) (q1 : CalG G 1 "_law_draw" spDraw []) (q2 : CalG G 5 "_law_act" (spAct hk C) []) (q3 : CalG G 5 "_law_let" (spLet hk C) []) : CalG G 6 "_law_go" (spGo hk C) [] := by
  refine run__law_go W (fun vs H Q E h => len_go h) (fun vs H Q E h => ?_)
  obtain ⟨t, c, L, S, sh, rfl, rfl, w, rd, k⟩ := h
  unfold t__law_go
  walk_at "st"
  refine ⟨t, c, 10, rfl, w.tw, by decide, by decide, fun r H1 r0 r1 t1 f1 => ?_⟩
  have w1 := w.town t1 f1
  have s1 : WSt t c L S S H H1 := .town f1
  walk_at "st"
  refine x_d2 (fun q => ?_) (fun q => ?_)
  · rw [decide_eq_true q]
    walk_at "st"
    refine ⟨t, c, L, S, rfl, rfl, w1, rd, fun v o S2 H2 r2 v2 w2 s2 => ?_⟩
    cases o with
    | some d =>
      walk_at "sq"
      refine x_ifs ?_
      walk_at "sq"
      refine x_ndf (resNe v2) ?_
      walk_at "st"
      exact k v (some d) S2 H2 r2.1 v2 w2 (s1.trans s2)
    | none =>
      obtain ⟨rfl, r2⟩ := r2
      cases v2
      walk_at "st"
      refine ⟨t, c, L, S2, rfl, rfl, w2, rd, fun v o S3 H3 r3 v3 w3 s3 => ?_⟩
      walk_at "st"
      refine k v o S3 H3 ?_ v3 w3 ((s1.trans s2).trans s3)
      cases o with
      | none => exact ⟨r3.1, r2, r3.2⟩
      | some d => exact r3.1
  · rw [decide_eq_false q]
    walk_at "st"
    refine ⟨t, c, L, S, rfl, rfl, w1, rd, fun v o S2 H2 r2 v2 w2 s2 => ?_⟩
    cases o with
    | some d =>
      walk_at "sq"
      refine x_ifs ?_
      walk_at "sq"
      refine x_ndf (resNe v2) ?_
      walk_at "st"
      exact k v (some d) S2 H2 r2.1 v2 w2 (s1.trans s2)
    | none =>
      obtain ⟨rfl, r2⟩ := r2
      cases v2
      walk_at "st"
      refine ⟨t, c, L, S2, rfl, rfl, w2, rd, fun v o S3 H3 r3 v3 w3 s3 => ?_⟩
      walk_at "st"
      refine k v o S3 H3 ?_ v3 w3 ((s1.trans s2).trans s3)
      cases o with
      | none => exact ⟨r3.1, r3.2, r2⟩
      | some d => exact r3.1
/-- a start: hands that rise -/
def spStart : Sp := fun vs H Q _ => ∃ (t c : Addr) (n : Nat), vs = [.ref t, .int n] ∧ TownAt H t c ∧ 1 ≤ n ∧ n ≤ 60 ∧
  ∀ l (st : List Int) H', H l = none → H' l = some (.lst (st.map V.int)) → st ≠ [] → (∀ s ∈ st, 0 ≤ s ∧ s ≤ (n : Int) - 1) → st.Pairwise (· < ·) → st.length ≤ n → TownAt H' t c → Fr (tF t c) H H' → Q (.ref l) H'
theorem ok_start (W : Wd G) (q1 : CalG G 1 "_law_draw" spDraw []) : CalG G 2 "_law_start" spStart [] := by
  refine run__law_start W (fun vs H Q E h => ?_) (fun vs H Q E h => ?_)
  · obtain ⟨t, c, n, rfl, _⟩ := h
    rfl
  · obtain ⟨t, c, n, rfl, hT, n1, n60, k⟩ := h
    unfold t__law_start
    walk_at "st"
    refine x_rng1g (by omega) ?_
    rw [Int.toNat_natCast]
    refine lc_rng (fun Dd i H' => ∃ st : List Int, H' Dd = some (.lst (st.map V.int)) ∧ (∀ s ∈ st, 0 ≤ s ∧ s < (i : Int)) ∧ st.Pairwise (· < ·) ∧ st.length ≤ i ∧ TownAt H' t c ∧ Fr (tF t c) H H') (fun Dd hD => ⟨[], upd_same, by simp, .nil, by simp, hT.fr0 (.new hD), .new hD⟩) (fun Dd i Ha hD hi p => ?_) (fun Dd Ha hD p => ?_)
    · obtain ⟨st, e, b, so, ln, ta, fa⟩ := p
      refine ⟨rfl, ?_⟩
      walk_at "st"
      refine ⟨t, c, 2, rfl, ta, by decide, by decide, fun r Hb r0 r1 tb fb => ?_⟩
      have nD : ¬ tF t c Dd := hT.new hD
      have eb := fb.keep _ _ e nD
      walk_at "st"
      refine x_d2 (fun q => ?_) (fun q => ?_)
      · walk_at "st"
        refine ⟨_, eb, by rw [List.length_map]; exact Nat.lt_of_le_of_lt ln (Nat.lt_of_lt_of_le hi (sl1000 (by omega))), st ++ [(i : Int)], by rw [List.map_append]; exact upd_same, fun s hs => ?_, ?_, by rw [List.length_append, List.length_singleton]; omega, ?_, (fa.trans fb).then_put_new hD⟩
        · rcases List.mem_append.mp hs with z | z
          · have := b s z; omega
          · rw [List.mem_singleton.mp z]; omega
        · refine List.pairwise_append.mpr ⟨so, List.pairwise_singleton _ _, fun x hx y hy => ?_⟩
          rw [List.mem_singleton.mp hy]
          exact (b x hx).2
        · obtain ⟨ne, ns, kk, h1, h2, h3⟩ := tb
          exact ⟨ne, ns, kk, upd_at h1 (fun z => nD (.inl z.symm)), upd_at h2 (fun z => nD (.inr z.symm)), h3⟩
      · exact ⟨st, eb, fun s hs => by have := b s hs; omega, so, by omega, tb, fa.trans fb⟩
    · obtain ⟨st, e, b, so, ln, ta, fa⟩ := p
      walk_at "st"
      rename_i z hz
      have fz : Fr F0 Ha (upd Ha z (.lst [])) := .new hz
      refine x_neL encInt (lst_ints (SqL.of (fz.at0 e))) (lst_nil encInt upd_same) ?_
      have ez := fz.at0 e
      have tz := ta.fr0 fz
      have fA := fa.trans fz.any
      generalize upd Ha z (.lst []) = Hb at *
      refine x_isB (x_nd2 (fun q => ?_) (fun q => ?_))
      · walk_at "st"
        exact k Dd st Hb hD ez q (fun s hs => by have := b s hs; omega) so ln tz fA
      · walk_at "st"
        refine ⟨t, c, n, rfl, tz, by omega, by omega, fun r Hc r0 r1 tc fc => ?_⟩
        walk_at "st"
        rename_i p hp
        have fp : Fr F0 Hc (upd Hc p (.lst [.int r])) := .new hp
        exact k p [r] _ ((fA.trans fc).dom p hp) upd_same (by simp) (fun s hs => by rw [List.mem_singleton.mp hs]; omega) (List.pairwise_singleton _ _) (by simpa using n1) (tc.fr0 fp) ((fA.trans fc).then_new hp)
end

/-! ### what hooks leave alone; deeds on loads -/
section
variable {X : Type} {hk : Hk X} {L : NL X} {S S' : NS X}
structure Pas (S S' : NS X) : Prop where
  up : S'.up = S.up
  pu : S'.pu = S.pu
  rw : ∀ i j, lds (S'.rw i j) = lds (S.rw i j)
theorem Pas.refl (S : NS X) : Pas S S := ⟨rfl, rfl, fun _ _ => rfl⟩
theorem Pas.trans {S1 S2 S3 : NS X} (a : Pas S1 S2) (b : Pas S2 S3) : Pas S1 S3 := ⟨b.up.trans a.up, b.pu.trans a.pu, fun i j => (b.rw i j).trans (a.rw i j)⟩
theorem Pas.setX (S : NS X) (x : X) : Pas S (S.setX x) := ⟨rfl, rfl, fun _ _ => rfl⟩
theorem lds_other (r : List Lt) {w : Str} (d : PyData) (h : w ≠ "work") : lds (r ++ [(w, d)]) = lds r := by
  unfold lds
  rw [List.filter_append, List.filter_cons_of_neg (by simpa using h), List.filter_nil, List.append_nil]
theorem lds_work (r : List Lt) (x : Int) (d : PyData) : lds (r ++ [(("work", .tuple [.int x, d]) : Lt)]) = lds r ++ [x] := by
  unfold lds
  rw [List.filter_append, List.map_append]
  congr 1
theorem lds_hd (r : List Lt) (x : Int) (d : PyData) : lds ((("work" : Str), PyData.tuple [.int x, d]) :: r) = x :: lds r := by
  unfold lds
  rw [List.filter_cons_of_pos (by simp)]
  rfl
theorem lds_tl (r : List Lt) {l : Lt} (h : l.1 ≠ "work") : lds (l :: r) = lds r := by
  unfold lds
  rw [List.filter_cons_of_neg (by simpa using h)]
theorem Pas.put (S : NS X) (i j : Nat) {w : Str} (d : PyData) (h : w ≠ "work") : Pas S (S.put i j (w, d)) := ⟨rfl, rfl, fun a b => by
  show lds (fset2 S.rw i j (S.rw i j ++ [(w, d)]) a b) = _
  by_cases c : a = i ∧ b = j
  · obtain ⟨rfl, rfl⟩ := c
    rw [fset2_same, lds_other _ _ h]
  · rw [fset2_ne c]⟩
structure HkPas (hk : Hk X) : Prop where
  mark : ∀ {L S i j S' d}, hk.mark L S i j S' d → Pas S S'
  rest : ∀ {L S i S'}, hk.rest L S i S' → Pas S S'
  work : ∀ {L S i j x e S'}, hk.work L S i j x e S' → Pas S S'
  ctrl : ∀ {L S i j w d S'}, hk.ctrl L S i j w d S' → Pas S S'
  bef : ∀ {L S i j x S'}, hk.bef L S i j x S' → Pas S S'
structure PrS where
  up : Nat → Bool
  pu : Nat → Int
  ld : Nat → Nat → List Int
def prj (S : NS X) : PrS := ⟨S.up, S.pu, fun i j => lds (S.rw i j)⟩
def Deed.ap (p : PrS) : Deed → PrS
  | .rest i => { p with up := fset p.up i false }
  | .send i j l => { p with pu := fset p.pu i (p.pu i - l), ld := fset2 p.ld i j (p.ld i j ++ [l]) }
  | .come i j l _ => if l.1 = "work" then ⟨fset p.up j true, fset p.pu j (p.pu j + ldOf l), fset2 p.ld i j (p.ld i j).tail⟩ else p
theorem Pas.prj_eq (h : Pas S S') : prj S' = prj S := by
  unfold prj
  rw [h.up, h.pu, show (fun i j => lds (S'.rw i j)) = fun i j => lds (S.rw i j) from funext fun i => funext fun j => h.rw i j]
theorem do_prj (hp : HkPas hk) {d : Deed} (h : doR hk L S d S') : prj S' = d.ap (prj S) := by
  cases d with
  | rest i =>
    obtain ⟨_, _, r⟩ := h
    rw [(hp.rest r).prj_eq]; rfl
  | send i j l =>
    obtain ⟨_, _, _, _, _, _, _, S1, d, m, rfl⟩ := h
    have e := (hp.mark m).prj_eq
    have e1 := congrArg PrS.up e
    have e2 := congrArg PrS.pu e
    have e3 := fun a b => congrFun (congrFun (congrArg PrS.ld e) a) b
    show (⟨S1.up, S1.pu, fun a b => lds (fset2 S1.rw i j (S1.rw i j ++ [(("work", .tuple [.int l, d]) : Lt)]) a b)⟩ : PrS) = ⟨S.up, fset S.pu i (S.pu i - l), fset2 (fun a b => lds (S.rw a b)) i j (lds (S.rw i j) ++ [l])⟩
    congr 1
    funext a b
    by_cases c : a = i ∧ b = j
    · obtain ⟨rfl, rfl⟩ := c
      rw [fset2_same, fset2_same, lds_work]
      congr 1
      exact e3 a b
    · rw [fset2_ne c, fset2_ne c]
      exact e3 a b
  | come i j l r =>
    obtain ⟨_, _, _, hr, h⟩ := h
    have row : ∀ (q : List Int), lds r = q → (fun a b => lds ((S.setRow i j r).rw a b)) = fset2 (fun a b => lds (S.rw a b)) i j q := fun q e => by
      funext a b
      show lds (fset2 S.rw i j r a b) = _
      by_cases c : a = i ∧ b = j
      · obtain ⟨rfl, rfl⟩ := c
        rw [fset2_same, fset2_same, e]
      · rw [fset2_ne c, fset2_ne c]
    rcases h with ⟨w, h⟩ | ⟨w, x, ee, S1, e1, h1, h2⟩
    · rw [(hp.ctrl h).prj_eq]
      show (⟨S.up, S.pu, fun a b => lds ((S.setRow i j r).rw a b)⟩ : PrS) = if l.1 = "work" then _ else _
      rw [if_neg w, row (lds (S.rw i j)) (by rw [hr, lds_tl _ w])]
      show _ = (⟨S.up, S.pu, _⟩ : PrS)
      congr 1
      funext a b
      by_cases c : a = i ∧ b = j
      · obtain ⟨rfl, rfl⟩ := c; rw [fset2_same]
      · rw [fset2_ne c]
    · obtain ⟨lw, ld⟩ := l
      dsimp only at w e1
      subst w e1
      rw [(hp.work h2).prj_eq]
      have e := (hp.bef h1).prj_eq
      have e1 := congrArg PrS.up e
      have e2 := congrArg PrS.pu e
      have e3 := congrArg PrS.ld e
      rw [show (Deed.come i j (("work" : Str), PyData.tuple [.int x, ee]) r).ap (prj S) = ⟨fset S.up j true, fset S.pu j (S.pu j + x), fset2 (fun a b => lds (S.rw a b)) i j (lds (S.rw i j)).tail⟩ by
        show (if ("work" : Str) = "work" then (⟨fset S.up j true, fset S.pu j (S.pu j + x), fset2 (fun a b => lds (S.rw a b)) i j (lds (S.rw i j)).tail⟩ : PrS) else prj S) = _
        rw [if_pos rfl]]
      show (⟨fset S1.up j true, fset S1.pu j (S1.pu j + x), fun a b => lds (S1.rw a b)⟩ : PrS) = _
      have e1 : S1.up = S.up := e1
      have e2 : S1.pu = S.pu := e2
      have e3 : (fun a b => lds (S1.rw a b)) = fun a b => lds ((S.setRow i j r).rw a b) := e3
      rw [e1, e2, e3, row (lds (S.rw i j)).tail (by rw [hr, lds_hd]; rfl)]
/-! ### sums -/
def rsum (m : Nat) (f : Nat → Int) : Int := ((List.range m).map f).sum
theorem rsum_succ (m : Nat) (f : Nat → Int) : rsum (m + 1) f = rsum m f + f m := by
  unfold rsum
  rw [List.range_succ, List.map_append, List.sum_append]
  simp
theorem rsum_congr {m : Nat} {f g : Nat → Int} (h : ∀ t, t < m → f t = g t) : rsum m f = rsum m g := by
  unfold rsum
  rw [List.map_congr_left fun t ht => h t (List.mem_range.mp ht)]
theorem rsum_set {f g : Nat → Int} {k : Nat} (h : ∀ t, t ≠ k → g t = f t) : ∀ {m : Nat}, k < m → rsum m g = rsum m f - f k + g k
  | 0, hk => absurd hk (Nat.not_lt_zero _)
  | m + 1, hk => by
    rw [rsum_succ, rsum_succ]
    by_cases e : k = m
    · subst e
      rw [rsum_congr fun t ht => h t (by omega)]
      omega
    · rw [rsum_set h (show k < m by omega), h m (fun z => e z.symm)]
      omega
theorem rsum_fset {f : Nat → Int} {k : Nat} {v : Int} {m : Nat} (hk : k < m) : rsum m (fset f k v) = rsum m f - f k + v := by
  rw [rsum_set (fun t ht => fset_ne ht) hk, fset_same]
theorem rsum_nonneg {f : Nat → Int} : ∀ {m : Nat}, (∀ t, t < m → 0 ≤ f t) → 0 ≤ rsum m f
  | 0, _ => by simp [rsum]
  | m + 1, h => by
    rw [rsum_succ]
    have := rsum_nonneg (f := f) (m := m) fun t ht => h t (by omega)
    have := h m (by omega)
    omega
theorem rsum_ge {f : Nat → Int} {k : Nat} : ∀ {m : Nat}, (∀ t, t < m → 0 ≤ f t) → k < m → f k ≤ rsum m f
  | 0, _, hk => absurd hk (Nat.not_lt_zero _)
  | m + 1, h, hk => by
    rw [rsum_succ]
    by_cases e : k = m
    · subst e
      have := rsum_nonneg (f := f) (m := k) fun t ht => h t (by omega)
      omega
    · have := rsum_ge (f := f) (k := k) (m := m) (fun t ht => h t (by omega)) (by omega)
      have := h m (by omega)
      omega
theorem rsum_zero {f : Nat → Int} : ∀ {m : Nat}, (∀ t, t < m → f t = 0) → rsum m f = 0
  | 0, _ => rfl
  | m + 1, h => by rw [rsum_succ, rsum_zero fun t ht => h t (by omega), h m (by omega)]; rfl
theorem rsum_add (f g : Nat → Int) : ∀ m, rsum m (fun t => f t + g t) = rsum m f + rsum m g
  | 0 => rfl
  | m + 1 => by rw [rsum_succ, rsum_succ, rsum_succ, rsum_add f g m]; omega
/-- over pairs -/
def sq (n : Nat) (f : Nat → Nat → Int) : Int := rsum (n * n) fun t => f (t / n) (t % n)
theorem dm {n i j : Nat} (hj : j < n) : (i * n + j) / n = i ∧ (i * n + j) % n = j := by
  rw [Nat.mul_comm, Nat.mul_add_div (by omega), Nat.div_eq_of_lt hj, Nat.mul_add_mod, Nat.mod_eq_of_lt hj]
  exact ⟨rfl, rfl⟩
theorem dlt {n i j : Nat} (hi : i < n) (hj : j < n) : i * n + j < n * n := by
  have : (i + 1) * n ≤ n * n := Nat.mul_le_mul_right _ hi
  rw [Nat.add_mul] at this
  omega
theorem sq_set {n i j : Nat} {f g : Nat → Nat → Int} (hi : i < n) (hj : j < n) (h : ∀ a b, ¬ (a = i ∧ b = j) → g a b = f a b) : sq n g = sq n f - f i j + g i j := by
  unfold sq
  obtain ⟨e1, e2⟩ := dm (i := i) hj
  rw [rsum_set (f := fun t => f (t / n) (t % n)) (k := i * n + j) (fun t ht => h _ _ fun z => ht ?_) (dlt hi hj), e1, e2]
  have := Nat.div_add_mod t n
  rw [z.1, z.2, Nat.mul_comm] at this
  exact this.symm
theorem sq_nonneg {n : Nat} {f : Nat → Nat → Int} (h : ∀ a b, a < n → b < n → 0 ≤ f a b) : 0 ≤ sq n f := rsum_nonneg fun t ht => h _ _ (div_lt ht).1 (div_lt ht).2
theorem sq_ge {n i j : Nat} {f : Nat → Nat → Int} (h : ∀ a b, a < n → b < n → 0 ≤ f a b) (hi : i < n) (hj : j < n) : f i j ≤ sq n f := by
  have := rsum_ge (f := fun t => f (t / n) (t % n)) (k := i * n + j) (m := n * n) (fun t ht => h _ _ (div_lt ht).1 (div_lt ht).2) (dlt hi hj)
  rw [(dm hj).1, (dm hj).2] at this
  exact this
theorem sq_congr {n : Nat} {f g : Nat → Nat → Int} (h : ∀ a b, a < n → b < n → f a b = g a b) : sq n f = sq n g := rsum_congr fun t ht => h _ _ (div_lt ht).1 (div_lt ht).2
theorem sq_zero {n : Nat} {f : Nat → Nat → Int} (h : ∀ a b, a < n → b < n → f a b = 0) : sq n f = 0 := rsum_zero fun t ht => h _ _ (div_lt ht).1 (div_lt ht).2
theorem rsum_split (f : Nat → Int) (a : Nat) : ∀ b, rsum (a + b) f = rsum a f + rsum b fun t => f (a + t)
  | 0 => by simp [rsum]
  | b + 1 => by rw [← Nat.add_assoc, rsum_succ, rsum_split f a b, rsum_succ]; omega
theorem rsum_rows (n : Nat) (f : Nat → Nat → Int) : ∀ k, k ≤ n → rsum (k * n) (fun t => f (t / n) (t % n)) = rsum k fun i => rsum n (f i)
  | 0, _ => by simp [rsum]
  | k + 1, hk => by
    rw [Nat.add_mul, Nat.one_mul, rsum_split, rsum_rows n f k (by omega), rsum_succ]
    congr 1
    refine rsum_congr fun t ht => ?_
    rw [(dm ht).1, (dm ht).2]
theorem sq_rows (n : Nat) (f : Nat → Nat → Int) : sq n f = rsum n fun i => rsum n (f i) := rsum_rows n f n (Nat.le_refl _)
theorem cnt_lds (r : List Lt) : (cntL "work" r : Int) = ((lds r).length : Int) := by unfold cntL lds; rw [List.length_map]
def cntP (n : Nat) (p : PrS) : Int := sq n fun i j => ((p.ld i j).length : Int)
theorem cntW_prj {n : Nat} : cntW n S "work" = cntP n (prj S) := by
  unfold cntW cntP sq rsum
  congr 1
  exact List.map_congr_left fun t _ => cnt_lds _
end

abbrev wL (x : Int) (d : PyData) : Lt := ("work", .tuple [.int x, d])
abbrev cL (w : Str) (d : PyData) : Lt := (w, d)
/-! ### rows: what letters they have, how long they are -/
structure RowI {X : Type} (P : Lt → Prop) (n k : Nat) (S : NS X) : Prop where
  pos : ∀ i, i < n → 0 ≤ S.pu i
  dia : ∀ i, i < n → S.rw i i = []
  len : ∀ i j, i < n → j < n → (S.rw i j).length ≤ k
  ltr : ∀ i j, i < n → j < n → ∀ l ∈ S.rw i j, P l
section
variable {X : Type} {P : Lt → Prop} {n k i j : Nat} {S : NS X}
theorem RowI.mono (h : RowI P n k S) {k' : Nat} (q : k ≤ k') : RowI P n k' S := ⟨h.pos, h.dia, fun i j hi hj => Nat.le_trans (h.len i j hi hj) q, h.ltr⟩
theorem RowI.setUp (h : RowI P n k S) (i : Nat) (b : Bool) : RowI P n k (S.setUp i b) := ⟨h.pos, h.dia, h.len, h.ltr⟩
theorem RowI.setX (h : RowI P n k S) (x : X) : RowI P n k (S.setX x) := ⟨h.pos, h.dia, h.len, h.ltr⟩
theorem RowI.setPu (h : RowI P n k S) (i : Nat) {v : Int} (hv : 0 ≤ v) : RowI P n k (S.setPu i v) := ⟨fun a ha => by
  show 0 ≤ fset S.pu i v a
  unfold fset
  split
  · exact hv
  · exact h.pos a ha, h.dia, h.len, h.ltr⟩
theorem RowI.setRow (h : RowI P n k S) {r : List Lt} {k' : Nat} (hk : k ≤ k') (ne : i ≠ j) (hr : r.length ≤ k') (hp : ∀ l ∈ r, P l) : RowI P n k' (S.setRow i j r) := by
  have R : ∀ a b, (S.setRow i j r).rw a b = if a = i ∧ b = j then r else S.rw a b := fun _ _ => rfl
  refine ⟨h.pos, fun a ha => ?_, fun a b ha hb => ?_, fun a b ha hb l hl => ?_⟩
  · rw [R, if_neg (fun z => ne (z.1.symm.trans z.2))]; exact h.dia a ha
  · rw [R]
    split
    · exact hr
    · exact Nat.le_trans (h.len a b ha hb) hk
  · rw [R] at hl
    split at hl
    · exact hp l hl
    · exact h.ltr a b ha hb l hl
theorem RowI.pop (h : RowI P n k S) (hi : i < n) (hj : j < n) {l : Lt} {r : List Lt} (e : S.rw i j = l :: r) : RowI P n k (S.setRow i j r) ∧ P l ∧ i ≠ j := by
  have ne : i ≠ j := fun z => by
    subst z
    rw [h.dia i hi] at e
    cases e
  have ln := h.len i j hi hj
  have lt := h.ltr i j hi hj
  rw [e] at ln lt
  exact ⟨h.setRow (Nat.le_refl _) ne (by rw [List.length_cons] at ln; omega) fun l hl => lt l (List.mem_cons_of_mem _ hl), lt l List.mem_cons_self, ne⟩
theorem RowI.put (h : RowI P n k S) (hi : i < n) (hj : j < n) (ne : i ≠ j) {l : Lt} (hp : P l) : RowI P n (k + 1) (S.put i j l) :=
  h.setRow (Nat.le_succ _) ne (by rw [List.length_append, List.length_singleton]; have := h.len i j hi hj; omega) fun x hx => by
    rcases List.mem_append.mp hx with z | z
    · exact h.ltr i j hi hj x z
    · rw [List.mem_singleton.mp z]; exact hp
theorem cntL_snoc (w : Str) (r : List Lt) (l : Lt) : (cntL w (r ++ [l]) : Int) = cntL w r + if l.1 = w then 1 else 0 := by
  unfold cntL
  rw [List.filter_append, List.length_append]
  by_cases c : l.1 = w
  · rw [List.filter_cons_of_pos (by simpa using c), if_pos c]; simp
  · rw [List.filter_cons_of_neg (by simpa using c), if_neg c]; simp
theorem cntL_cons (w : Str) (r : List Lt) (l : Lt) : (cntL w (l :: r) : Int) = cntL w r + if l.1 = w then 1 else 0 := by
  unfold cntL
  by_cases c : l.1 = w
  · rw [List.filter_cons_of_pos (by simpa using c), if_pos c]; simp
  · rw [List.filter_cons_of_neg (by simpa using c), if_neg c]; simp
/-- letters of a word from a hand, to a hand -/
def outW (w : Str) (n : Nat) (S : NS X) (h : Nat) : Int := rsum n fun j => (cntL w (S.rw h j) : Int)
def inW (w : Str) (n : Nat) (S : NS X) (h : Nat) : Int := rsum n fun j => (cntL w (S.rw j h) : Int)
theorem outW_nn (w : Str) (h : Nat) : 0 ≤ outW w n S h := rsum_nonneg fun _ _ => Int.natCast_nonneg _
theorem inW_nn (w : Str) (h : Nat) : 0 ≤ inW w n S h := rsum_nonneg fun _ _ => Int.natCast_nonneg _
theorem outW_row {w : Str} {r : List Lt} (hj : j < n) (h : Nat) : outW w n (S.setRow i j r) h = outW w n S h + if h = i then (cntL w r : Int) - cntL w (S.rw i j) else 0 := by
  have R : ∀ a b, (S.setRow i j r).rw a b = if a = i ∧ b = j then r else S.rw a b := fun _ _ => rfl
  unfold outW
  by_cases c : h = i
  · subst c
    rw [if_pos rfl, rsum_set (f := fun b => (cntL w (S.rw h b) : Int)) (k := j) (fun t ht => by rw [R, if_neg (fun z => ht z.2)]) hj, R, if_pos ⟨rfl, rfl⟩]
    omega
  · rw [if_neg c, rsum_congr (g := fun b => (cntL w (S.rw h b) : Int)) fun t _ => by rw [R, if_neg (fun z => c z.1)]]
    omega
theorem inW_row {w : Str} {r : List Lt} (hi : i < n) (h : Nat) : inW w n (S.setRow i j r) h = inW w n S h + if h = j then (cntL w r : Int) - cntL w (S.rw i j) else 0 := by
  have R : ∀ a b, (S.setRow i j r).rw a b = if a = i ∧ b = j then r else S.rw a b := fun _ _ => rfl
  unfold inW
  by_cases c : h = j
  · subst c
    rw [if_pos rfl, rsum_set (f := fun b => (cntL w (S.rw b h) : Int)) (k := i) (fun t ht => by rw [R, if_neg (fun z => ht z.1)]) hi, R, if_pos ⟨rfl, rfl⟩]
    omega
  · rw [if_neg c, rsum_congr (g := fun b => (cntL w (S.rw b h) : Int)) fun t _ => by rw [R, if_neg (fun z => c z.2)]]
    omega
theorem outW_put {w : Str} {l : Lt} (hj : j < n) (h : Nat) : outW w n (S.put i j l) h = outW w n S h + if h = i ∧ l.1 = w then 1 else 0 := by
  show outW w n (S.setRow i j _) h = _
  rw [outW_row hj, cntL_snoc]
  by_cases c : h = i
  · by_cases d : l.1 = w
    · rw [if_pos c, if_pos d, if_pos ⟨c, d⟩]; omega
    · rw [if_pos c, if_neg d, if_neg (fun z => d z.2)]; omega
  · rw [if_neg c, if_neg (fun z => c z.1)]
theorem inW_put {w : Str} {l : Lt} (hi : i < n) (h : Nat) : inW w n (S.put i j l) h = inW w n S h + if h = j ∧ l.1 = w then 1 else 0 := by
  show inW w n (S.setRow i j _) h = _
  rw [inW_row hi, cntL_snoc]
  by_cases c : h = j
  · by_cases d : l.1 = w
    · rw [if_pos c, if_pos d, if_pos ⟨c, d⟩]; omega
    · rw [if_pos c, if_neg d, if_neg (fun z => d z.2)]; omega
  · rw [if_neg c, if_neg (fun z => c z.1)]
theorem outW_pop {w : Str} {l : Lt} {r : List Lt} (hj : j < n) (e : S.rw i j = l :: r) (h : Nat) : outW w n (S.setRow i j r) h = outW w n S h - if h = i ∧ l.1 = w then 1 else 0 := by
  rw [outW_row hj, e, cntL_cons]
  by_cases c : h = i
  · by_cases d : l.1 = w
    · rw [if_pos c, if_pos d, if_pos ⟨c, d⟩]; omega
    · rw [if_pos c, if_neg d, if_neg (fun z => d z.2)]; omega
  · rw [if_neg c, if_neg (fun z => c z.1)]; omega
theorem inW_pop {w : Str} {l : Lt} {r : List Lt} (hi : i < n) (e : S.rw i j = l :: r) (h : Nat) : inW w n (S.setRow i j r) h = inW w n S h - if h = j ∧ l.1 = w then 1 else 0 := by
  rw [inW_row hi, e, cntL_cons]
  by_cases c : h = j
  · by_cases d : l.1 = w
    · rw [if_pos c, if_pos d, if_pos ⟨c, d⟩]; omega
    · rw [if_pos c, if_neg d, if_neg (fun z => d z.2)]; omega
  · rw [if_neg c, if_neg (fun z => c z.1)]; omega
theorem cntW_out {w : Str} : cntW n S w = rsum n (outW w n S) := sq_rows n fun i j => (cntL w (S.rw i j) : Int)
end

/-! ### what the law notes of a net -/
structure TrA where
  tr : Addr
  a0 : Addr
  a1 : Addr
  a2 : Addr
structure Tr where
  up : Nat → Bool
  c : Int
  sent : Nat → Int
  came : Nat → Int
def TrM (A : TrA) : Addr → Prop := fun b => b = A.tr ∨ b = A.a0 ∨ b = A.a1 ∨ b = A.a2
structure TruAt (H : Hp) (n : Nat) (A : TrA) (τ : Tr) : Prop where
  tr : H A.tr = some (.lst [.ref A.a0, .int τ.c, .ref A.a1, .ref A.a2])
  a0 : H A.a0 = some (.lst ((List.range n).map fun i => V.bl (τ.up i)))
  a1 : H A.a1 = some (.lst ((List.range n).map fun i => V.int (τ.sent i)))
  a2 : H A.a2 = some (.lst ((List.range n).map fun i => V.int (τ.came i)))
  n1 : A.tr ≠ A.a0
  n2 : A.tr ≠ A.a1
  n3 : A.tr ≠ A.a2
  n4 : A.a0 ≠ A.a1
  n5 : A.a0 ≠ A.a2
  n6 : A.a1 ≠ A.a2
section
variable {H H' : Hp} {n : Nat} {A : TrA} {τ : Tr}
theorem TruAt.fr {F : Addr → Prop} (h : TruAt H n A τ) (f : Fr F H H') (d : ∀ b, TrM A b → ¬ F b) : TruAt H' n A τ :=
  ⟨f.keep _ _ h.tr (d _ (.inl rfl)), f.keep _ _ h.a0 (d _ (.inr (.inl rfl))), f.keep _ _ h.a1 (d _ (.inr (.inr (.inl rfl)))), f.keep _ _ h.a2 (d _ (.inr (.inr (.inr rfl)))), h.n1, h.n2, h.n3, h.n4, h.n5, h.n6⟩
theorem TruAt.fr0 (h : TruAt H n A τ) (f : Fr F0 H H') : TruAt H' n A τ := h.fr f fun _ _ z => z
theorem TruAt.here (h : TruAt H n A τ) {b : Addr} (d : TrM A b) : ∃ o, H b = some o ∧ noTup o := by
  rcases d with rfl | rfl | rfl | rfl
  · exact ⟨_, h.tr, trivial⟩
  · exact ⟨_, h.a0, trivial⟩
  · exact ⟨_, h.a1, trivial⟩
  · exact ⟨_, h.a2, trivial⟩
def Tr.note (τ : Tr) : Option Deed → Tr
  | none => τ
  | some (.rest i) => { τ with up := fset τ.up i false }
  | some (.send i _ _) => { τ with c := τ.c + 1, sent := fset τ.sent i (τ.sent i + 1) }
  | some (.come _ j l _) => if l.1 = "work" then { τ with up := fset τ.up j true, c := τ.c - 1, came := fset τ.came j (τ.came j + 1) } else τ
theorem TruAt.setC (h : TruAt H n A τ) (v : Int) : TruAt (upd H A.tr (.lst [.ref A.a0, .int v, .ref A.a1, .ref A.a2])) n A { τ with c := v } ∧ Fr (TrM A) H (upd H A.tr (.lst [.ref A.a0, .int v, .ref A.a1, .ref A.a2])) :=
  ⟨⟨upd_same, upd_at h.a0 h.n1.symm, upd_at h.a1 h.n2.symm, upd_at h.a2 h.n3.symm, h.n1, h.n2, h.n3, h.n4, h.n5, h.n6⟩, .put h.tr trivial (.inl rfl)⟩
theorem TruAt.setUp (h : TruAt H n A τ) (f : Nat → Bool) : TruAt (upd H A.a0 (.lst ((List.range n).map fun i => V.bl (f i)))) n A { τ with up := f } ∧ Fr (TrM A) H (upd H A.a0 (.lst ((List.range n).map fun i => V.bl (f i)))) :=
  ⟨⟨upd_at h.tr h.n1, upd_same, upd_at h.a1 h.n4.symm, upd_at h.a2 h.n5.symm, h.n1, h.n2, h.n3, h.n4, h.n5, h.n6⟩, .put h.a0 trivial (.inr (.inl rfl))⟩
theorem TruAt.setSent (h : TruAt H n A τ) (f : Nat → Int) : TruAt (upd H A.a1 (.lst ((List.range n).map fun i => V.int (f i)))) n A { τ with sent := f } ∧ Fr (TrM A) H (upd H A.a1 (.lst ((List.range n).map fun i => V.int (f i)))) :=
  ⟨⟨upd_at h.tr h.n2, upd_at h.a0 h.n4, upd_same, upd_at h.a2 h.n6.symm, h.n1, h.n2, h.n3, h.n4, h.n5, h.n6⟩, .put h.a1 trivial (.inr (.inr (.inl rfl)))⟩
theorem TruAt.setCame (h : TruAt H n A τ) (f : Nat → Int) : TruAt (upd H A.a2 (.lst ((List.range n).map fun i => V.int (f i)))) n A { τ with came := f } ∧ Fr (TrM A) H (upd H A.a2 (.lst ((List.range n).map fun i => V.int (f i)))) :=
  ⟨⟨upd_at h.tr h.n3, upd_at h.a0 h.n5, upd_at h.a1 h.n6, upd_same, h.n1, h.n2, h.n3, h.n4, h.n5, h.n6⟩, .put h.a2 trivial (.inr (.inr (.inr rfl)))⟩
variable {G : En}
def quT (n : Nat) (τ : Tr) : Bool := decide ((List.range n).filter τ.up = []) && decide (τ.c = 0)
theorem cnt_true (f : Nat → Bool) (n : Nat) : ((List.range n).map fun i => V.bl (f i)).countP (fun z => eqV z (.bl true)) = ((List.range n).filter f).length := by
  rw [List.countP_map, List.countP_eq_length_filter]
  congr 2
  funext i
  show eqV (.bl (f i)) (.bl true) = f i
  cases f i <;> decide
theorem flat_bls (f : Nat → Bool) (n : Nat) : ((List.range n).map fun i => V.bl (f i)).all flatV = true := List.all_eq_true.mpr fun x hx => by
  obtain ⟨i, _, rfl⟩ := List.mem_map.mp hx; rfl
end
/-! ### the noted and the net -/
structure TrOk {X : Type} (n : Nat) (S : NS X) (τ : Tr) : Prop where
  up : ∀ i, i < n → τ.up i = S.up i
  c : τ.c = cntW n S "work"
section
variable {X : Type} {hk : Hk X} {L : NL X} {S S' : NS X} {τ : Tr}
theorem TrOk.quiet {n : Nat} (h : TrOk n S τ) : quT n τ = qui n S := by
  unfold quT qui
  rw [h.c, show (List.range n).filter τ.up = awk n S from List.filter_congr fun i hi => h.up i (List.mem_range.mp hi)]
theorem cntP_ap {n : Nat} {p : PrS} {i j : Nat} {q : List Int} (hi : i < n) (hj : j < n) {u : Nat → Bool} {v : Nat → Int} : cntP n ⟨u, v, fset2 p.ld i j q⟩ = cntP n p - (p.ld i j).length + q.length := by
  unfold cntP
  rw [sq_set (f := fun i j => ((p.ld i j).length : Int)) hi hj (fun a b c => by show ((fset2 p.ld i j q a b).length : Int) = _; rw [fset2_ne c])]
  show _ + ((fset2 p.ld i j q i j).length : Int) = _
  rw [fset2_same]
theorem TrOk.step (hp : HkPas hk) (h : TrOk L.n S τ) {d : Deed} (r : doR hk L S d S') : TrOk L.n S' (τ.note (some d)) := by
  have e := do_prj hp r
  have eu : S'.up = (d.ap (prj S)).up := congrArg PrS.up e
  have ec : cntW L.n S' "work" = cntP L.n (d.ap (prj S)) := by rw [cntW_prj, e]
  have hc := h.c
  rw [cntW_prj] at hc
  cases d with
  | rest i => exact ⟨fun a ha => by rw [eu]; show fset _ _ _ a = fset _ _ _ a; unfold fset; split; rfl; exact h.up a ha, by rw [ec]; exact hc⟩
  | send i j l =>
    obtain ⟨hi, hj, _⟩ := r
    refine ⟨fun a ha => by rw [eu]; exact h.up a ha, ?_⟩
    rw [ec]
    show τ.c + 1 = cntP L.n ⟨_, _, fset2 (prj S).ld i j _⟩
    rw [cntP_ap hi hj, hc, List.length_append, List.length_singleton]
    omega
  | come i j l r' =>
    obtain ⟨hi, hj, _, hr, _⟩ := r
    by_cases w : l.1 = "work"
    · have e1 : τ.note (some (.come i j l r')) = { τ with up := fset τ.up j true, c := τ.c - 1, came := fset τ.came j (τ.came j + 1) } := if_pos w
      have e2 : (Deed.come i j l r').ap (prj S) = ⟨fset (prj S).up j true, fset (prj S).pu j ((prj S).pu j + ldOf l), fset2 (prj S).ld i j ((prj S).ld i j).tail⟩ := if_pos w
      rw [e2] at eu ec
      rw [e1]
      refine ⟨fun a ha => by rw [eu]; show fset _ _ _ a = fset _ _ _ a; unfold fset; split; rfl; exact h.up a ha, ?_⟩
      rw [ec]
      show τ.c - 1 = cntP L.n ⟨_, _, fset2 (prj S).ld i j _⟩
      rw [cntP_ap hi hj, hc, List.length_tail]
      have : 0 < ((prj S).ld i j).length := by
        show 0 < (lds (S.rw i j)).length
        rw [hr]
        unfold lds
        rw [List.filter_cons_of_pos (by simpa using w)]
        simp
      omega
    · have e1 : τ.note (some (.come i j l r')) = τ := if_neg w
      have e2 : (Deed.come i j l r').ap (prj S) = prj S := if_neg w
      rw [e2] at eu ec
      rw [e1]
      exact ⟨fun a ha => by rw [eu]; exact h.up a ha, by rw [ec]; exact hc⟩
end

/-! ### the law's own -/
def spLaw (K : PySem.W.Frag) : Sp := fun vs H Q _ => ∃ (a : Addr) (ns : List Int), vs = [.ref a] ∧ SqL K H a (ns.map V.int) ∧ ns.length ≤ 63 ∧ ∀ H', Q (.bl true) H'
theorem nats_ints (l : List Nat) : l.map natV = (l.map fun (i : Nat) => (i : Int)).map V.int := by rw [List.map_map]; rfl
theorem x_notBl {p q : Bool} {H : Hp} {Q : VK} (k : Q (.bl (!decide (p = q))) H) : rNotB (.bl p) (.bl q) H Q := ⟨p, q, rfl, rfl, k⟩
theorem x_notBlT {H : Hp} {Q : VK} (k : Q (.bl false) H) : rNotB (.bl true) (.bl true) H Q := x_notBl k
section
variable {X : Type} {t c x dx : Addr} {L : NL X} {S S' : NS X} {H H' : Hp} {o1 o2 : HO} {A : TrA} {τ : Tr}
theorem made_fr (hx : H x = none) (hdx : H dx = none) (f : Fr (fun b => b = x) (upd (upd H dx o1) x o2) H') : Fr F0 H H' :=
  ⟨fun b o e _ => f.keep b o (upd_at (upd_at e (ne_of_none e hdx)) (ne_of_none e hx)) (ne_of_none e hx), fun b xs e => f.tup b xs (upd_at (upd_at e (ne_of_none e hdx)) (ne_of_none e hx)), fun b e => upd_dom (upd_dom (f.dom b e))⟩
theorem made_nm {P : Addr → Prop} (hx : H x = none) (nm : ∀ b, P b → b = x ∨ upd (upd H dx o1) x o2 b = none) : ∀ b, P b → H b = none := fun b m => by
  rcases nm b m with rfl | z
  · exact hx
  · exact upd_dom (upd_dom z)
theorem WAt.made (tw : TownAt H t c) (hx : H x = none) (hdx : H dx = none) (nt : NetAt H' L S) (nm : ∀ b, NM L S b → b = x ∨ upd (upd H dx o1) x o2 b = none) (f : Fr (fun b => b = x) (upd (upd H dx o1) x o2) H') : WAt H' t c L S := by
  have F := made_fr hx hdx f
  have N := made_nm hx nm
  obtain ⟨o, e, _⟩ := tw.c1
  obtain ⟨o', e', _⟩ := tw.c2
  exact ⟨tw.fr0 F, nt, fun m => (nomatch (N _ m).symm.trans e), fun m => (nomatch (N _ m).symm.trans e')⟩
theorem WAt.outF {F : Addr → Prop} (h : WAt H t c L S) (f : Fr F H H') (d : ∀ b, WF t c L S b → ¬ F b) : WAt H' t c L S :=
  ⟨h.tw.fr f (d _ (.inr (.inl rfl))) (d _ (.inr (.inr rfl))), h.nt.fr f (fun b m => d b (.inl m)), h.o1, h.o2⟩
theorem ints_at {ns : List Int} {i : Nat} {v : V} (h : (ns.map V.int)[i]? = some v) : ∃ x ∈ ns, v = .int x := by
  rw [List.getElem?_map] at h
  obtain ⟨x, hx, rfl⟩ := Option.map_eq_some_iff.mp h
  exact ⟨x, List.mem_of_getElem? hx, rfl⟩
end

/-! ### words counted, sums over ways -/
theorem dp_pairsOf {K : PySem.W.Frag} {H H' : Hp} (kt : ∀ b xs, H b = some (.tup xs) → H' b = some (.tup xs)) : ∀ {ys : List V}, (∀ y ∈ ys, ∃ q i j, y = V.ref q ∧ H q = some (.tup [.int i, .int j])) → DpAll K H' ys ((ys.map (pairOf H)).map encPair.f)
  | [], _ => .nil
  | y :: ys, mem => by
    obtain ⟨q, i, j, rfl, z⟩ := mem y List.mem_cons_self
    have : pairOf H (.ref q) = (i, j) := by
      show (match H q with
        | some (.tup [.int i, .int j]) => (i, j)
        | _ => ((0 : Int), (0 : Int))) = _
      rw [z]
    rw [List.map_cons, List.map_cons, this]
    exact .cons (.tup (SqT.of (kt _ _ z)) (.cons (.int _) (.cons (.int _) .nil))) (dp_pairsOf kt fun y hy => mem y (List.mem_cons_of_mem _ hy))
theorem lst_pairsOf {K : PySem.W.Frag} {H H' : Hp} {p : Addr} {ys : List V} (hp : H' p = some (.lst ys)) (kt : ∀ b xs, H b = some (.tup xs) → H' b = some (.tup xs)) (mem : ∀ y ∈ ys, ∃ q i j, y = V.ref q ∧ H q = some (.tup [.int i, .int j])) :
    LstD K H' (.ref p) ((ys.map (pairOf H)).map encPair.f) := ⟨p, ys, rfl, SqL.of hp, dp_pairsOf kt mem⟩
theorem flat_strs (r : List Lt) : (r.map fun l => V.str l.1).all flatV = true := List.all_eq_true.mpr fun x hx => by
  obtain ⟨l, _, rfl⟩ := List.mem_map.mp hx; rfl
theorem cnt_strs (w : Str) (r : List Lt) : (r.map fun l => V.str l.1).countP (fun z => eqV z (.str w)) = cntL w r := by
  rw [List.countP_map, List.countP_eq_length_filter]
  unfold cntL
  congr 2
theorem filt_len_sum (b : Nat → Bool) : ∀ m, (((List.range m).filter b).length : Int) = rsum m fun i => if b i = true then 1 else 0
  | 0 => rfl
  | m + 1 => by
    rw [List.range_succ, List.filter_append, List.length_append, rsum_succ, ← filt_len_sum b m]
    cases e : b m
    · rw [List.filter_cons_of_neg (by simp [e])]; simp
    · rw [List.filter_cons_of_pos e]; simp
theorem range_filt_len {α : Type} (b : α → Bool) (d : α) (xs : List α) : ((List.range xs.length).filter fun i => b (xs.getD i d)).length = (xs.filter b).length := by
  have := congrArg List.length (range_filt b (fun x => x) d xs)
  rw [List.length_map, List.length_map] at this
  exact this
theorem sum_filt_rsum (f : Nat → Int) (b : Nat → Bool) (hb : ∀ t, b t = false → f t = 0) : ∀ m, (((List.range m).filter b).map f).sum = rsum m f
  | 0 => rfl
  | m + 1 => by
    rw [List.range_succ, List.filter_append, List.map_append, List.sum_append, sum_filt_rsum f b hb m, rsum_succ]
    cases e : b m
    · rw [List.filter_cons_of_neg (by simp [e]), hb m e]; simp
    · rw [List.filter_cons_of_pos e]; simp

/-! ### counts over all ways -/
section
variable {X : Type} {n i j : Nat} {S : NS X} {w : Str}
theorem cntW_nn : 0 ≤ cntW n S w := rsum_nonneg fun _ _ => Int.natCast_nonneg _
theorem cntW_row {r : List Lt} (hi : i < n) (hj : j < n) : cntW n (S.setRow i j r) w = cntW n S w - cntL w (S.rw i j) + cntL w r := by
  have R : ∀ a b, (S.setRow i j r).rw a b = if a = i ∧ b = j then r else S.rw a b := fun _ _ => rfl
  show sq n (fun a b => (cntL w ((S.setRow i j r).rw a b) : Int)) = sq n (fun a b => (cntL w (S.rw a b) : Int)) - _ + _
  rw [sq_set (f := fun a b => (cntL w (S.rw a b) : Int)) hi hj (fun a b c => by rw [R, if_neg c]), R, if_pos ⟨rfl, rfl⟩]
theorem cntW_put {l : Lt} (hi : i < n) (hj : j < n) : cntW n (S.put i j l) w = cntW n S w + if l.1 = w then 1 else 0 := by
  show cntW n (S.setRow i j _) w = _
  rw [cntW_row hi hj, cntL_snoc]; omega
theorem cntW_pop {l : Lt} {r : List Lt} (hi : i < n) (hj : j < n) (e : S.rw i j = l :: r) : cntW n (S.setRow i j r) w = cntW n S w - if l.1 = w then 1 else 0 := by
  rw [cntW_row hi hj, e, cntL_cons]; omega
theorem wys_nil (h : wys n S = []) : ∀ i j, i < n → j < n → S.rw i j = [] := fun i j hi hj => by
  have := List.filter_eq_nil_iff.mp h (i * n + j) (List.mem_range.mpr (dlt hi hj))
  rw [(dm hj).1, (dm hj).2] at this
  simpa using this
theorem nil_wys (h : ∀ i j, i < n → j < n → S.rw i j = []) : wys n S = [] := List.filter_eq_nil_iff.mpr fun t ht => by
  obtain ⟨d1, d2⟩ := div_lt (List.mem_range.mp ht)
  simp [h _ _ d1 d2]
theorem awk_nil (h : awk n S = []) : ∀ i, i < n → S.up i = false := fun i hi => by simpa using List.filter_eq_nil_iff.mp h i (List.mem_range.mpr hi)
theorem rsum_le {f g : Nat → Int} : ∀ {m : Nat}, (∀ t, t < m → f t ≤ g t) → rsum m f ≤ rsum m g
  | 0, _ => Int.le_refl _
  | m + 1, h => by
    rw [rsum_succ, rsum_succ]
    have := rsum_le (f := f) (g := g) (m := m) fun t ht => h t (by omega)
    have := h m (by omega)
    omega
theorem rsum_swap (f : Nat → Nat → Int) (a : Nat) : ∀ b, rsum a (fun i => rsum b (f i)) = rsum b fun j => rsum a fun i => f i j
  | 0 => rsum_zero fun _ _ => rfl
  | b + 1 => by
    rw [rsum_succ, ← rsum_swap f a b, ← rsum_add]
    exact rsum_congr fun t _ => rsum_succ _ _
theorem rsum_delta {k m : Nat} (hk : k < m) (v : Int) : rsum m (fun t => if t = k then v else 0) = v := by
  rw [rsum_set (f := fun _ => 0) (k := k) (fun t ht => if_neg ht) hk, rsum_zero fun _ _ => rfl, if_pos rfl]; omega
def upc (n : Nat) (up : Nat → Bool) : Int := rsum n fun i => if up i = true then 1 else 0
theorem upc_nn (up : Nat → Bool) : 0 ≤ upc n up := rsum_nonneg fun _ _ => by split <;> decide
theorem upc_set {up : Nat → Bool} (hi : i < n) (b : Bool) : upc n (fset up i b) = upc n up - (if up i = true then 1 else 0) + (if b = true then 1 else 0) := by
  unfold upc
  rw [rsum_set (f := fun i => if up i = true then 1 else 0) (k := i) (fun t ht => by rw [fset_ne ht]) hi, fset_same]
theorem lst_nats (K : PySem.W.Frag) {H : Hp} {a : Addr} {l : List Nat} (h : H a = some (.lst (l.map natV))) : LstD K H (.ref a) ((l.map fun (i : Nat) => (i : Int)).map encInt.f) := by
  rw [nats_ints] at h
  exact lst_ints (SqL.of h)
theorem sum_ints {H : Hp} {Q : VK} {K : PySem.W.Frag} {a : Addr} {f : Nat → Int} (h : H a = some (.lst ((List.range n).map fun i => V.int (f i)))) (k : Q (.int (rsum n f)) H) : rSum K [.ref a] H Q :=
  x_sum (ns := (List.range n).map f) (by rw [h, List.map_map]; rfl) k
end
theorem map_rep0'' {α : Type} (v : α) {n : Nat} : List.replicate n v = (List.range n).map fun _ => v := by
  refine List.ext_getElem? fun i => ?_
  by_cases c : i < n
  · rw [rg_ix _ c, List.getElem?_replicate, if_pos c]
  · rw [List.getElem?_eq_none (by simpa using c), List.getElem?_eq_none (by simpa using c)]
theorem quiet_of {n : Nat} {X : Type} {S : NS X} (h1 : awk n S = []) (h2 : wys n S = []) : qui n S = true := by
  unfold qui
  rw [decide_eq_true h1, Bool.true_and]
  refine decide_eq_true ?_
  unfold cntW
  have : ((List.range (n * n)).map fun t => (cntL "work" (S.rw (t / n) (t % n)) : Int)) = List.replicate (n * n) 0 := by
    rw [map_rep0'' (0 : Int)]
    refine List.map_congr_left fun t ht => ?_
    have e : S.rw (t / n) (t % n) = [] := Classical.byContradiction fun c => by
      have := List.filter_eq_nil_iff.mp h2 t ht
      simp [c] at this
    rw [e]; rfl
  rw [this]; simp

/-! ### a ring: what is always so -/
def RgP (l : Lt) : Prop := (∃ x : Int, l = wL x .none ∧ 0 ≤ x) ∨ ∃ b d, l = tokL b d
/-- where the token is: held by t, or on its way to t; what it bears -/
def TokAt (n : Nat) (S : NS RX) (t : Nat) (b : Int) (d : Bool) : Prop :=
  (S.x.holder = some t ∧ S.x.bears = b ∧ S.x.dark = d ∧ cntW n S "token" = 0) ∨ (S.x.holder = none ∧ cntW n S "token" = 1 ∧ ∃ i, i < n ∧ t = prv n i ∧ tokL b d ∈ S.rw i t)
def P1 (n : Nat) (S : NS RX) (t : Nat) (b : Int) : Prop := (∀ i, t < i → i < n → S.up i = false) ∧ rsum n (fun i => if t < i then S.x.count i else 0) = b
def P2 (n : Nat) (S : NS RX) (t : Nat) (b : Int) : Prop := 0 < rsum n (fun i => if t < i then 0 else S.x.count i) + b
def P3 (S : NS RX) (t : Nat) : Prop := ∃ i, i ≤ t ∧ S.x.black i = true
def Safra (n : Nat) (S : NS RX) (t : Nat) (b : Int) (d : Bool) : Prop := P1 n S t b ∨ P2 n S t b ∨ P3 S t ∨ d = true
structure RgI (n k : Nat) (S : NS RX) : Prop where
  row : RowI RgP n k S
  sum : rsum n S.x.count = cntW n S "work"
  tok : ∃ t b d, t < n ∧ TokAt n S t b d ∧ Safra n S t b d
  dn : S.x.done = true → awk n S = [] ∧ wys n S = [] ∧ S.x.holder = some 0
theorem pas_rg : HkPas hkR where
  mark := fun {L S i j S' d} h => by obtain ⟨rfl, _⟩ := h; exact .setX S _
  rest := fun {L S i S'} h => by cases h; exact .refl S
  work := fun {L S i j x e S'} h => by cases h; exact .setX S _
  ctrl := fun {L S i j w d S'} h => by obtain ⟨b, k, _, rfl⟩ := h; exact .setX S _
  bef := fun {L S i j x S'} h => by cases h; exact .refl S
section
variable {n k : Nat} {S : NS RX}
theorem rsum_part (f : Nat → Int) (t : Nat) : rsum n (fun i => if t < i then f i else 0) + rsum n (fun i => if t < i then 0 else f i) = rsum n f := by
  rw [← rsum_add]
  exact rsum_congr fun i _ => by split <;> omega
theorem cnt_tok {i j : Nat} (hi : i < n) (hj : j < n) {l : Lt} (h : l ∈ S.rw i j) (e : l.1 = "token") : 1 ≤ cntW n S "token" := by
  have := sq_ge (n := n) (f := fun a b => (cntL "token" (S.rw a b) : Int)) (fun _ _ _ _ => Int.natCast_nonneg _) hi hj
  have c : 0 < cntL "token" (S.rw i j) := List.length_pos_iff.mpr fun z => by
    have := List.filter_eq_nil_iff.mp z l h
    simp [e] at this
  have : (cntL "token" (S.rw i j) : Int) ≤ cntW n S "token" := this
  omega
/-- the one token -/
theorem tok_one {i j a b : Nat} (hi : i < n) (hj : j < n) (ha : a < n) (hb : b < n) {l m : Lt} {r : List Lt} (c : cntW n S "token" = 1) (e : S.rw i j = l :: r) (el : l.1 = "token") (hm : m ∈ S.rw a b) (em : m.1 = "token") : a = i ∧ b = j ∧ m = l := by
  have p := cntW_pop (w := "token") hi hj e
  rw [if_pos el, c] at p
  have R : ∀ x y, (S.setRow i j r).rw x y = if x = i ∧ y = j then r else S.rw x y := fun _ _ => rfl
  have none_ : ∀ x y, x < n → y < n → ∀ q ∈ (S.setRow i j r).rw x y, q.1 ≠ "token" := fun x y hx hy q hq eq => by
    have := cnt_tok (S := S.setRow i j r) hx hy hq eq
    omega
  by_cases z : a = i ∧ b = j
  · obtain ⟨rfl, rfl⟩ := z
    refine ⟨rfl, rfl, ?_⟩
    rw [e] at hm
    rcases List.mem_cons.mp hm with y | y
    · exact y
    · exact absurd em (none_ a b ha hb m (by rw [R, if_pos ⟨rfl, rfl⟩]; exact y))
  · exact absurd em (none_ a b ha hb m (by rw [R, if_neg z]; exact hm))
theorem prv_lt {i : Nat} (h : 0 < n) : prv n i < n := Nat.mod_lt _ h
theorem prv_pos {i : Nat} (h : 0 < i) (hi : i < n) : prv n i = i - 1 := by
  unfold prv
  rw [show i + n - 1 = (i - 1) + n by omega, Nat.add_mod_right, Nat.mod_eq_of_lt (by omega)]
theorem prv_zero (h : 0 < n) : prv n 0 = n - 1 := by
  unfold prv
  rw [show 0 + n - 1 = n - 1 by omega, Nat.mod_eq_of_lt (by omega)]
theorem prv_ne {i : Nat} (h : 2 ≤ n) (hi : i < n) : i ≠ prv n i := fun z => by
  rcases Nat.eq_zero_or_pos i with y | y
  · subst y; rw [prv_zero (by omega)] at z; omega
  · rw [prv_pos y hi] at z; omega
theorem RgI.rest (h : RgI n k S) {i : Nat} (hi : i < n) (hu : S.up i = true) : RgI n k (S.setUp i false) := by
  obtain ⟨t, b, d, ht, tk, sf⟩ := h.tok
  refine ⟨h.row.setUp i false, h.sum, ⟨t, b, d, ht, tk, ?_⟩, fun e => ?_⟩
  · rcases sf with ⟨q1, q2⟩ | q | q | q
    · refine .inl ⟨fun a h1 h2 => ?_, q2⟩
      show fset S.up i false a = false
      unfold fset
      split
      · rfl
      · exact q1 a h1 h2
    · exact .inr (.inl q)
    · exact .inr (.inr (.inl q))
    · exact .inr (.inr (.inr q))
  · have := awk_nil (h.dn e).1 i hi
    rw [hu] at this; cases this
theorem RgI.send (h : RgI n k S) {i j : Nat} (hi : i < n) (hj : j < n) (ne : i ≠ j) (hu : S.up i = true) {l : Int} (l0 : 0 ≤ l) (l1 : l ≤ S.pu i) :
    RgI n (k + 1) ((cnR (S.setPu i (S.pu i - l)) i (S.x.count i + 1)).put i j (wL l .none)) := by
  obtain ⟨t, b, d, ht, tk, sf⟩ := h.tok
  have ct : cntW n ((cnR (S.setPu i (S.pu i - l)) i (S.x.count i + 1)).put i j (wL l .none)) "token" = cntW n S "token" := by
    rw [cntW_put hi hj, if_neg nkt, Int.add_zero]; rfl
  have R : ∀ x y, ((cnR (S.setPu i (S.pu i - l)) i (S.x.count i + 1)).put i j (wL l .none)).rw x y = if x = i ∧ y = j then S.rw i j ++ [wL l .none] else S.rw x y := fun _ _ => rfl
  refine ⟨((h.row.setPu i (by omega)).setX _).put hi hj ne (.inl ⟨l, rfl, l0⟩), ?_, ⟨t, b, d, ht, ?_, ?_⟩, fun e => ?_⟩
  · show rsum n (fset S.x.count i (S.x.count i + 1)) = _
    rw [rsum_fset hi, cntW_put hi hj, if_pos rfl, h.sum]
    show _ = cntW n S "work" + 1
    omega
  · rcases tk with ⟨e1, e2, e3, e4⟩ | ⟨e1, e2, a, ha, e3, e4⟩
    · exact .inl ⟨e1, e2, e3, by rw [ct]; exact e4⟩
    · refine .inr ⟨e1, by rw [ct]; exact e2, a, ha, e3, ?_⟩
      rw [R]
      split
      · rename_i z
        rw [← z.1, ← z.2]
        exact List.mem_append_left _ e4
      · exact e4
  · rcases sf with ⟨q1, q2⟩ | q | q | q
    · have it : ¬ t < i := fun z => by rw [q1 i z hi] at hu; cases hu
      refine .inl ⟨q1, ?_⟩
      rw [← q2]
      refine rsum_congr fun a _ => ?_
      show (if t < a then fset S.x.count i _ a else 0) = _
      by_cases z : t < a
      · rw [if_pos z, if_pos z, fset_ne (fun y => it (by rw [← y]; exact z))]
      · rw [if_neg z, if_neg z]
    · refine .inr (.inl ?_)
      have : rsum n (fun a => if t < a then 0 else S.x.count a) ≤ rsum n (fun a => if t < a then 0 else fset S.x.count i (S.x.count i + 1) a) := rsum_le fun a _ => by
        split
        · exact Int.le_refl _
        · unfold fset
          split
          · rename_i y; subst y; omega
          · exact Int.le_refl _
      unfold P2 at q ⊢
      show 0 < rsum n (fun a => if t < a then 0 else fset S.x.count i (S.x.count i + 1) a) + b
      omega
    · exact .inr (.inr (.inl q))
    · exact .inr (.inr (.inr q))
  · have := awk_nil (h.dn e).1 i hi
    rw [hu] at this; cases this
theorem RgI.work (h : RgI n k S) {i j : Nat} (hi : i < n) (hj : j < n) {r : List Lt} {x : Int} {d : PyData} (e : S.rw i j = wL x d :: r) :
    RgI n k (blR (cnR (((S.setRow i j r).setUp j true).setPu j (S.pu j + x)) j (S.x.count j - 1)) j true) := by
  obtain ⟨p1, p2, ne⟩ := h.row.pop hi hj e
  have x0 : 0 ≤ x := by
    rcases p2 with ⟨y, ey, y0⟩ | ⟨_, _, ey⟩
    · cases ey; exact y0
    · exact absurd (congrArg Prod.fst ey) nkt
  have hp := h.row.pos j hj
  obtain ⟨t, b, dk, ht, tk, sf⟩ := h.tok
  have ct : cntW n (S.setRow i j r) "token" = cntW n S "token" := by rw [cntW_pop hi hj e, if_neg nkt]; omega
  have cw : cntW n (S.setRow i j r) "work" = cntW n S "work" - 1 := by rw [cntW_pop hi hj e, if_pos rfl]
  have w1 : 1 ≤ cntW n S "work" := by have := cntW_nn (n := n) (S := S.setRow i j r) (w := "work"); omega
  refine ⟨(((p1.setUp j true).setPu j (by omega)).setX _).setX _, ?_, ⟨t, b, dk, ht, ?_, ?_⟩, fun ed => ?_⟩
  · show rsum n (fset S.x.count j (S.x.count j - 1)) = cntW n (S.setRow i j r) "work"
    rw [rsum_fset hj, cw, h.sum]; omega
  · rcases tk with ⟨e1, e2, e3, e4⟩ | ⟨e1, e2, a, ha, e3, e4⟩
    · exact .inl ⟨e1, e2, e3, by show cntW n (S.setRow i j r) "token" = 0; rw [ct]; exact e4⟩
    · refine .inr ⟨e1, by show cntW n (S.setRow i j r) "token" = 1; rw [ct]; exact e2, a, ha, e3, ?_⟩
      show tokL b dk ∈ (if a = i ∧ t = j then r else S.rw a t)
      split
      · rename_i z
        rw [z.1, z.2, e] at e4
        rcases List.mem_cons.mp e4 with y | y
        · exact absurd (congrArg Prod.fst y) ntk
        · exact y
      · exact e4
  · by_cases jt : j ≤ t
    · exact .inr (.inr (.inl ⟨j, jt, fset_same⟩))
    · have P2' : P2 n S t b ∨ P3 S t ∨ dk = true := by
        rcases sf with ⟨q1, q2⟩ | q | q | q
        · refine .inl ?_
          have := rsum_part (n := n) S.x.count t
          unfold P2
          have hs := h.sum
          omega
        · exact .inl q
        · exact .inr (.inl q)
        · exact .inr (.inr q)
      rcases P2' with q | ⟨a, a1, a2⟩ | q
      · refine .inr (.inl ?_)
        unfold P2 at q ⊢
        have : rsum n (fun a => if t < a then 0 else fset S.x.count j (S.x.count j - 1) a) = rsum n (fun a => if t < a then 0 else S.x.count a) := rsum_congr fun a _ => by
          split
          · rfl
          · exact fset_ne fun y => by omega
        show 0 < rsum n (fun a => if t < a then 0 else fset S.x.count j (S.x.count j - 1) a) + b
        omega
      · refine .inr (.inr (.inl ⟨a, a1, ?_⟩))
        show fset S.x.black j true a = true
        unfold fset
        split
        · rfl
        · exact a2
      · exact .inr (.inr (.inr q))
  · have := wys_nil (h.dn ed).2.1 i j hi hj
    rw [e] at this; cases this
theorem RgI.token (h : RgI n k S) (n2 : 2 ≤ n) {i j : Nat} (hi : i < n) (hj : j < n) {r : List Lt} {b : Int} {d : Bool} (e : S.rw i j = tokL b d :: r) : RgI n k (coR (S.setRow i j r) j b d) := by
  obtain ⟨p1, p2, ne⟩ := h.row.pop hi hj e
  obtain ⟨t, b', d', ht, tk, sf⟩ := h.tok
  have ct : cntW n (S.setRow i j r) "token" = cntW n S "token" - 1 := by rw [cntW_pop hi hj e, if_pos rfl]
  have cw : cntW n (S.setRow i j r) "work" = cntW n S "work" := by rw [cntW_pop hi hj e, if_neg ntk]; omega
  have tk : cntW n S "token" = 1 ∧ ∃ a, a < n ∧ t = prv n a ∧ tokL b' d' ∈ S.rw a t := by
    rcases tk with ⟨_, _, _, e4⟩ | ⟨e1, e2, z⟩
    · have := cnt_tok hi hj (l := tokL b d) (by rw [e]; exact List.mem_cons_self) rfl
      omega
    · exact ⟨e2, z⟩
  obtain ⟨c1, a, ha, e3, e4⟩ := tk
  obtain ⟨rfl, rfl, ee⟩ := tok_one hi hj ha ht c1 e rfl e4 rfl
  have ee : b' = b ∧ d' = d := by
    have := congrArg Prod.snd ee
    simp only [tokL, PyData.tuple.injEq, List.cons.injEq, PyData.int.injEq, PyData.bool.injEq, and_true] at this
    exact this
  obtain ⟨rfl, rfl⟩ := ee
  refine ⟨p1.setX _, ?_, ⟨t, b', d', ht, .inl ⟨rfl, rfl, rfl, ?_⟩, sf⟩, fun ed => ?_⟩
  · show rsum n S.x.count = cntW n (S.setRow a t r) "work"
    rw [cw]; exact h.sum
  · show cntW n (S.setRow a t r) "token" = 0
    rw [ct, c1]; rfl
  · have := wys_nil (h.dn ed).2.1 a t hi hj
    rw [e] at this; cases this
/-- the token is passed on -/
theorem RgI.pass (h : RgI n k S) (n2 : 2 ≤ n) {i : Nat} (hi : i < n) (eh : S.x.holder = some i) (ed : S.x.done = false) (eu : S.up i = false) : RgI n (k + 1) (passR n S i) := by
  obtain ⟨t, b, d, ht, tk, sf⟩ := h.tok
  obtain ⟨e1, rfl, rfl, c0⟩ : t = i ∧ S.x.bears = b ∧ S.x.dark = d ∧ cntW n S "token" = 0 := by
    rcases tk with ⟨e1, e2, e3, e4⟩ | ⟨e1, _⟩
    · rw [eh] at e1; exact ⟨(Option.some.inj e1).symm, e2, e3, e4⟩
    · rw [eh] at e1; cases e1
  subst e1
  have h0 : 0 < n := by omega
  have hp := prv_lt (i := t) h0
  have ne := prv_ne n2 hi
  unfold passR
  split
  · rename_i te
    obtain ⟨rfl, t1, t2, t3⟩ := te
    refine ⟨(h.row.mono (Nat.le_succ _)).setX _, h.sum, ⟨0, _, _, ht, .inl ⟨eh, rfl, rfl, c0⟩, ?_⟩, fun _ => ?_⟩
    · exact sf
    · have sp := rsum_part (n := n) S.x.count 0
      have s0 : rsum n (fun i => if 0 < i then 0 else S.x.count i) = S.x.count 0 := by
        rw [rsum_congr (g := fun i => if i = 0 then S.x.count 0 else 0) fun i _ => by
          by_cases z : i = 0
          · subst z; rfl
          · rw [if_pos (by omega), if_neg z]]
        exact rsum_delta h0 _
      have q : P1 n S 0 S.x.bears := by
        rcases sf with q | q | ⟨a, a1, a2⟩ | q
        · exact q
        · unfold P2 at q; omega
        · have : a = 0 := by omega
          subst this; rw [t2] at a2; cases a2
        · rw [t1] at q; cases q
      obtain ⟨q1, q2⟩ := q
      have au : ∀ i, i < n → S.up i = false := fun i hi => by
        by_cases z : i = 0
        · subst z; exact eu
        · exact q1 i (by omega) hi
      have w0 : cntW n S "work" = 0 := by rw [← h.sum]; omega
      refine ⟨List.filter_eq_nil_iff.mpr fun i hi => by simp [dnR, NS.setX, au i (List.mem_range.mp hi)], nil_wys fun i j hi hj => ?_, eh⟩
      show S.rw i j = []
      cases q : S.rw i j with
      | nil => rfl
      | cons l r =>
        exfalso
        have hl := h.row.ltr i j hi hj l (by rw [q]; exact List.mem_cons_self)
        have a1 := sq_ge (n := n) (f := fun a b => (cntL "work" (S.rw a b) : Int)) (fun _ _ _ _ => Int.natCast_nonneg _) hi hj
        have a2 := sq_ge (n := n) (f := fun a b => (cntL "token" (S.rw a b) : Int)) (fun _ _ _ _ => Int.natCast_nonneg _) hi hj
        rw [q, cntL_cons] at a1 a2
        have b1 : sq n (fun a b => (cntL "work" (S.rw a b) : Int)) = 0 := w0
        have b2 : sq n (fun a b => (cntL "token" (S.rw a b) : Int)) = 0 := c0
        rw [b1] at a1
        rw [b2] at a2
        rcases hl with ⟨y, rfl, _⟩ | ⟨b, d, rfl⟩
        · rw [if_pos rfl] at a1; omega
        · rw [if_pos rfl] at a2; omega
  · rename_i te
    have ct : ∀ l : Lt, l.1 = "token" → cntW n ((hoR (blR S t false) none).put t (prv n t) l) "token" = 1 := fun l el => by
      rw [cntW_put hi hp, if_pos el]
      show cntW n S "token" + 1 = 1
      omega
    have cw : ∀ l : Lt, l.1 = "token" → cntW n ((hoR (blR S t false) none).put t (prv n t) l) "work" = cntW n S "work" := fun l el => by
      rw [cntW_put hi hp, if_neg (by rw [el]; exact ntk)]
      show cntW n S "work" + 0 = _
      omega
    have R : ∀ l : Lt, l ∈ ((hoR (blR S t false) none).put t (prv n t) l).rw t (prv n t) := fun l => by
      show l ∈ fset2 S.rw t (prv n t) (S.rw t (prv n t) ++ [l]) t (prv n t)
      rw [fset2_same]
      exact List.mem_append_right _ List.mem_cons_self
    have bl : ∀ a, a ≠ t → S.x.black a = true → fset S.x.black t false a = true := fun a ha e => by rw [fset_ne ha]; exact e
    by_cases z : t = 0
    · subst z
      rw [if_pos rfl]
      refine ⟨((h.row.setX _).setX _).put hi hp ne (.inr ⟨0, false, rfl⟩), by rw [cw _ rfl]; exact h.sum, ⟨prv n 0, 0, false, hp, .inr ⟨rfl, ct _ rfl, 0, hi, rfl, R _⟩, ?_⟩, fun e => ?_⟩
      · refine .inl ⟨fun i h1 h2 => ?_, ?_⟩
        · rw [prv_zero h0] at h1; omega
        · refine rsum_zero fun i hi => ?_
          rw [prv_zero h0, if_neg (by omega)]
      · have e : S.x.done = true := e
        rw [ed] at e; cases e
    · rw [if_neg z]
      have zp : 0 < t := by omega
      refine ⟨((h.row.setX _).setX _).put hi hp ne (.inr ⟨_, _, rfl⟩), by rw [cw _ rfl]; exact h.sum, ⟨prv n t, _, _, hp, .inr ⟨rfl, ct _ rfl, t, hi, rfl, R _⟩, ?_⟩, fun e => ?_⟩
      · have ep := prv_pos zp hi
        rw [ep]
        rcases sf with ⟨q1, q2⟩ | q | ⟨a, a1, a2⟩ | q
        · refine .inl ⟨fun i h1 h2 => ?_, ?_⟩
          · by_cases y : i = t
            · subst y; exact eu
            · exact q1 i (by omega) h2
          · show rsum n (fun i => if t - 1 < i then S.x.count i else 0) = _
            rw [rsum_set (f := fun i => if t < i then S.x.count i else 0) (k := t) (fun i hi => by
              by_cases y : t < i
              · rw [if_pos y, if_pos (by omega)]
              · rw [if_neg y, if_neg (by omega)]) hi, q2, if_neg (by omega), if_pos (by omega)]
            omega
        · refine .inr (.inl ?_)
          unfold P2 at q ⊢
          show 0 < rsum n (fun i => if t - 1 < i then 0 else S.x.count i) + _
          rw [rsum_set (f := fun i => if t < i then 0 else S.x.count i) (k := t) (fun i hi => by
              by_cases y : t < i
              · rw [if_pos y, if_pos (by omega)]
              · rw [if_neg y, if_neg (by omega)]) hi, if_neg (by omega), if_pos (by omega)]
          omega
        · by_cases y : a = t
          · subst y
            refine .inr (.inr (.inr ?_))
            rw [a2, Bool.or_true]
          · exact .inr (.inr (.inl ⟨a, by omega, bl a y a2⟩))
        · refine .inr (.inr (.inr ?_))
          rw [q, Bool.true_or]
      · have e : S.x.done = true := e
        rw [ed] at e; cases e
theorem RgI.deed {L : NL RX} {S S' : NS RX} (h : RgI L.n k S) (n2 : 2 ≤ L.n) {d : Deed} (r : doR hkR L S d S') : RgI L.n (k + 1) S' := by
  have up : ∀ {S : NS RX}, RgI L.n k S → RgI L.n (k + 1) S := fun h => ⟨h.row.mono (Nat.le_succ _), h.sum, h.tok, h.dn⟩
  cases d with
  | rest i =>
    obtain ⟨hi, hu, r⟩ := r
    cases r
    exact up (h.rest hi hu)
  | send i j l =>
    obtain ⟨hi, hj, ne, hu, l0, _, l1, S1, d, ⟨rfl, rfl⟩, rfl⟩ := r
    exact h.send hi hj ne hu l0 l1
  | come i j l r' =>
    obtain ⟨hi, hj, ne, hr, r⟩ := r
    obtain ⟨p1, p2, _⟩ := h.row.pop hi hj hr
    rcases r with ⟨w, b, d, e, rfl⟩ | ⟨w, x, e, S1, e1, r1, r2⟩
    · rcases p2 with ⟨y, rfl, _⟩ | ⟨b', d', rfl⟩
      · exact absurd rfl w
      · have : b' = b ∧ d' = d := by simpa [tokL] using e
        obtain ⟨rfl, rfl⟩ := this
        exact up (h.token n2 hi hj hr)
    · obtain ⟨lw, ld⟩ := l
      dsimp only at w e1
      subst w e1
      cases r1
      cases r2
      exact up (h.work hi hj hr)
theorem RgI.go {L : NL RX} {S S' : NS RX} (h : RgI L.n k S) (n2 : 2 ≤ L.n) {o : Option Deed} (r : goR hkR L S o S') : RgI L.n (k + 1) S' := by
  cases o with
  | none => obtain ⟨rfl, _⟩ := r; exact ⟨h.row.mono (Nat.le_succ _), h.sum, h.tok, h.dn⟩
  | some d => exact h.deed n2 r
theorem RgI.ready {L : NL RX} {S : NS RX} {lc lb : Addr} (h : RgI L.n k S) (t : RgL L lc lb) (hk : k ≤ 900) (n2 : 2 ≤ L.n) (n8 : L.n ≤ 8) : Ready hkR L S where
  n2 := n2
  n8 := n8
  pos := h.row.pos
  dia := h.row.dia
  len := fun i j hi hj => by have := h.row.len i j hi hj; omega
  snd := fun i j l hi hj _ _ _ _ _ => ⟨⟨lc, lb, t⟩, fun S1 d m => by
    obtain ⟨rfl, _⟩ := m
    have : ((cnR (S.setPu i (S.pu i - l)) i ((S.setPu i (S.pu i - l)).x.count i + 1)).rw i j).length ≤ k := h.row.len i j hi hj
    omega⟩
  rst := fun _ _ _ => trivial
  cme := fun i j l r hi hj ne hr => by
    obtain ⟨p1, p2, _⟩ := h.row.pop hi hj hr
    refine ⟨fun w => ⟨⟨lc, lb, t⟩, ?_⟩, fun x e w q => ⟨trivial, fun S1 b => ⟨lc, lb, t⟩⟩⟩
    rcases p2 with ⟨y, rfl, _⟩ | ⟨b', d', rfl⟩
    · exact absurd rfl w
    · exact ⟨b', d', rfl⟩
def SR0 (st : List Int) : NS RX := ⟨fun i => decide ((i : Int) ∈ st), fun _ => 100, fun _ _ => [], ⟨fun _ => 0, fun _ => false, some 0, 0, true, false⟩⟩
theorem rgI0 {st : List Int} (hn : 0 < n) : RgI n 0 (SR0 st) :=
  ⟨⟨fun _ _ => (show (0 : Int) ≤ 100 by decide), fun _ _ => rfl, fun _ _ _ _ => Nat.le_refl _, (fun _ _ _ _ _ z => nomatch z)⟩, by rw [show cntW n (SR0 st) "work" = 0 from rsum_zero fun _ _ => rfl]; exact rsum_zero fun _ _ => rfl,
    ⟨0, 0, true, hn, .inl ⟨rfl, rfl, rfl, rsum_zero fun _ _ => rfl⟩, .inr (.inr (.inr rfl))⟩, fun z => nomatch z⟩
theorem doneR_stays {L : NL RX} {S S' : NS RX} {o : Option Deed} (r : goR hkR L S o S') : S'.x.done = S.x.done := by
  cases o with
  | none => obtain ⟨rfl, _⟩ := r; rfl
  | some d =>
    cases d with
    | rest i => obtain ⟨_, _, r⟩ := r; cases r; rfl
    | send i j l => obtain ⟨_, _, _, _, _, _, _, S1, d, ⟨rfl, _⟩, rfl⟩ := r; rfl
    | come i j l r' =>
      obtain ⟨_, _, _, _, r⟩ := r
      rcases r with ⟨_, b, d, _, rfl⟩ | ⟨_, x, d, S1, _, r1, r2⟩
      · rfl
      · cases r1; cases r2; rfl
theorem pass_tr {n : Nat} {S : NS RX} {τ : Tr} (i : Nat) (hi : i < n) (h0 : 0 < n) (h : TrOk n S τ) : TrOk n (passR n S i) τ := by
  unfold passR
  split
  · exact ⟨h.up, h.c⟩
  · refine ⟨h.up, ?_⟩
    rw [h.c]
    have hp := prv_lt (n := n) (i := i) h0
    rw [cntW_put hi hp, if_neg (by split <;> exact ntk)]
    show cntW n S "work" = cntW n S "work" + 0
    omega
end

section
variable {G : En}
def spInitR (C : Addr) : Sp := fun vs H Q _ => ∃ (x l dx : Addr) (n : Nat) (st : List Int), vs = [.ref x, .int n, .ref l] ∧ H x = some (.ins C dx []) ∧ H l = some (.lst (st.map V.int)) ∧ 2 ≤ n ∧ n ≤ 8 ∧ st ≠ [] ∧ (∀ s ∈ st, 0 ≤ s ∧ s ≤ (n : Int) - 1) ∧ st.Pairwise (· < ·) ∧ st.length ≤ 63 ∧
  ∀ (L : NL RX) (lc lb : Addr) H', L.root = x → L.C = C → L.n = n → RgL L lc lb → NetAt H' L (SR0 st) → (∀ b, NM L (SR0 st) b → b = x ∨ H b = none) → Fr (fun b => b = x) H H' → Q .non H'
theorem pu_initR (W : Wd G) {vs : List V} {H : Hp} {Q : VK} {E : XK} (h : spInitR (cl_Ring G.K) vs H Q E) : t_Ring_init G { nx := fun _ H' => Q .non H', rt := Q } (start N_Ring_init vs) H := by
  obtain ⟨x, l, dx, n, st, rfl, hx, hl, n2, n8, ne, hb, so, h63, k⟩ := h
  obtain ⟨k1, n1, nn2, n3, n4, n5, n6, n7, n88⟩ := rgF W
  have c0 := ok_is_whole W
  have q0 : CmG G 3 "Net" "__init__" (spInitN (cl_Ring G.K)) [] := runc_Net_init W (fun _ _ _ _ h => len_initN h) fun _ _ _ _ h => pu_initN (kc_Ring W) (ok_lookN W c0) (ok_lookS W c0) h
  unfold t_Ring_init
  walk_at "st"
  refine ⟨x, l, dx, n, st, rfl, hx, hl, n2, n8, ne, hb, so, h63, fun L0 H1 e1 eCC e3 e4 pl h1 nm f1 => ?_⟩
  subst e1 e4
  have rt1 := h1.rt
  have rt1 : H1 L0.root = some (.ins L0.C L0.dx [("many", .int L0.n), ("up", .ref L0.lu), ("purses", .ref L0.lp), ("rows", .ref L0.dr)]) := by
    rw [rt1]; unfold NL.fs; rw [pl.xf]
  have up1 := h1.up
  rw [← eCC] at k1 n1 nn2 n3 n4 n5 n6 n7 n88
  have lux : L0.lu ≠ L0.root := h1.ne.a1.symm
  walk_at "st"
  rename_i p hp
  refine x_rep1 upd_same (by omega) fun lc hlc => ?_
  have f4 : Fr (fun b => b = L0.root) H1 (upd (upd H1 p (.lst [.int 0])) lc (.lst (List.replicate L0.n (.int 0)))) := (Fr.new hp).then_new hlc
  have rt4 := upd_new (o := .lst (List.replicate L0.n (.int 0))) (upd_new (o := .lst [.int 0]) rt1 hp) hlc
  have u4 := upd_new (o := .lst (List.replicate L0.n (.int 0))) (upd_new (o := .lst [.int 0]) up1 hp) hlc
  have o4 : upd (upd H1 p (.lst [.int 0])) lc (.lst (List.replicate L0.n (.int 0))) lc = some _ := upd_same
  have lcu : lc ≠ L0.lu := (ne_of_none (upd_new (o := .lst [.int 0]) up1 hp) hlc).symm
  have lcx : lc ≠ L0.root := (ne_of_none (upd_new (o := .lst [.int 0]) rt1 hp) hlc).symm
  have nlc : H1 lc = none := (Fr.new (F := F0) hp).back0 hlc
  generalize upd (upd H1 p (.lst [.int 0])) lc (.lst (List.replicate L0.n (.int 0))) = H4 at *
  walk_at "st"
  rename_i p2 hp2
  generalize hA : upd H4 L0.root _ = H5 at *
  have rt5 : H5 L0.root = some (.ins L0.C L0.dx [("many", .int L0.n), ("up", .ref L0.lu), ("purses", .ref L0.lp), ("rows", .ref L0.dr), ("count", .ref lc)]) := by rw [← hA]; exact upd_same
  have f5 : Fr (fun b => b = L0.root) H1 H5 := by rw [← hA]; exact f4.then_put rt4 trivial rfl
  have u5 : H5 L0.lu = some (.lst ((List.range L0.n).map fun i => V.bl ((S0 st).up i))) := by rw [← hA]; exact upd_at u4 lux
  have o5 : H5 lc = some (.lst (List.replicate L0.n (.int 0))) := by rw [← hA]; exact upd_at o4 lcx
  clear hA
  refine x_rep1 upd_same (by omega) fun lb hlb => ?_
  have f6 := (f5.then_new (o := .lst [.bl false]) hp2).then_new (o := .lst (List.replicate L0.n (.bl false))) hlb
  have rt6 := upd_new (o := .lst (List.replicate L0.n (.bl false))) (upd_new (o := .lst [.bl false]) rt5 hp2) hlb
  have u6 := upd_new (o := .lst (List.replicate L0.n (.bl false))) (upd_new (o := .lst [.bl false]) u5 hp2) hlb
  have o6 := upd_new (o := .lst (List.replicate L0.n (.bl false))) (upd_new (o := .lst [.bl false]) o5 hp2) hlb
  have b6 : upd (upd H5 p2 (.lst [.bl false])) lb (.lst (List.replicate L0.n (.bl false))) lb = some _ := upd_same
  have lbu : lb ≠ L0.lu := (ne_of_none (upd_new (o := .lst [.bl false]) u5 hp2) hlb).symm
  have lcb : lc ≠ lb := (ne_of_none (upd_new (o := .lst [.bl false]) o5 hp2) hlb)
  have lbx : lb ≠ L0.root := (ne_of_none (upd_new (o := .lst [.bl false]) rt5 hp2) hlb).symm
  have nlb : H1 lb = none := (f5.then_new (o := .lst [.bl false]) hp2).backx (upd_new (o := .lst [.bl false]) rt5 hp2) hlb
  generalize upd (upd H5 p2 (.lst [.bl false])) lb (.lst (List.replicate L0.n (.bl false))) = H6 at *
  walk_at "st"
  generalize hA : upd (upd (upd (upd (upd H6 L0.root _) L0.root _) L0.root _) L0.root _) L0.root _ = H7 at *
  have rt7 : H7 L0.root = some (.ins L0.C L0.dx [("many", .int L0.n), ("up", .ref L0.lu), ("purses", .ref L0.lp), ("rows", .ref L0.dr), ("count", .ref lc), ("black", .ref lb), ("holder", .int 0), ("bears", .int 0), ("dark", .bl true), ("done", .bl false)]) := by rw [← hA]; exact upd_same
  have f7 : Fr (fun b => b = L0.root) H1 H7 := by
    rw [← hA]
    exact Fr.then_ins (F := fun b => b = L0.root) (Fr.then_ins (F := fun b => b = L0.root) (Fr.then_ins (F := fun b => b = L0.root) (Fr.then_ins (F := fun b => b = L0.root) (f6.then_put rt6 trivial rfl) ⟨_, _, _, upd_same⟩ rfl) ⟨_, _, _, upd_same⟩ rfl) ⟨_, _, _, upd_same⟩ rfl) ⟨_, _, _, upd_same⟩ rfl
  have at7 : ∀ {b : Addr} {o : HO}, b ≠ L0.root → H6 b = some o → H7 b = some o := fun nb e => by rw [← hA]; exact upd_at (upd_at (upd_at (upd_at (upd_at e nb) nb) nb) nb) nb
  have u7 := at7 lux u6
  have o7 := at7 lcx o6
  have b7 := at7 lbx b6
  clear hA
  let L : NL RX := ⟨L0.n, L0.C, L0.dx, L0.root, L0.lu, L0.lp, L0.dr, L0.rws, rgXf lc lb, rgXc L0.n lc lb, fun _ _ => True, fun x p hp => by
    rcases List.mem_cons.mp hp with rfl | hp
    · trivial
    · rw [List.mem_singleton.mp hp]; trivial, fun x m hm => by
    unfold netMeths at hm
    simp only [List.mem_append, List.mem_cons, List.not_mem_nil, or_false] at hm
    rcases hm with ((h | h | h | h | h | h | h | h | h | h | h | h | h | h | h) | (h | h | h | h | h | h | h | h | h | h | h | h | h | h | h)) | (h | h | h | h | h | h | h | h | h) <;> (subst h; rfl), fun _ _ _ _ _ => trivial⟩
  have T : RgL L lc lb := ⟨rfl, rfl, fun _ _ => trivial, lcb⟩
  have E := h1.extend (H2 := H7) (L := L) (S := SR0 st) pl rfl rfl rfl rfl rfl f7 (by rw [T.fs]; exact rt7) u7 (.inl rfl) rfl rfl (fun p hp => by
    rcases List.mem_cons.mp hp with rfl | hp
    · exact ⟨by rw [o7, map_rep0]; rfl, nlc, lcu⟩
    · rw [List.mem_singleton.mp hp]
      exact ⟨by rw [b7, map_rep0]; rfl, nlb, lbu⟩) trivial
  refine k L lc lb H7 rfl eCC rfl T E.1 (fun b hb => ?_) (f1.trans f7)
  rcases E.2 b hb with z | z
  · exact nm b z
  · exact .inr (f1.backx rt1 z)
theorem init_Ring (W : Wd G) : MakG G 5 "Ring" (cl_Ring G.K) (spInitR (cl_Ring G.K)) [] :=
  run_Ring_init W (fun vs H Q E h => by obtain ⟨x, l, dx, n, st, rfl, _⟩ := h; rfl) fun _ _ _ _ h => pu_initR W h
end

/-! ### the last word of a deed; what is not in a list -/
theorem At.lastW {H : Hp} {v : V} {d : Deed} (h : At H v d.d) : ∃ a vs y, v = .ref a ∧ H a = some (.tup vs) ∧ vs.getLast? = some y ∧ vs.length < 1000 ∧ ((∃ i : Int, y = .int i ∧ ∀ i j l r, d ≠ .come i j l r) ∨ ∃ i j l r, d = .come i j l r ∧ y = .str l.1 ∧ vs[2]? = some (.int (j : Int))) := by
  cases d with
  | rest i =>
    obtain ⟨a, vs, rfl, ha, al⟩ := At.tupN (show At H v (.tuple _) from h)
    cases al with | cons b1 al => cases al with | cons b2 al =>
    cases al
    cases b2.int_eq
    exact ⟨a, _, _, rfl, ha, rfl, Nat.le_of_ble_eq_true rfl, .inl ⟨_, rfl, fun _ _ _ _ z => nomatch z⟩⟩
  | send i j l =>
    obtain ⟨a, vs, rfl, ha, al⟩ := At.tupN (show At H v (.tuple _) from h)
    cases al with | cons b1 al => cases al with | cons b2 al => cases al with | cons b3 al => cases al with | cons b4 al =>
    cases al
    cases b4.int_eq
    exact ⟨a, _, _, rfl, ha, rfl, Nat.le_of_ble_eq_true rfl, .inl ⟨_, rfl, fun _ _ _ _ z => nomatch z⟩⟩
  | come i j l r =>
    obtain ⟨a, vs, rfl, ha, al⟩ := At.tupN (show At H v (.tuple _) from h)
    cases al with | cons b1 al => cases al with | cons b2 al => cases al with | cons b3 al => cases al with | cons b4 al =>
    cases al
    cases b3.int_eq
    cases b4.str_eq
    exact ⟨a, _, _, rfl, ha, rfl, Nat.le_of_ble_eq_true rfl, .inr ⟨i, j, l, r, rfl, rfl, rfl⟩⟩
def isCome (w : Str) : Option Deed → Bool
  | some (.come _ _ l _) => decide (l.1 = w)
  | _ => false
theorem last_is {H : Hp} {Q : VK} {d : Deed} {y : V} {w : Str} {vs : List V} (c : (∃ i : Int, y = .int i ∧ ∀ i j l r, d ≠ .come i j l r) ∨ ∃ i j l r, d = .come i j l r ∧ y = .str l.1 ∧ vs[2]? = some (.int (j : Int))) (k : Q (.bl (isCome w (some d))) H) : rEq y (.str w) H Q := by
  rcases c with ⟨i, rfl, e⟩ | ⟨i, j, l, r, rfl, rfl, _⟩
  · refine x_eqV rfl ?_
    rw [decide_eq_false (fun z => nomatch z)]
    cases d with
    | rest i => exact k
    | send i j l => exact k
    | come i j l r => exact absurd rfl (e _ _ _ _)
  · exact x_eqS k
theorem x_ninI {K : PySem.W.Frag} {H : Hp} {Q : VK} {a : Addr} {i : Int} {ns : List Int} (h : H a = some (.lst (ns.map V.int))) (k : Q (.bl (!decide (i ∈ ns))) H) : rIn K true (.int i) (.ref a) H Q :=
  ⟨a, _, rfl, .inl (SqL.of h), rfl, List.all_eq_true.mpr fun x hx => by obtain ⟨n, _, rfl⟩ := List.mem_map.mp hx; rfl, by rw [if_pos rfl, inV_int]; exact k⟩
theorem mem_awk {X : Type} {n : Nat} {S : NS X} {i : Nat} (hi : i < n) : ((i : Int) ∈ (awk n S).map fun (i : Nat) => (i : Int)) ↔ S.up i = true := by
  rw [List.mem_map]
  constructor
  · rintro ⟨m, hm, e⟩
    have : m = i := by omega
    subst this
    exact (List.mem_filter.mp hm).2
  · exact fun z => ⟨i, List.mem_filter.mpr ⟨List.mem_range.mpr hi, z⟩, rfl⟩
def encStr1 (ws : List Str) (h : ∀ w ∈ ws, (PyData.str w).canLay0 = true) : True := trivial

/-! ### the name of a refusal -/
def ref9 : List Str := ["BadNumber", "BadStart", "NoHand", "Asleep", "Awake", "TooMuch", "NoLetter", "NotNow", "BadStory"]
def word9 : List Str := ["number", "start", "hand", "asleep", "awake", "much", "letter", "now", "story"]
structure RefC (K : PySem.W.Frag) (D : Addr) (j : Nat) : Prop where
  ec : ExcC K D
  lt : j < 9
  k : ∀ i c, ref9[i]? = some c → PySem.W.kitOne K (.ref D) (.ref (He.ga K c)) = some (decide (i = j))
  ne : PySem.W.kitOne K (.ref D) (.ref (He.ga K "NetError")) = some true
  ve : PySem.W.kitOne K (.ref D) (.type "ValueError") = some true
def spRefuse (K : PySem.W.Frag) : Sp := fun vs H Q _ => ∃ (a D : Addr) (j : Nat) (w : Str), vs = [.ref a] ∧ H a = some (ExT (.ref D) none a) ∧ RefC K D j ∧ word9[j]? = some w ∧ ∀ H', Fr F0 H H' → Q (.str w) H'
theorem ok_refuse {G : En} (W : Wd G) : CalG G 1 "_law_refusal" (spRefuse G.K) [] := by
  refine run__law_refusal W (fun vs H Q E h => ?_) (fun vs H Q E h => ?_)
  · obtain ⟨a, D, j, w, rfl, _⟩ := h
    rfl
  obtain ⟨a, D, j, w, rfl, ha, R, hw, k⟩ := h
  have k0 := R.k 0 _ rfl
  have k1 := R.k 1 _ rfl
  have k2 := R.k 2 _ rfl
  have k3 := R.k 3 _ rfl
  have k4 := R.k 4 _ rfl
  have k5 := R.k 5 _ rfl
  have k6 := R.k 6 _ rfl
  have k7 := R.k 7 _ rfl
  have k8 := R.k 8 _ rfl
  unfold t__law_refusal
  walk_at "st"
  refine x_isX ha R.ec (.own _) k0 ?_
  walk_at "st"
  refine x_isX ha R.ec (.own _) k1 ?_
  walk_at "st"
  refine x_isX ha R.ec (.own _) k2 ?_
  walk_at "st"
  rename_i p1 hp1
  have ha1 := upd_new (o := .lst [.bl (decide (0 = j)), .bl (decide (1 = j)), .bl (decide (2 = j))]) ha hp1
  have f1 : Fr F0 H _ := .new (o := .lst [.bl (decide (0 = j)), .bl (decide (1 = j)), .bl (decide (2 = j))]) hp1
  have e1 : upd H p1 (.lst [.bl (decide (0 = j)), .bl (decide (1 = j)), .bl (decide (2 = j))]) p1 = some _ := upd_same
  generalize upd H p1 (.lst [.bl (decide (0 = j)), .bl (decide (1 = j)), .bl (decide (2 = j))]) = H1 at *
  refine x_isX ha1 R.ec (.own _) k3 ?_
  walk_at "st"
  refine x_isX ha1 R.ec (.own _) k4 ?_
  walk_at "st"
  refine x_isX ha1 R.ec (.own _) k5 ?_
  walk_at "st"
  rename_i p2 hp2
  refine ⟨_, _, _, _, rfl, rfl, upd_new e1 hp2, upd_same, Nat.le_of_ble_eq_true rfl, fun p3 hp3 => ?_⟩
  have f2 := (f1.then_new (o := .lst [.bl (decide (3 = j)), .bl (decide (4 = j)), .bl (decide (5 = j))]) hp2).then_new (o := .lst ([.bl (decide (0 = j)), .bl (decide (1 = j)), .bl (decide (2 = j))] ++ [.bl (decide (3 = j)), .bl (decide (4 = j)), .bl (decide (5 = j))])) hp3
  have ha2 := f2.at0 ha
  have e3 : upd (upd H1 p2 (.lst [.bl (decide (3 = j)), .bl (decide (4 = j)), .bl (decide (5 = j))])) p3 (.lst ([.bl (decide (0 = j)), .bl (decide (1 = j)), .bl (decide (2 = j))] ++ [.bl (decide (3 = j)), .bl (decide (4 = j)), .bl (decide (5 = j))])) p3 = some _ := upd_same
  generalize upd (upd H1 p2 (.lst [.bl (decide (3 = j)), .bl (decide (4 = j)), .bl (decide (5 = j))])) p3 (.lst ([.bl (decide (0 = j)), .bl (decide (1 = j)), .bl (decide (2 = j))] ++ [.bl (decide (3 = j)), .bl (decide (4 = j)), .bl (decide (5 = j))])) = H2 at *
  walk_at "st"
  refine x_isX ha2 R.ec (.own _) k6 ?_
  walk_at "st"
  refine x_isX ha2 R.ec (.own _) k7 ?_
  walk_at "st"
  refine x_isX ha2 R.ec (.own _) k8 ?_
  walk_at "st"
  rename_i p4 hp4
  refine ⟨_, _, _, _, rfl, rfl, upd_new e3 hp4, upd_same, Nat.le_of_ble_eq_true rfl, fun p5 hp5 => ?_⟩
  obtain ⟨bs, eb, lb⟩ : ∃ bs : List V, bs = (([.bl (decide (0 = j)), .bl (decide (1 = j)), .bl (decide (2 = j))] ++ [.bl (decide (3 = j)), .bl (decide (4 = j)), .bl (decide (5 = j))]) ++ [.bl (decide (6 = j)), .bl (decide (7 = j)), .bl (decide (8 = j))] : List V) ∧ bs.length = 9 := ⟨_, rfl, rfl⟩
  rw [← eb]
  have f3 := (f2.then_new (o := .lst [.bl (decide (6 = j)), .bl (decide (7 = j)), .bl (decide (8 = j))]) hp4).then_new (o := .lst bs) hp5
  have ha3 := f3.at0 ha
  have e5 : upd (upd H2 p4 (.lst [.bl (decide (6 = j)), .bl (decide (7 = j)), .bl (decide (8 = j))])) p5 (.lst bs) p5 = some (.lst bs) := upd_same
  generalize upd (upd H2 p4 (.lst [.bl (decide (6 = j)), .bl (decide (7 = j)), .bl (decide (8 = j))])) p5 (.lst bs) = H3 at *
  have lt := R.lt
  have facts : bs.all flatV = true ∧ bs.countP (fun z => eqV z (.bl true)) = 1 ∧ bs[j]? = some (.bl true) ∧ ∀ m z', m < j → bs[m]? = some z' → eqV z' (.bl true) = false := by
    subst eb
    have : j = 0 ∨ j = 1 ∨ j = 2 ∨ j = 3 ∨ j = 4 ∨ j = 5 ∨ j = 6 ∨ j = 7 ∨ j = 8 := by omega
    rcases this with rfl | rfl | rfl | rfl | rfl | rfl | rfl | rfl | rfl
    all_goals
      refine ⟨by decide, by decide, rfl, fun m z' hm hz => ?_⟩
      have : m = 0 ∨ m = 1 ∨ m = 2 ∨ m = 3 ∨ m = 4 ∨ m = 5 ∨ m = 6 ∨ m = 7 := by omega
      rcases this with rfl | rfl | rfl | rfl | rfl | rfl | rfl | rfl
      all_goals first
        | omega
        | (cases hz; decide)
  obtain ⟨g1, g2, g3, g4⟩ := facts
  walk_at "st"
  refine ⟨_, _, _, rfl, rfl, SqL.of e5, rfl, g1, ?_⟩
  rw [g2]
  walk_at "st"
  refine x_isX ha3 R.ec (.own _) R.ne ?_
  walk_at "st"
  refine x_isX ha3 R.ec (.ty _) R.ve ?_
  walk_at "st"
  rename_i p6 hp6
  refine ⟨_, _, _, j, _, rfl, rfl, SqL.of (upd_new e5 hp6), rfl, g1, g3, by decide, g4, ?_⟩
  have : ((["number", "start", "hand", "asleep", "awake", "much", "letter", "now", "story"] : List Str).map V.str)[j]? = some (.str w) := by
    rw [List.getElem?_map]
    show Option.map V.str (word9[j]?) = _
    rw [hw]; rfl
  refine x_ixL upd_same rfl this ?_
  exact k _ (f3.then_new hp6)

theorem refC_NoHand {G : En} (W : Wd G) : RefC G.K (He.ga G.K "NoHand") 2 where
  ec := W.x_NoHand.ec
  lt := by decide
  ne := W.r_NoHand_NetError.ki
  ve := W.v_NoHand
  k := fun i c h => by
    have : i < 9 := lt_at h
    have : i = 0 ∨ i = 1 ∨ i = 2 ∨ i = 3 ∨ i = 4 ∨ i = 5 ∨ i = 6 ∨ i = 7 ∨ i = 8 := by omega
    rcases this with rfl | rfl | rfl | rfl | rfl | rfl | rfl | rfl | rfl
    · cases h; exact W.r_NoHand_BadNumber.ki
    · cases h; exact W.r_NoHand_BadStart.ki
    · cases h; exact W.r_NoHand_NoHand.ki
    · cases h; exact W.r_NoHand_Asleep.ki
    · cases h; exact W.r_NoHand_Awake.ki
    · cases h; exact W.r_NoHand_TooMuch.ki
    · cases h; exact W.r_NoHand_NoLetter.ki
    · cases h; exact W.r_NoHand_NotNow.ki
    · cases h; exact W.r_NoHand_BadStory.ki

theorem refC_NotNow {G : En} (W : Wd G) : RefC G.K (He.ga G.K "NotNow") 7 where
  ec := W.x_NotNow.ec
  lt := by decide
  ne := W.r_NotNow_NetError.ki
  ve := W.v_NotNow
  k := fun i c h => by
    have : i < 9 := lt_at h
    have : i = 0 ∨ i = 1 ∨ i = 2 ∨ i = 3 ∨ i = 4 ∨ i = 5 ∨ i = 6 ∨ i = 7 ∨ i = 8 := by omega
    rcases this with rfl | rfl | rfl | rfl | rfl | rfl | rfl | rfl | rfl
    · cases h; exact W.r_NotNow_BadNumber.ki
    · cases h; exact W.r_NotNow_BadStart.ki
    · cases h; exact W.r_NotNow_NoHand.ki
    · cases h; exact W.r_NotNow_Asleep.ki
    · cases h; exact W.r_NotNow_Awake.ki
    · cases h; exact W.r_NotNow_TooMuch.ki
    · cases h; exact W.r_NotNow_NoLetter.ki
    · cases h; exact W.r_NotNow_NotNow.ki
    · cases h; exact W.r_NotNow_BadStory.ki

/-! ### what is no whole number in bounds -/
inductive WhB (H : Hp) (lo hi : Int) : V → Bool → Prop
  | int (i : Int) {b : Bool} (e : b = decide (lo ≤ i ∧ i ≤ hi)) : WhB H lo hi (.int i) b
  | bl (b : Bool) : WhB H lo hi (.bl b) false
  | non : WhB H lo hi .non false
  | str (s : Str) : WhB H lo hi (.str s) false
  | lst {a : Addr} {xs : List V} (h : H a = some (.lst xs)) : WhB H lo hi (.ref a) false
theorem WhB.fr0 {H H' : Hp} {lo hi : Int} {x : V} {b : Bool} (h : WhB H lo hi x b) (f : Fr F0 H H') : WhB H' lo hi x b := by
  cases h with
  | int i e => exact .int i e
  | bl b => exact .bl b
  | non => exact .non
  | str s => exact .str s
  | lst h => exact .lst (f.at0 h)
def spWB : Sp := fun vs H Q _ => ∃ (x : V) (lo hi : Int) (b : Bool), vs = [x, .int lo, .int hi] ∧ WhB H lo hi x b ∧ Q (.bl b) H
theorem ok_wb {G : En} (W : Wd G) : CalG G 1 "is_whole" spWB [] := by
  refine run_is_whole W (fun vs H Q E h => ?_) (fun vs H Q E h => ?_)
  · obtain ⟨x, lo, hi, b, rfl, _⟩ := h
    rfl
  obtain ⟨x, lo, hi, b, rfl, wb, k⟩ := h
  unfold t_is_whole
  cases wb with
  | int i e =>
    subst e
    walk_at "st"
    refine x_d2 (fun h1 => ?_) (fun h1 => ?_)
    · walk_at "st"
      show Q _ H
      rw [show decide (i ≤ hi) = decide (lo ≤ i ∧ i ≤ hi) by simp [h1]]
      exact k
    · show Q _ H
      rw [show false = decide (lo ≤ i ∧ i ≤ hi) by simp [h1]]
      exact k
  | bl b =>
    walk_at "st"
    exact k
  | non =>
    walk_at "st"
    exact k
  | str s =>
    walk_at "st"
    exact k
  | lst h =>
    walk_at "st"
    exact k

/-! ### passings that are refused -/
def spLkE (X : Type) (C : Addr) (K : PySem.W.Frag) : Sp := fun vs H Q E => ∃ (L : NL X) (S : NS X) (x : V) (b : Bool), vs = [.ref L.root, x] ∧ L.C = C ∧ NetAt H L S ∧ WhB H 0 ((L.n : Int) - 1) x b ∧ (b = true → Q .non H) ∧ (b = false → E (.ref (He.ga K "NoHand")) none H)
theorem lkE_Ring {G : En} (W : Wd G) : MetE G 2 (cl_Ring G.K) "look_hand" (spLkE RX (cl_Ring G.K) G.K) [] := by
  have q1 := ok_wb W
  refine runE_Ring_look_hand W (fun vs H Q E h => ?_) (fun vs H Q E h => ?_)
  · obtain ⟨L, S, x, b, rfl, _⟩ := h
    rfl
  obtain ⟨L, S, x, b, rfl, eC, h, wb, k, kE⟩ := h
  obtain ⟨k1, n1, n2, n3, n4, n5, n6, n7, n8⟩ := eC ▸ rgF W
  have rt := h.rt
  unfold tE_Net_look_hand
  walk_at "st"
  refine ⟨x, _, _, b, rfl, wb, ?_⟩
  walk_at "st"
  cases b with
  | true =>
    walk_at "st"
    exact k rfl
  | false =>
    walk_at "st"
    exact kE rfl
def spPassE (C : Addr) (K : PySem.W.Frag) : Sp := fun vs H _ E => ∃ (L : NL RX) (S : NS RX) (lc lb : Addr) (x : V), vs = [.ref L.root, x] ∧ L.C = C ∧ NetAt H L S ∧ RgL L lc lb ∧
  ((WhB H 0 ((L.n : Int) - 1) x false ∧ E (.ref (He.ga K "NoHand")) none H) ∨ ∃ i : Nat, x = .int i ∧ i < L.n ∧
    ((¬ (S.x.holder = some i ∧ S.x.done = false) ∧ E (.ref (He.ga K "NotNow")) none H) ∨
      (S.x.holder = some i ∧ S.x.done = false ∧ S.up i = true ∧ ∀ d, H d = none → E (.ref (He.ga K "Awake")) (some d) (upd H d (.xd [("hand", .int i)])))))
theorem passE_Ring {G : En} (W : Wd G) : MetE G 3 (cl_Ring G.K) "pass_on" (spPassE (cl_Ring G.K) G.K) [] := by
  have q1 := lkE_Ring W
  refine runE_Ring_pass_on W (fun vs H Q E h => ?_) (fun vs H Q E h => ?_)
  · obtain ⟨L, S, lc, lb, x, rfl, _⟩ := h
    rfl
  obtain ⟨L, S, lc, lb, x, rfl, eC, h, t, h2⟩ := h
  rw [← eC] at q1
  obtain ⟨k1, n1, n2, n3, n4, n5, n6, n7, n8⟩ := eC ▸ rgF W
  have rt := t.rt h
  unfold tE_Ring_pass_on
  rcases h2 with ⟨wb, kE⟩ | ⟨i, rfl, hi, h2⟩
  · walk_at "st"
    exact ⟨L, S, x, false, rfl, rfl, h, wb, (fun z => nomatch z), fun _ => kE⟩
  have up := h.up
  have uix := rg_ix (fun i => V.bl (S.up i)) hi
  have wb : WhB H 0 ((L.n : Int) - 1) (.int i) true := .int _ (by rw [decide_eq_true]; omega)
  rcases h2 with ⟨no, kE⟩ | ⟨eh, ed, eu, kE⟩
  · walk_at "st"
    refine ⟨L, S, _, true, rfl, rfl, h, wb, fun _ => ?_, (fun z => nomatch z)⟩
    walk_at "st"
    cases eh : S.x.holder with
    | none =>
      rw [eh] at rt
      have rt : H L.root = some (.ins L.C L.dx [("many", .int L.n), ("up", .ref L.lu), ("purses", .ref L.lp), ("rows", .ref L.dr), ("count", .ref lc), ("black", .ref lb), ("holder", .non), ("bears", .int S.x.bears), ("dark", .bl S.x.dark), ("done", .bl S.x.done)]) := rt
      refine x_neV rfl ?_
      rw [decide_eq_false (show ¬ hdV none = .int i from fun z => nomatch (show V.non = V.int i from z))]
      walk_at "st"
      exact kE
    | some j =>
      rw [eh] at rt
      have rt : H L.root = some (.ins L.C L.dx [("many", .int L.n), ("up", .ref L.lu), ("purses", .ref L.lp), ("rows", .ref L.dr), ("count", .ref lc), ("black", .ref lb), ("holder", .int (j : Int)), ("bears", .int S.x.bears), ("dark", .bl S.x.dark), ("done", .bl S.x.done)]) := rt
      refine x_neV rfl ?_
      by_cases c : j = i
      · subst c
        rw [decide_eq_true (show hdV (some j) = .int j from rfl)]
        cases ed : S.x.done with
        | false => exact absurd ⟨eh, ed⟩ no
        | true =>
          rw [ed] at rt
          walk_at "st"
          exact kE
      · rw [decide_eq_false (show ¬ hdV (some j) = .int i from fun z => c (by
          have z : V.int j = V.int i := z
          injection z with z
          omega))]
        walk_at "st"
        exact kE
  · rw [eh, ed] at rt
    have rt : H L.root = some (.ins L.C L.dx [("many", .int L.n), ("up", .ref L.lu), ("purses", .ref L.lp), ("rows", .ref L.dr), ("count", .ref lc), ("black", .ref lb), ("holder", .int (i : Int)), ("bears", .int S.x.bears), ("dark", .bl S.x.dark), ("done", .bl false)]) := rt
    rw [eu] at uix
    walk_at "st"
    refine ⟨L, S, _, true, rfl, rfl, h, wb, fun _ => ?_, (fun z => nomatch z)⟩
    walk_at "st"
    refine x_raiseH ?_
    walk_at "st"
    exact x_mkO W.o_Awake kE
def spLPass (C : Addr) : Sp := fun vs H Q _ => ∃ (L : NL RX) (S : NS RX) (lc lb : Addr) (x : V), vs = [.ref L.root, x] ∧ L.C = C ∧ NetAt H L S ∧ RgL L lc lb ∧
  ((WhB H 0 ((L.n : Int) - 1) x false ∧ ∀ H', Fr F0 H H' → Q (.str "hand") H') ∨ ∃ i : Nat, x = .int i ∧ i < L.n ∧
    ((¬ (S.x.holder = some i ∧ S.x.done = false) ∧ ∀ H', Fr F0 H H' → Q (.str "now") H') ∨
      (S.x.holder = some i ∧ S.x.done = false ∧ S.up i = true ∧ ∀ p H', Fr F0 H H' → H' p = some (.tup [.str "awake", .int i]) → Q (.ref p) H') ∨
      (S.x.holder = some i ∧ S.x.done = false ∧ S.up i = false ∧ (S.rw i (prv L.n i)).length ≤ 1000 ∧ ∀ H', NetAt H' L (passR L.n S i) → Stp L S (passR L.n S i) H H' → Q (.str "told") H')))
theorem x_tXf {a C : Addr} {cls : Value} {d : Option Addr} {f : Str} {te : TE} {σ : Stt} {H : Hp} {Q : VK} (k : te σ H fun x H1 => x = .ref a ∧ cls = .ref C ∧ ∃ (dd : Addr) (fs : List (Str × V)) (v : V), d = some dd ∧ H1 dd = some (.xd fs) ∧ fs.lookup f = some v ∧ Q v H1) : tXf a cls d C f te σ H Q := k
theorem ok_lpass {G : En} (W : Wd G) : CalG G 4 "_law_pass" (spLPass (cl_Ring G.K)) [] := by
  have c1 := ok_refuse W
  refine run__law_pass W (fun vs H Q E h => ?_) (fun vs H Q E h => ?_)
  · obtain ⟨L, S, lc, lb, x, rfl, _⟩ := h
    rfl
  obtain ⟨L, S, lc, lb, x, rfl, eC, h, t, h2⟩ := h
  obtain ⟨k1, n1, n2, n3, n4, n5, n6, n7, n8⟩ := eC ▸ rgF W
  have rt := t.rt h
  have m1 := passE_Ring W
  have m2 := pass_Ring W
  rw [← eC] at m1 m2
  unfold t__law_pass
  rcases h2 with ⟨wb, kQ⟩ | ⟨i, rfl, hi, ⟨no, kQ⟩ | ⟨eh, ed, eu, kQ⟩ | ⟨eh, ed, eu, ln, kQ⟩⟩
  · clear m2
    walk_at "st"
    refine ⟨L, S, lc, lb, x, rfl, rfl, h, t, .inl ⟨wb, ?_⟩⟩
    show wCl _ _ _ _ _ _ _ _
    refine wCl_no W.r_NoHand_Awake.ex (wCl_yes W.r_NoHand_NetError.ex fun a ha => ?_)
    walk_at "st"
    dsimp only [endsT]
    walk_at "st"
    exact ⟨a, _, 2, _, rfl, upd_same, refC_NoHand W, rfl, fun H' f' => kQ H' ((Fr.new ha).trans f')⟩
  · clear m2
    walk_at "st"
    refine ⟨L, S, lc, lb, _, rfl, rfl, h, t, .inr ⟨i, rfl, hi, .inl ⟨no, ?_⟩⟩⟩
    show wCl _ _ _ _ _ _ _ _
    refine wCl_no W.r_NotNow_Awake.ex (wCl_yes W.r_NotNow_NetError.ex fun a ha => ?_)
    walk_at "st"
    dsimp only [endsT]
    walk_at "st"
    exact ⟨a, _, 7, _, rfl, upd_same, refC_NotNow W, rfl, fun H' f' => kQ H' ((Fr.new ha).trans f')⟩
  · clear m2
    walk_at "st"
    refine ⟨L, S, lc, lb, _, rfl, rfl, h, t, .inr ⟨i, rfl, hi, .inr ⟨eh, ed, eu, fun d hd => ?_⟩⟩⟩
    show wCl _ _ _ _ _ _ _ _
    refine wCl_yes W.r_Awake_Awake.ex fun a ha => ?_
    walk_at "st"
    refine x_tXf ?_
    walk_at "st"
    refine ⟨rfl, rfl, d, _, .int i, rfl, upd_same, rfl, ?_⟩
    walk_at "st"
    dsimp only [endsT]
    walk_at "st"
    rename_i p hp
    exact kQ p _ (((Fr.new hd).then_new ha).then_new hp) upd_same
  · clear m1
    walk_at "st"
    refine ⟨L, S, lc, lb, i, rfl, rfl, h, t, hi, eh, ed, eu, ln, fun v H' h' s' => ?_⟩
    walk_at "st"
    exact kQ H' h' s'
theorem hold_go {L : NL RX} {S S' : NS RX} {k : Nat} {o : Option Deed} (h : RgI L.n k S) (r : goR hkR L S o S') : S'.x.holder = S.x.holder ∨ S.x.holder = none := by
  cases o with
  | none => obtain ⟨rfl, _⟩ := r; exact .inl rfl
  | some d =>
    cases d with
    | rest i => obtain ⟨_, _, r⟩ := r; cases r; exact .inl rfl
    | send i j l => obtain ⟨_, _, _, _, _, _, _, S1, d, ⟨rfl, _⟩, rfl⟩ := r; exact .inl rfl
    | come i j l r' =>
      obtain ⟨hi, hj, _, hr, r⟩ := r
      rcases r with ⟨w, b, d, _, rfl⟩ | ⟨_, x, d, S1, _, r1, r2⟩
      · right
        obtain ⟨_, p2, _⟩ := h.row.pop hi hj hr
        rcases p2 with ⟨y, rfl, _⟩ | ⟨b', d', rfl⟩
        · exact absurd rfl w
        · obtain ⟨t, b2, d2, _, ta, _⟩ := h.tok
          rcases ta with ⟨_, _, _, z⟩ | ⟨z, _⟩
          · have := cnt_tok (S := S) hi hj (by rw [hr]; exact List.mem_cons_self) (rfl : (tokL b' d').1 = "token")
            omega
          · exact z
      · cases r1; cases r2; exact .inl rfl

/-! ### the law -/
section
theorem pass_done' {n i : Nat} {S : NS RX} (e : S.x.done = false) : (passR n S i).x.done = decide (tells S i) := by
  unfold passR
  split
  · rename_i z; rw [decide_eq_true z]; rfl
  · rename_i z; rw [decide_eq_false z]; exact e
def encAw : Enc Int := ⟨fun i => .tuple [.str "awake", .int i], fun a b => by
  simp [PyData.eqv, PyData.eqvAll, Bool.beq_eq_decide_eq], fun a => by
  simp only [PyData.canLay0, PyData.canLayAll0]; decide +kernel, fun a => by simp [PyData.depth, PyData.depthAll]⟩
theorem aw_at {H : Hp} {q : Addr} {i : Int} (h : H q = some (.tup [.str "awake", .int i])) : At H (.ref q) (encAw.f i) := .tup h (.cons (.str _) (.cons (.int _) .nil))
theorem x_neE' {α : Type} [DecidableEq α] (e : Enc α) {H : Hp} {Q : VK} {K : PySem.W.Frag} {x y : V} {a b : α} (hx : At H x (e.f a)) (hy : At H y (e.f b)) (k : Q (.bl (!decide (a = b))) H) : rNeD K x y H Q := by
  have sh : ∀ a, SeqAt.shaped (e.f a) = true := fun a => by
    unfold SeqAt.shaped
    rw [e.lay a]
    refine (Bool.true_and _).trans (decide_eq_true ?_)
    have := e.dep a
    omega
  refine ⟨_, _, hx.dp, hy.dp, sh a, sh b, ?_⟩
  rw [e.eq]; exact k
theorem inV_str (s : Str) : ∀ ns : List Str, inV (.str s) (ns.map V.str) = decide (s ∈ ns)
  | [] => by rfl
  | n :: ns => by
    have ih := inV_str s ns
    unfold inV at ih ⊢
    rw [List.map_cons, List.any_cons, ih]
    by_cases c : n = s
    · subst c
      rw [show eqV (.str n) (.str n) = true by simp [eqV]]
      simp
    · rw [show eqV (.str n) (.str s) = false by simp [eqV, c], Bool.false_or]
      exact decide_eq_decide.mpr ⟨fun z => List.mem_cons_of_mem _ z, fun z => (List.mem_cons.mp z).elim (fun e => absurd e.symm c) id⟩
theorem x_ninS {K : PySem.W.Frag} {H : Hp} {Q : VK} {a : Addr} {s : Str} {ns : List Str} (h : H a = some (.lst (ns.map V.str))) (k : Q (.bl (!decide (s ∈ ns))) H) : rIn K true (.str s) (.ref a) H Q :=
  ⟨a, _, rfl, .inl (SqL.of h), rfl, List.all_eq_true.mpr fun x hx => by obtain ⟨n, _, rfl⟩ := List.mem_map.mp hx; rfl, by rw [if_pos rfl, inV_str]; exact k⟩
theorem hdV_ne {o : Option Nat} {i : Nat} : decide (V.int (i : Int) = hdV o) = decide (o = some i) := by
  cases o with
  | none =>
    show decide (V.int (i : Int) = V.non) = _
    rw [decide_eq_false (show ¬ V.int (i : Int) = V.non from fun z => nomatch z), decide_eq_false (show ¬ (none : Option Nat) = some i from fun z => nomatch z)]
  | some j =>
    refine decide_eq_decide.mpr ⟨fun z => ?_, fun z => ?_⟩
    · have z : V.int (i : Int) = V.int (j : Int) := z
      injection z with z
      rw [show i = j by omega]
    · cases z; rfl
theorem hd_lt {n k : Nat} {S : NS RX} (h : RgI n k S) {j : Nat} (e : S.x.holder = some j) : j < n := by
  obtain ⟨t, b, d, ht, ta, _⟩ := h.tok
  rcases ta with ⟨z, _⟩ | ⟨z, _⟩
  · rw [e] at z; cases z; exact ht
  · rw [e] at z; cases z
theorem passR_no {n i : Nat} {S : NS RX} (te : ¬ tells S i) : (passR n S i).x.holder = none ∧ ∃ l : Lt, l.1 = "token" ∧ (passR n S i).rw i (prv n i) = S.rw i (prv n i) ++ [l] := by
  unfold passR
  rw [if_neg te]
  refine ⟨rfl, if i = 0 then tokL 0 false else tokL (S.x.bears + S.x.count i) (S.x.dark || S.x.black i), by split <;> rfl, ?_⟩
  show fset2 S.rw i (prv n i) _ i (prv n i) = _
  exact if_pos ⟨rfl, rfl⟩
theorem passR_up {n i : Nat} {S : NS RX} : (passR n S i).up = S.up := by unfold passR; split <;> rfl
theorem scI (i : Int) (o : Option Nat) : scal (.int i) (hdV o) = true := by cases o <;> rfl
theorem scH (o : Option Nat) : scal (hdV o) (hdV o) = true := by cases o <;> rfl
theorem law_ok {G : En} (W : Wd G) {fd : FuncData} (F : FnP G.K "law" "law" s_law [] (He.ga G.K "law") fd) : FnG G CX0 7 (He.ga G.K "law") fd ["_law_script"] (spLaw G.K) := by
  have M := netM_Rg W
  have c1 := ok_town W
  have c2 := ok_draw W
  have c3 := ok_pick W c2
  have c4 := ok_go W c2 (ok_act W M c2 c3 (ok_other W c2)) (ok_let W M c3)
  have c8 := ok_start W c2
  have c9 := ok_lpass W
  have ik := init_Ring W
  have m1 := tok_Ring W
  have m2 : MetG G 1 (cl_Ring G.K) "awake" (spAwake RX (cl_Ring G.K)) [] := awake_Ring W
  have m3 := told_Ring W
  have m5 : MetG G 4 (cl_Ring G.K) "on_way" (spOnWay RX (cl_Ring G.K)) [] := onway_Ring W
  have m6 : MetG G 1 (cl_Ring G.K) "ways" (spWaysN RX (cl_Ring G.K)) [] := M.ways
  refine fnq_law W (fun vs H Q E h => ?_) (fun vs H Q E h => ?_) F
  · obtain ⟨a, ns, rfl, _⟩ := h
    rfl
  obtain ⟨a, ns, rfl, hS, hl, k⟩ := h
  unfold t_law
  walk_at "st"
  refine ⟨a, ns, rfl, hS, hl, fun t c H1 n1 n2 hT1 f1 => ?_⟩
  walk_at "st"
  refine ⟨t, c, 5, rfl, hT1, by decide, by decide, fun r H2 r0 r1 hT2 f2 => ?_⟩
  walk_at "st"
  obtain ⟨n0, rfl⟩ := Int.eq_ofNat_of_zero_le r0
  rw [show (2 : Int) + (n0 : Int) = ((2 + n0 : Nat) : Int) from rfl]
  have n2 : 2 ≤ 2 + n0 := by omega
  have n8 : 2 + n0 ≤ 8 := by omega
  generalize 2 + n0 = n at n2 n8 ⊢
  walk_at "st"
  refine ⟨t, c, n, rfl, hT2, by omega, by omega, fun l st H3 hl3 el ne hb so hn hT3 f3 => ?_⟩
  walk_at "st"
  intro x dx hx hdx dxx
  have lx : l ≠ x := ne_of_none el hx
  refine ⟨x, l, dx, n, st, rfl, upd_same, upd_at (upd_new el hdx) lx, n2, n8, ne, hb, so, by omega, fun L lc lb H4 e1 eC e3 T nt nm f4 => ⟨rfl, ?_⟩⟩
  have w4 : WAt H4 t c L (SR0 st) := .made hT3 hx hdx nt nm f4
  subst e1 e3
  rw [← eC] at m1 m2 m3 m5 m6 c9
  have rg0 := rgI0 (n := L.n) (st := st) (by omega)
  have h00 : (SR0 st).x.holder = some 0 := rfl
  have d00 : (SR0 st).x.done = false := rfl
  generalize SR0 st = S0 at *
  walk_at "st"
  refine x_rng1g (by decide) ?_
  refine for_rng (fun i σ H' => ∃ v5 v6 v7 v8 v9 S, σ = [some (.ref a), some (.ref t), some (.int L.n), some (.ref L.root), some (hdV S.x.holder), v5, v6, v7, v8, v9] ∧ WAt H' t c L S ∧ RgI L.n (2 * i) S ∧ S.x.done = false) ?_ ?_ ?_
  · exact ⟨_, _, _, _, _, S0, by rw [h00]; rfl, w4, rg0, d00⟩
  · rintro i σ Ha hi ⟨v5, v6, v7, v8, v9, S, rfl, wa, ti, ed⟩
    have hi : i < 24 := hi
    walk_at "st"
    refine ⟨t, c, L, S, 4, rfl, eC, wa, ti.ready T (by omega) n2 n8, fun v o S1 Hb r rv wb sb => ?_⟩
    have ti' := ti.go n2 r
    have ed' := (doneR_stays r).trans ed
    have hg := hold_go ti r
    have rtb := wb.nt.rt
    with_reducible refine x_seq ?_
    refine x_sj (fun σ' H' => σ' = [some (.ref a), some (.ref t), some (.int L.n), some (.ref L.root), some (hdV S1.x.holder), some (.int i), v6, v7, v8, v9] ∧ H' = Hb) (fun N hN => ?_) ?_
    · cases es : S.x.holder with
      | some h =>
        have e1 : S1.x.holder = some h := by
          rcases hg with e | e
          · rw [e]; exact es
          · rw [es] at e; cases e
        show tIfS _ _ _ _ [some (.ref a), some (.ref t), some (.int L.n), some (.ref L.root), some (.int (h : Int)), some (.int i), v6, v7, v8, v9] Hb
        walk_at "st"
        exact hN _ _ ⟨by rw [e1]; rfl, rfl⟩
      | none =>
        show tIfS _ _ _ _ [some (.ref a), some (.ref t), some (.int L.n), some (.ref L.root), some .non, some (.int i), v6, v7, v8, v9] Hb
        walk_at "st"
        refine ⟨L, S1, lc, lb, rfl, rfl, wb.nt, T, ?_⟩
        cases e1 : S1.x.holder with
        | none =>
          show (fun x H1 => _) V.non Hb
          walk_at "st"
          exact hN _ _ ⟨by rw [e1]; rfl, rfl⟩
        | some h =>
          show (fun x H1 => _) (V.int (h : Int)) Hb
          walk_at "st"
          rw [decide_eq_false (show ¬ hdV (some h) = V.non from fun z => nomatch (show V.int (h : Int) = V.non from z))]
          walk_at "st"
          refine ⟨L, S1, lc, lb, rfl, rfl, wb.nt, T, ?_⟩
          rw [e1]
          exact hN _ _ ⟨by rw [e1]; rfl, rfl⟩
    rintro σ' Hb' ⟨rfl, rfl⟩
    clear wa ti ed hg r rv sb
    walk_at "st"
    rename_i pe hpe pf hpf
    have fe : Fr F0 Hb' (upd (upd Hb' pe (.lst [.int 0])) pf (.lst [.int L.n, .int (0 - 1), .bl true, .non, .str "0", .ref pe])) := (Fr.new hpe).then_new hpf
    have ee : upd (upd Hb' pe (.lst [.int 0])) pf (.lst [.int L.n, .int (0 - 1), .bl true, .non, .str "0", .ref pe]) pe = some (.lst [.int 0]) := upd_new upd_same hpf
    have ef : upd (upd Hb' pe (.lst [.int 0])) pf (.lst [.int L.n, .int (0 - 1), .bl true, .non, .str "0", .ref pe]) pf = some (.lst [.int L.n, .int (0 - 1), .bl true, .non, .str "0", .ref pe]) := upd_same
    have wc := wb.fr0 fe
    have ne := wb.tw.new hpe
    have nf := wb.tw.new (b := pf) (upd_none.mp hpf).2
    generalize upd (upd Hb' pe (.lst [.int 0])) pf (.lst [.int L.n, .int (0 - 1), .bl true, .non, .str "0", .ref pe]) = Hc at *
    refine ⟨t, c, pf, _, rfl, wc.tw, ef, (fun z => nf (.inl z)), (fun z => nf (.inr z)), by simp, by simp, fun s odd Hd hv td fd => ?_⟩
    have wd := wc.town td fd
    have who : WhB Hd 0 ((L.n : Int) - 1) odd false := by
      rcases s with _ | _ | _ | _ | _ | _ | s
      · cases hv; exact .int _ (decide_eq_false (by omega)).symm
      · cases hv; exact .int _ (decide_eq_false (by omega)).symm
      · cases hv; exact .bl _
      · cases hv; exact .non
      · cases hv; exact .str _
      · cases hv; exact .lst (fd.keep _ _ ee ne)
      · simp at hv
    have rtd := wd.nt.rt
    clear hv ee ef fe fd td wc wb rtb
    walk_at "st"
    refine ⟨L, S1, lc, lb, odd, rfl, rfl, wd.nt, T, .inl ⟨who, fun He fe => ?_⟩⟩
    have we := wd.fr0 fe
    walk_at "st"
    refine ⟨t, c, L.n, rfl, we.tw, by omega, by omega, fun r Hf r0 r1 tf ff => ?_⟩
    have wf := we.town tf ff
    obtain ⟨h0, rfl⟩ := Int.eq_ofNat_of_zero_le r0
    have hh0 : h0 < L.n := by omega
    clear wd rtd who fe we ff tf
    refine x_gname ?_
    with_reducible refine x_seq ?_
    refine x_sj (fun σ' H' => ∃ hd : Nat, σ' = [some (.ref a), some (.ref t), some (.int L.n), some (.ref L.root), some (hdV S1.x.holder), some (.int i), some odd, some (.int hd), v8, v9] ∧ hd < L.n ∧ WAt H' t c L S1) (fun N hN => ?_) ?_
    · cases eh : S1.x.holder with
      | none =>
        rw [eh] at hN
        show tAsg _ _ _ [some (.ref a), some (.ref t), some (.int L.n), some (.ref L.root), some .non, some (.int i), some odd, some (.int h0), v8, v9] Hf
        walk_at "st"
        exact hN _ _ ⟨h0, rfl, hh0, wf⟩
      | some j =>
        have hj := hd_lt ti' eh
        rw [eh] at hN
        show tAsg _ _ _ [some (.ref a), some (.ref t), some (.int L.n), some (.ref L.root), some (.int (j : Int)), some (.int i), some odd, some (.int h0), v8, v9] Hf
        walk_at "st"
        refine ⟨t, c, 2, rfl, wf.tw, by decide, by decide, fun r Hg r0 r1 tg fg => ?_⟩
        have wg := wf.town tg fg
        walk_at "st"
        refine x_d2 (fun z => ?_) (fun z => ?_)
        · walk_at "st"
          exact hN _ _ ⟨j, rfl, hj, wg⟩
        · walk_at "st"
          exact hN _ _ ⟨h0, rfl, hh0, wg⟩
    rintro σ' Hg ⟨hd, rfl, hhd, wg⟩
    clear wf hh0 r0 r1
    have rtg := wg.nt.rt
    walk_at "st"
    refine ⟨L, S1, rfl, rfl, wg.nt, by omega, fun D Hh xs hD fh eg pg => ?_⟩
    have wh := wg.fr0 fh
    walk_at "st"
    by_cases eh : S1.x.holder = some hd
    · cases eu : S1.up hd with
      | true =>
        refine ⟨L, S1, lc, lb, _, rfl, rfl, wh.nt, T, .inr ⟨hd, rfl, hhd, .inr (.inl ⟨eh, ed', eu, fun p Hi fi ep => ?_⟩)⟩⟩
        have wi := wh.fr0 fi
        have rti := wi.nt.rt
        walk_at "st"
        refine x_neV (scI _ _) ?_
        rw [hdV_ne, decide_eq_true eh]
        walk_at "st"
        refine ⟨L, S1, rfl, rfl, wi.nt, by omega, fun D2 Hj hD2 fj ej => ?_⟩
        rw [nats_ints] at ej
        have wj := wi.fr0 fj
        have rtj := wj.nt.rt
        walk_at "st"
        rw [decide_eq_true ((mem_awk hhd).mpr eu)]
        walk_at "st"
        rename_i q hq
        have fk : Fr F0 Hj (upd Hj q (.tup [.str "awake", .int hd])) := .new hq
        refine x_neE' encAw (aw_at (fk.tup _ _ (fj.tup _ _ ep))) (aw_at upd_same) ?_
        rw [decide_eq_true rfl]
        have wk := wj.fr0 fk
        have rtk := wk.nt.rt
        have fK := (fi.trans fj).trans fk
        generalize upd Hj q (.tup [.str "awake", .int hd]) = Hk at *
        walk_at "st"
        refine ⟨L, S1, lc, lb, rfl, rfl, wk.nt, T, ?_⟩
        walk_at "st"
        refine x_neV (scH _) ?_
        rw [decide_eq_true rfl]
        walk_at "st"
        refine ⟨L, S1, rfl, rfl, wk.nt, by omega, fun D9 Hy ys hD9 fy ey py => ?_⟩
        have pg2 : Paired (WayAt L.n Hy) xs (wys L.n S1) := Paired.mapP pg fun v t ⟨q, a, b⟩ => ⟨q, a, (fK.trans fy).tup _ _ b⟩
        walk_at "st"
        refine x_neL encPair (lst_ways ey py) (lst_ways ((fK.trans fy).at0 eg) pg2) ?_
        rw [decide_eq_true rfl]
        walk_at "st"
        exact ⟨_, _, _, _, _, S1, rfl, wk.fr0 fy, ⟨ti'.row.mono (by omega), ti'.sum, ti'.tok, ti'.dn⟩, ed'⟩
      | false =>
        have pl := prv_lt (n := L.n) (i := hd) (by omega)
        refine ⟨L, S1, lc, lb, _, rfl, rfl, wh.nt, T, .inr ⟨hd, rfl, hhd, .inr (.inr ⟨eh, ed', eu, by have := ti'.row.len hd _ hhd pl; omega, fun Hi hi' si => ?_⟩)⟩⟩
        have wi := wh.stp hi' si
        have tiF := ti'.pass n2 hhd eh ed' eu
        have pd := pass_done' (n := L.n) (i := hd) ed'
        have pu := passR_up (n := L.n) (i := hd) (S := S1)
        have pn := passR_no (n := L.n) (i := hd) (S := S1)
        have p0 : tells S1 hd → (passR L.n S1 hd).x.holder = some hd := fun te => by unfold passR; rw [if_pos te]; exact eh
        generalize passR L.n S1 hd = S2 at *
        have rti := wi.nt.rt
        walk_at "st"
        refine x_neV (scI _ _) ?_
        rw [hdV_ne, decide_eq_true eh]
        walk_at "st"
        refine ⟨L, S2, rfl, rfl, wi.nt, by omega, fun D2 Hj hD2 fj ej => ?_⟩
        rw [nats_ints] at ej
        have wj := wi.fr0 fj
        have rtj := wj.nt.rt
        walk_at "st"
        rw [decide_eq_false (fun z => by
          have z := (mem_awk hhd).mp z
          rw [pu, eu] at z; cases z)]
        walk_at "st"
        refine ⟨L, S2, lc, lb, rfl, rfl, wj.nt, T, ?_⟩
        rw [pd]
        by_cases te : tells S1 hd
        · rw [decide_eq_true te] at pd ⊢
          walk_at "st"
          refine ⟨L, S2, lc, lb, rfl, rfl, wj.nt, T, ?_⟩
          rw [pd]
          walk_at "st"
          refine ⟨L, S2, lc, lb, _, rfl, rfl, wj.nt, T, .inr ⟨0, rfl, by omega, .inl ⟨(fun z => by rw [pd] at z; cases z.2), fun Hk fk => ?_⟩⟩⟩
          have wk := wj.fr0 fk
          have rtk := wk.nt.rt
          walk_at "st"
          refine ⟨L, S2, lc, lb, rfl, rfl, wk.nt, T, ?_⟩
          rw [p0 te, te.1]
          walk_at "st"
          refine x_eqV rfl ?_
          rw [decide_eq_true (show hdV (some 0) = V.int 0 from rfl)]
          exact k _
        · rw [decide_eq_false te] at pd ⊢
          obtain ⟨hn, l, el1, er⟩ := pn te
          walk_at "st"
          refine x_mod (by omega) ?_
          rw [show ((hd : Int) + (L.n : Int) - 1) % (L.n : Int) = ((prv L.n hd : Nat) : Int) by
            rw [show (hd : Int) + (L.n : Int) - 1 = ((hd + L.n - 1 : Nat) : Int) by omega]; rfl]
          walk_at "st"
          refine ⟨L, S2, hd, prv L.n hd, rfl, rfl, wj.nt, hhd, pl, prv_ne n2 hhd, by have := tiF.row.len hd _ hhd pl; omega, fun D3 Hk hD3 fk ek => ?_⟩
          have wk := wj.fr0 fk
          have rtk := wk.nt.rt
          walk_at "st"
          refine x_ninS (ns := (S2.rw hd (prv L.n hd)).map fun l => l.1) (by rw [ek, List.map_map]; rfl) ?_
          rw [decide_eq_true (show ("token" : Str) ∈ (S2.rw hd (prv L.n hd)).map fun l => l.1 from List.mem_map.mpr ⟨l, by rw [er]; exact List.mem_append_right _ (List.mem_singleton.mpr rfl), el1⟩)]
          walk_at "st"
          refine ⟨L, S2, lc, lb, rfl, rfl, wk.nt, T, ?_⟩
          rw [pd]
          walk_at "st"
          refine ⟨L, S2, lc, lb, rfl, rfl, wk.nt, T, ?_⟩
          rw [hn]
          show (fun x H1 => _) V.non Hk
          walk_at "st"
          exact ⟨_, _, _, _, _, S2, by rw [hn]; rfl, wk, ⟨tiF.row.mono (by omega), tiF.sum, tiF.tok, tiF.dn⟩, pd⟩
    · refine ⟨L, S1, lc, lb, _, rfl, rfl, wh.nt, T, .inr ⟨hd, rfl, hhd, .inl ⟨fun z => eh z.1, fun Hi fi => ?_⟩⟩⟩
      have wi := wh.fr0 fi
      have rti := wi.nt.rt
      walk_at "st"
      refine x_neV (scI _ _) ?_
      rw [hdV_ne, decide_eq_false eh]
      walk_at "st"
      refine ⟨L, S1, lc, lb, rfl, rfl, wi.nt, T, ?_⟩
      walk_at "st"
      refine x_neV (scH _) ?_
      rw [decide_eq_true rfl]
      walk_at "st"
      refine ⟨L, S1, rfl, rfl, wi.nt, by omega, fun D9 Hy ys hD9 fy ey py => ?_⟩
      have pg2 : Paired (WayAt L.n Hy) xs (wys L.n S1) := Paired.mapP pg fun v t ⟨q, a, b⟩ => ⟨q, a, (fi.trans fy).tup _ _ b⟩
      walk_at "st"
      refine x_neL encPair (lst_ways ey py) (lst_ways ((fi.trans fy).at0 eg) pg2) ?_
      rw [decide_eq_true rfl]
      walk_at "st"
      exact ⟨_, _, _, _, _, S1, rfl, wi.fr0 fy, ⟨ti'.row.mono (by omega), ti'.sum, ti'.tok, ti'.dn⟩, ed'⟩
  · rintro σ Hz ⟨v5, v6, v7, v8, v9, S, rfl, wz, _⟩
    walk_at "st"
    exact k Hz
end

/-! ### the end -/
theorem facts_law {P : Program} {w : World} {K : PySem.W.Frag} {h : Heap} {mg : Str → Option Value} {f : Addr} (X : K.In h) (N : h.Ns mainGlobals mg) (hfa : mg ("law" : Str) = some (.ref f)) (c : He.SaysD fa fn K) (ce : exK K = true) :
    ∃ fd : FuncData, (∀ (s : Shared) (v : Value), BindsTo s fd ⟨[v], []⟩ [("_law_script", v)]) ∧ ∀ base : Heap, K.In base → base.Ns mainGlobals mg → FnOk P w K mg base CX0 7 f fd ["_law_script"] (spLaw K) := by
  have W0 : Wd ⟨P, w, K, mg, h⟩ := wd_of X N c ce
  obtain ⟨fd, F⟩ := W0.f_law
  have e := hfa.symm.trans W0.g_law
  cases e
  have b := FunD.bindsA (ps := ["_law_script"]) F fun _ _ _ _ _ _ us hl => match us, hl with | [_], _ => rfl
  exact ⟨fd, fun s v => b s [v] rfl, fun base Xb Nb => law_ok (G := ⟨P, w, K, mg, base⟩) (wd_of Xb Nb c ce) F⟩
end Q
open PySem PySem.W PySem.Calls PyProof.Rows
theorem PySem.Challenge.cw_quietnet_k12_ring_passed_holds : PySem.Challenge.rw_quietnet_k12_ring_passed.Holds := by
  w_on; o_law
  refine HandSHeadRun.head_any (r := Q.R) (q := view Q.R.prog [34]) (H := Q.hk) (ob := Q.ob) (M := 30000) (loose := Q.loose) (d := HandSHeadRun.topDef Q.R.prog 34) (kwd := []) Q.ob_eq
    (by kernel_rfl) (fun s => by kernel_rfl) Q.run (by kernel_rfl) (by kernel_rfl) (by kernel_rfl) (by rfl) (by first | assumption | decide +kernel) (by decide +kernel) ⟨rfl, rfl, rfl, rfl, rfl, by decide +kernel⟩ ?hw ?hc
  case hw => w_witness2
  case hc =>
    refine L2.walk_ofE (l := PySem.Challenge.rw_quietnet_k12_ring_passed) (n := 63) (k := 7) (x := "_law_script") (CX := L2.CX0) rfl (by decide) (by kernel_rfl) ⟨rfl, by decide, by decide⟩ ?F (fun _ _ _ _ z => z)
    intro w mg fa h Y N hmg0
    obtain ⟨K, KX, c, ce⟩ := Y
    have hmg : mg ("law" : PySem.Str) = some (.ref fa) := by
      have e : (HandSHeadRun.topDef Q.R.prog 34).name = ("law" : PySem.Str) := by kernel_rfl
      rw [← e]
      exact hmg0
    obtain ⟨fd, hb, hF⟩ := Q.facts_law (P := PySem.Challenge.rw_quietnet_k12_ring_passed.prog) (w := w) KX N hmg c ce
    exact ⟨K, fd, Q.spLaw K, KX, hb, fun H a ns hl _ hS => ⟨a, ns, rfl, hS, hl, fun _ => rfl⟩, hF⟩
